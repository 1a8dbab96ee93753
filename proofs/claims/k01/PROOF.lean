import PyProof.Rows.All
import PySem.PyData
import PyProof.Fits
import PySem.Spec
import Wide.All
import OpenK.AllK
import Wide.FinOn
import HandS.ForMost
import HandS.Exc
import HandS.WordsExc
import HandS.CallSlots
import HandS.TupAny
import HandS.TupMul
import HandS.Deep
import HandS.Flow
import HandS.IsInst
import HandS.NoneIn
import HandS.Zip
import HandS.Conv
import HandS.TupLe
import HandS.Style
import HandS.TupLen
import HandS.DictComp
import HandS.Small
import HandS.More
import HandS.Strs
import KE.KDictZip
import KE.GoesZip
import KE.GoesMore
import KE.GoesEnum
import HandS.SetFor
import PyProof.Rows.SetFrom
import HandS.Head0
import HandS.Head1
import HandS.Head2
import HandS.HeadEnd
import HandS.HeadHook1
import HandS.HeadHook2
import PySem.Challenge.RW_smallwatchers_k01_forms_of_any_values
set_option Elab.async false
/-! Core: deep plain data, a small store of cells that change, and combinators for a part of Python. -/
set_option linter.all false
namespace Sw
open PySem (Str)

/-- plain data; `loc n`: the cell n of the store; `scr`: the script, that is handed in and stands still -/
inductive D where
  | non | bl (b : Bool) | int (i : Int) | str (s : Str) | tup (xs : List D) | lst (xs : List D) | loc (n : Nat) | scr (ns : List Int)
  deriving Inhabited
inductive Cell where
  | lst (xs : List D) | dct (kvs : List (D × D)) | dtt (kvs : List (D × D)) | ins (c : Str) (fs : List (Str × D))
  deriving Inhabited
abbrev Env := List (Option D)
abbrev Store := List Cell
structure Exc where
  cls : Str
  fs : List (Str × D)
abbrev Res (α : Type) := Option (Except Exc α × Store)
abbrev Act (α : Type) := Env → Store → Res α
abbrev Ex := Act D
abbrev Ax := Act (List D)
abbrev Tx := Act Bool
/-- how a statement ends -/
inductive SR where
  | nx (e : Env) | rt (d : D) | bk (e : Env) | ct (e : Env) | ex (x : Exc) (e : Env)
abbrev Sx := Env → Store → Option (SR × Store)
abbrev Fn := List D → Store → Res D

/-! ### looks at data -/
/-- no cell within, at most n deep -/
def okd : Nat → D → Bool
  | _, .non => true | _, .bl _ => true | _, .int _ => true | _, .str _ => true | _, .loc _ => false | _, .scr _ => false
  | 0, .tup _ => false | 0, .lst _ => false
  | n + 1, .tup xs => xs.all (okd n) | n + 1, .lst xs => xs.all (okd n)
abbrev D.ok (d : D) : Bool := okd 60 d
def Cell.ok : Cell → Bool
  | .lst xs => xs.all D.ok
  | .dct kvs => kvs.all fun p => p.1.ok && p.2.ok
  | .dtt kvs => kvs.all fun p => p.1.ok && p.2.ok
  | .ins _ fs => fs.all fun p => p.2.ok
def Exc.ok (x : Exc) : Bool := x.fs.all fun p => p.2.ok
/-- == of Python -/
def eqn : Nat → D → D → Bool
  | _, .non, .non => true
  | _, .bl a, .bl b => a == b
  | _, .bl a, .int j => (if a then 1 else 0) == j
  | _, .int i, .bl b => i == (if b then 1 else 0)
  | _, .int i, .int j => i == j
  | _, .str x, .str y => x == y
  | n + 1, .tup xs, .tup ys => xs.length == ys.length && (xs.zip ys).all fun p => eqn n p.1 p.2
  | n + 1, .lst xs, .lst ys => xs.length == ys.length && (xs.zip ys).all fun p => eqn n p.1 p.2
  | _, _, _ => false
abbrev D.eqv (a b : D) : Bool := eqn 60 a b
/-- a list that stands in a cell is what is in it -/
def see (st : Store) : D → D
  | .loc n => match st[n]? with
    | some (.lst xs) => .lst xs
    | _ => .loc n
  | d => d
def seq? (st : Store) : D → Option (List D)
  | .tup xs => some xs
  | .lst xs => some xs
  | .loc n => match st[n]? with
    | some (.lst xs) => some xs
    | _ => none
  | _ => none
def dct? (st : Store) : D → Option (List (D × D))
  | .loc n => match st[n]? with
    | some (.dct kvs) => some kvs
    | some (.dtt kvs) => some kvs
    | _ => none
  | _ => none
def truth (st : Store) : D → Option Bool
  | .non => some false
  | .bl b => some b
  | .int i => some (i != 0)
  | .str s => some (s.length != 0)
  | .tup xs => some !xs.isEmpty
  | .lst xs => some !xs.isEmpty
  | .loc n => match st[n]? with
    | some (.lst xs) => some !xs.isEmpty
    | _ => none
  | .scr _ => none

/-! ### actions -/
def Act.pure {α : Type} (v : α) : Act α := fun _ st => some (.ok v, st)
def Act.bind {α β : Type} (a : Act α) (f : α → Act β) : Act β := fun e st => match a e st with
  | some (.ok v, st') => f v e st'
  | some (.error x, st') => some (.error x, st')
  | none => none
/-- a look at the store that gives a value or is stuck -/
def look {α : Type} (f : Store → Option α) : Act α := fun _ st => (f st).map fun d => (.ok d, st)

def eVar (i : Nat) : Ex := fun e st => match e[i]? with
  | some (some d) => some (.ok d, st)
  | _ => none
def eC (d : D) : Ex := fun _ st => some (.ok d, st)
def op1 (g : Store → D → Option D) (a : Ex) : Ex := a.bind fun x => look fun st => g st x
def op2 (g : Store → D → D → Option D) (a b : Ex) : Ex := a.bind fun x => b.bind fun y => look fun st => g st x y
def op3 (g : Store → D → D → D → Option D) (a b c : Ex) : Ex := a.bind fun x => b.bind fun y => c.bind fun z => look fun st => g st x y z
/-- arguments, from the left -/
def aNil : Ax := fun _ st => some (.ok [], st)
def aCons (a : Ex) (r : Ax) : Ax := a.bind fun x => r.bind fun xs => Act.pure (x :: xs)
def opA (g : Store → List D → Option D) (a : Ax) : Ex := a.bind fun xs => look fun st => g st xs

/-! ### operators by values -/
def isSmall (i : Int) : Bool := decide (-(2 ^ 64) < i) && decide (i < 2 ^ 64)
def vAdd (_ : Store) : D → D → Option D
  | .int i, .int j => some (.int (i + j))
  | .str a, .str b => if a.length + b.length ≤ PySem.sizeLine then some (.str (a ++ b)) else none
  | .tup a, .tup b => if a.length + b.length ≤ PySem.sizeLine then some (.tup (a ++ b)) else none
  | .lst a, .lst b => if a.length + b.length ≤ PySem.sizeLine then some (.lst (a ++ b)) else none
  | _, _ => none
def vSub (_ : Store) : D → D → Option D
  | .int i, .int j => some (.int (i - j))
  | _, _ => none
def vMul (_ : Store) : D → D → Option D
  | .int i, .int j => if isSmall i || isSmall j then some (.int (i * j)) else none
  | .lst a, .int k => if 0 ≤ k ∧ k < 2 ^ 62 ∧ a.length * k.toNat ≤ PySem.sizeLine then some (.lst (List.replicate k.toNat a).flatten) else none
  | .tup a, .int k => if a.isEmpty = false ∧ 2 ≤ k ∧ k ≤ 1000 ∧ a.length ≤ 1000 then some (.tup (List.replicate k.toNat a).flatten) else none
  | _, _ => none
def vDiv (_ : Store) : D → D → Option D
  | .int i, .int j => if 0 < j ∧ j < 1073741824 then some (.int (i / j)) else none
  | _, _ => none
def vMod (_ : Store) : D → D → Option D
  | .int i, .int j => if 0 < j then some (.int (i % j)) else none
  | _, _ => none
def vPow (_ : Store) : D → D → Option D
  | .int i, .int j => if 0 ≤ j ∧ j ≤ 1000 ∧ isSmall i then some (.int (i ^ j.toNat)) else none
  | _, _ => none
def vNeg (_ : Store) : D → Option D
  | .int i => some (.int (-i))
  | _ => none
def vLt (_ : Store) : D → D → Option D
  | .int i, .int j => some (.bl (decide (i < j)))
  | _, _ => none
def vLe (_ : Store) : D → D → Option D
  | .int i, .int j => some (.bl (decide (i ≤ j)))
  | _, _ => none
def vGt (_ : Store) : D → D → Option D
  | .int i, .int j => some (.bl (decide (j < i)))
  | _, _ => none
def vGe (_ : Store) : D → D → Option D
  | .int i, .int j => some (.bl (decide (j ≤ i)))
  | _, _ => none
def vEq (st : Store) (a b : D) : Option D := if (see st a).ok && (see st b).ok then some (.bl ((see st a).eqv (see st b))) else none
def vNe (st : Store) (a b : D) : Option D := if (see st a).ok && (see st b).ok then some (.bl !((see st a).eqv (see st b))) else none
def vIsN (_ : Store) : D → Option D
  | .non => some (.bl true)
  | _ => some (.bl false)
def vNotN (_ : Store) : D → Option D
  | .non => some (.bl false)
  | _ => some (.bl true)
def vNot (st : Store) (d : D) : Option D := (truth st d).map fun b => .bl !b
/-- is x among xs -/
def mem? (x : D) (xs : List D) : Option Bool := if x.ok && xs.all D.ok then some (xs.any fun y => y.eqv x) else none
def vIn (st : Store) (x d : D) : Option D := match d with
  | .str t => match x with
    | .str s => match s.cps.toList with
      | [c] => some (.bl (decide (c ∈ t.cps.toList)))
      | _ => none
    | _ => none
  | d => match seq? st d with
    | some xs => (mem? x xs).map D.bl
    | none => none
def vNin (st : Store) (x d : D) : Option D := match vIn st x d with
  | some (.bl b) => some (.bl !b)
  | _ => none

/-- a place, of any sign -/
def ix? (n : Nat) (i : Int) : Option Nat := if 0 ≤ i then (if i < n then some i.toNat else none) else if -(n : Int) ≤ i then some (i + n).toNat else none
def vIx (st : Store) (d i : D) : Option D := match i with
  | .int k => match d with
    | .str s => (ix? s.cps.toList.length k).bind fun j => (s.cps.toList[j]?).map fun c => .str ⟨#[c]⟩
    | d => (seq? st d).bind fun xs => (ix? xs.length k).bind fun j => xs[j]?
  | _ => none
/-- a slice's end as a place among n (dflt where it is left out) -/
def cutAt (n dflt : Nat) : Option Int → Nat
  | none => dflt
  | some v => if v < 0 then (v + (n : Int)).toNat else min v.toNat n
def cut {α : Type} (xs : List α) (lo hi : Option Int) : List α := (xs.drop (cutAt xs.length 0 lo)).take (cutAt xs.length xs.length hi - cutAt xs.length 0 lo)
def vSlice (st : Store) (d : D) (lo hi : Option Int) : Option D := match d with
  | .str s => some (.str ⟨(cut s.cps.toList lo hi).toArray⟩)
  | .tup xs => some (.tup (cut xs lo hi))
  | .scr ns => some (.lst (cut (ns.map D.int) lo hi))
  | d => (seq? st d).map fun xs => .lst (cut xs lo hi)
def vRev (st : Store) (d : D) : Option D := match d with
  | .tup xs => some (.tup xs.reverse)
  | .str s => some (.str ⟨s.cps.toList.reverse.toArray⟩)
  | d => (seq? st d).map fun xs => .lst xs.reverse

/-! ### more expressions -/
/-- a part of a slice -/
abbrev Px := Act (Option Int)
def pNone : Px := fun _ st => some (.ok none, st)
def pSome (a : Ex) : Px := a.bind fun d => match d with
  | .int i => Act.pure (some i)
  | _ => fun _ _ => none
def eSlice (a : Ex) (l h : Px) : Ex := a.bind fun d => l.bind fun lo => h.bind fun hi => look fun st => vSlice st d lo hi
/-- a value as a test -/
def tV (a : Ex) : Tx := a.bind fun d => look fun st => truth st d
def tNot (t : Tx) : Tx := t.bind fun b => Act.pure !b
def tAnd (t u : Tx) : Tx := t.bind fun b => if b = true then u else Act.pure false
def tOr (t u : Tx) : Tx := t.bind fun b => if b = true then Act.pure true else u
def eIf (t : Tx) (a b : Ex) : Ex := t.bind fun k => if k = true then a else b
/-- and, or as values: by truth -/
def eAnd (a b : Ex) : Ex := a.bind fun d => (look fun st => truth st d : Tx).bind fun k => if k = true then b else eC d
def eOr (a b : Ex) : Ex := a.bind fun d => (look fun st => truth st d : Tx).bind fun k => if k = true then eC d else b
def eNotT (t : Ex) : Ex := op1 vNot t
/-- a op b op' c -/
def eChain (g g' : Store → D → D → Option D) (a b c : Ex) : Ex := a.bind fun x => b.bind fun y => (look fun st => g st x y : Ex).bind fun k => match k with
  | .bl true => c.bind fun z => look fun st => g' st y z
  | .bl false => eC (.bl false)
  | _ => fun _ _ => none
def eTup (a : Ax) : Ex := opA (fun _ xs => if xs.length ≤ PySem.sizeLine then some (.tup xs) else none) a
def eLst (a : Ax) : Ex := opA (fun _ xs => if xs.length ≤ PySem.sizeLine then some (.lst xs) else none) a
/-- a new cell -/
def newCell (c : Cell) : Ex := fun _ st => some (.ok (.loc st.length), st ++ [c])
def eLstC (a : Ax) : Ex := a.bind fun xs => if xs.length ≤ PySem.sizeLine then newCell (.lst xs) else fun _ _ => none
/-- a value list becomes a cell's -/
def eDctC : Ex := newCell (.dct [])
def eDctT : Ex := newCell (.dtt [])

/-! ### calls -/
def locIds : List D → List Nat
  | [] => []
  | .loc n :: r => if (locIds r).contains n then locIds r else n :: locIds r
  | _ :: r => locIds r
def inView (ids : List Nat) : D → D
  | .loc n => .loc (ids.idxOf n)
  | d => d
def putBack : List Nat → List Cell → Store → Store
  | n :: ids, c :: cs, st => putBack ids cs (st.set n c)
  | _, _, st => st
def outOf (ids : List Nat) (top : Nat) : D → D
  | .loc m => match ids[m]? with
    | some n => .loc n
    | none => .loc (top + (m - ids.length))
  | d => d
def isTop (d : D) : Bool := match d with | .loc _ => true | .scr _ => true | d => d.ok
def Act.ret {α : Type} (r : Except Exc α) (st : Store) : Res α := some (r, st)
/-- the callee sees the cells that are handed in, and no others -/
def viewCall (F : Fn) (ds : List D) (st : Store) : Res D :=
  let ids := locIds ds
  match ids.mapM (fun n => st[n]?) with
  | none => none
  | some cs => if ds.all isTop && cs.all Cell.ok then
      match F (ds.map (inView ids)) cs with
      | none => none
      | some (r, cs') => if ids.length ≤ cs'.length && cs'.all Cell.ok then
          match r with
          | .ok d => if isTop d then some (.ok (outOf ids st.length d), putBack ids cs' st ++ cs'.drop ids.length) else none
          | .error x => if x.ok then some (.error x, putBack ids cs' st ++ cs'.drop ids.length) else none
        else none
    else none
def eCall (F : Fn) (a : Ax) : Ex := a.bind fun ds => fun _ st => viewCall F ds st
/-- what a def leaves: cells of its own go, but the one that it hands back -/
def clean (n : Nat) (r : Except Exc D) (st : Store) : Res D := if (st.take n).all Cell.ok then
    match r with
    | .error x => if x.ok then some (.error x, st.take n) else none
    | .ok (.loc m) => if m < n then some (.ok (.loc m), st.take n) else match st[m]? with
      | some c => if c.ok then some (.ok (.loc n), st.take n ++ [c]) else none
      | none => none
    | .ok d => if d.ok then some (.ok d, st.take n) else none
  else none
def startE (N : Nat) (ds : List D) : Env := ds.map some ++ List.replicate (N - ds.length) none
/-- a def of n parameters and N names -/
def fn (n N : Nat) (b : Sx) : Fn := fun ds st => if ds.length = n then
    match b (startE N ds) st with
    | some (.nx _, st') => clean st.length (.ok .non) st'
    | some (.rt d, st') => clean st.length (.ok d) st'
    | some (.ex x _, st') => clean st.length (.error x) st'
    | _ => none
  else none

/-! ### statements -/
abbrev Tg := D → Env → Store → Option (Env × Store)
def sSkip : Sx := fun e st => some (.nx e, st)
def sSeq (a b : Sx) : Sx := fun e st => match a e st with
  | some (.nx e', st') => b e' st'
  | r => r
def sDo (a : Ex) : Sx := fun e st => match a e st with
  | some (.ok _, st') => some (.nx e, st')
  | some (.error x, st') => some (.ex x e, st')
  | none => none
def sRet (a : Ex) : Sx := fun e st => match a e st with
  | some (.ok d, st') => some (.rt d, st')
  | some (.error x, st') => some (.ex x e, st')
  | none => none
def sAsg (a : Ex) (g : Tg) : Sx := fun e st => match a e st with
  | some (.ok d, st') => match g d e st' with
    | some (e', st'') => some (.nx e', st'')
    | none => none
  | some (.error x, st') => some (.ex x e, st')
  | none => none
def gName (i : Nat) : Tg := fun d e st => some (e.set i (some d), st)
def gTups : List Tg → List D → Env → Store → Option (Env × Store)
  | [], [], e, st => some (e, st)
  | g :: gs, d :: ds, e, st => match g d e st with
    | some (e', st') => gTups gs ds e' st'
    | none => none
  | _, _, _, _ => none
def gTup (gs : List Tg) : Tg := fun d e st => match d with
  | .tup ds => gTups gs ds e st
  | .lst ds => gTups gs ds e st
  | _ => none
def sSet (i : Nat) (a : Ex) : Sx := sAsg a (gName i)
/-- a, b = x, y: both sides written -/
def sPar (gs : List Tg) (a : Ax) : Sx := fun e st => match a e st with
  | some (.ok ds, st') => match gTups gs ds e st' with
    | some (e', st'') => some (.nx e', st'')
    | none => none
  | some (.error x, st') => some (.ex x e, st')
  | none => none
def sIf (c : Tx) (a b : Sx) : Sx := fun e st => match c e st with
  | some (.ok true, st') => a e st'
  | some (.ok false, st') => b e st'
  | some (.error x, st') => some (.ex x e, st')
  | none => none
def sBreak : Sx := fun e st => some (.bk e, st)
def sCont : Sx := fun e st => some (.ct e, st)
def sNever : Sx := fun _ _ => none
def sRaise (c : Str) (ns : List Str) (a : Ax) : Sx := fun e st => match a e st with
  | some (.ok ds, st') => if ds.length = ns.length then some (.ex ⟨c, ns.zip ds⟩ e, st') else none
  | some (.error x, st') => some (.ex x e, st')
  | none => none
def wipe (e : Env) : List Nat → Env
  | [] => e
  | v :: vs => (wipe e vs).set v none
def forL (g : Tg) (vs : List Nat) (b : Sx) : List D → Sx
  | [] => sSkip
  | d :: ds => fun e st => match g d e st with
    | none => none
    | some (e1, st1) => match b e1 st1 with
      | some (.nx e2, st2) => forL g vs b ds (wipe e2 vs) st2
      | some (.ct e2, st2) => forL g vs b ds (wipe e2 vs) st2
      | some (.bk e2, st2) => some (.nx (wipe e2 vs), st2)
      | r => r
/-- for over what stands still -/
def sFor (it : Act (List D)) (g : Tg) (vs : List Nat) (b : Sx) : Sx := fun e st => match it e st with
  | some (.ok ds, st') => forL g vs b ds (wipe e vs) st'
  | some (.error x, st') => some (.ex x e, st')
  | none => none
def whileN (c : Tx) (vs : List Nat) (b : Sx) : Nat → Sx
  | 0 => fun _ _ => none
  | n + 1 => fun e st => match c e st with
    | none => none
    | some (.error x, st1) => some (.ex x e, st1)
    | some (.ok false, st1) => some (.nx e, st1)
    | some (.ok true, st1) => match b e st1 with
      | some (.nx e2, st2) => whileN c vs b n (wipe e2 vs) st2
      | some (.ct e2, st2) => whileN c vs b n (wipe e2 vs) st2
      | some (.bk e2, st2) => some (.nx (wipe e2 vs), st2)
      | r => r
open Classical in
noncomputable def sWhile (c : Tx) (vs : List Nat) (b : Sx) : Sx := fun e st =>
  if h : ∃ n r, whileN c vs b n (wipe e vs) st = some r then whileN c vs b h.choose (wipe e vs) st else none

/-! ### comprehensions -/
def compL (g : Tg) (c : Tx) (y : Ex) : List D → Env → Store → Option (List D × Store)
  | [], _, st => some ([], st)
  | d :: ds, e, st => match g d e st with
    | none => none
    | some (e1, st1) => match c e1 st1 with
      | some (.ok true, st2) => match y e1 st2 with
        | some (.ok v, st3) => match compL g c y ds e st3 with
          | some (vs, st4) => some (v :: vs, st4)
          | none => none
        | _ => none
      | some (.ok false, st2) => compL g c y ds e st2
      | _ => none
def tYes : Tx := fun _ st => some (.ok true, st)
/-- [y for g in it if c]; vs: the places of its own names -/
def eLc (it : Act (List D)) (g : Tg) (vs : List Nat) (c : Tx) (y : Ex) : Ex := it.bind fun ds => fun e st => match compL g c y ds (wipe e vs) st with
  | some (ys, st') => some (.ok (.lst ys), st')
  | none => none

/-! ### what is walked -/
def iSeq (a : Ex) : Act (List D) := a.bind fun d => look fun st => match d with
  | .str s => some (s.cps.toList.map fun c => .str ⟨#[c]⟩)
  | .tup xs => some xs
  | .lst xs => some xs
  | _ => none
def rangeL (lo hi : Int) : List D := (List.range (hi - lo).toNat).map fun (k : Nat) => D.int (lo + (k : Int))
def iRange1 (a : Ex) : Act (List D) := a.bind fun d => look fun _ => match d with
  | .int j => if j ≤ PySem.sizeLine ∧ -(2 ^ 62) ≤ j then some (rangeL 0 j) else none
  | _ => none
def iRange2 (a b : Ex) : Act (List D) := a.bind fun d => b.bind fun d2 => look fun _ => match d, d2 with
  | .int i, .int j => if -(2 ^ 62) ≤ i ∧ i < 2 ^ 62 ∧ -(2 ^ 62) ≤ j ∧ j < 2 ^ 62 ∧ j - i ≤ PySem.sizeLine then some (rangeL i j) else none
  | _, _ => none
def enumL (xs : List D) : List D := xs.mapIdx fun i x => .tup [.int i, x]
def iEnum (a : Ex) : Act (List D) := a.bind fun d => look fun st => (seq? st d).map enumL
def zipL (xs ys : List D) : List D := (xs.zip ys).map fun p => .tup [p.1, p.2]
def iZip (a b : Ex) : Act (List D) := a.bind fun d => b.bind fun d2 => look fun st => (seq? st d).bind fun xs => (seq? st d2).map fun ys => zipL xs ys

/-! ### built-in functions -/
def gLen (st : Store) : List D → Option D
  | [.str s] => some (.int s.length)
  | [d] => match seq? st d with
    | some xs => some (.int xs.length)
    | none => (dct? st d).map fun kvs => .int kvs.length
  | _ => none
def gAbs (_ : Store) : List D → Option D
  | [.int i] => some (.int (if i < 0 then -i else i))
  | _ => none
def gInt (_ : Store) : List D → Option D
  | [.int i] => some (.int i)
  | [.bl b] => some (.int (if b then 1 else 0))
  | _ => none
def bls? : List D → Option (List Bool)
  | [] => some []
  | .bl b :: r => (bls? r).map (b :: ·)
  | _ => none
def ints? : List D → Option (List Int)
  | [] => some []
  | .int b :: r => (ints? r).map (b :: ·)
  | _ => none
def strs? : List D → Option (List Str)
  | [] => some []
  | .str b :: r => (strs? r).map (b :: ·)
  | _ => none
def lstOf (st : Store) : D → Option (List D)
  | .lst xs => some xs
  | .loc n => match st[n]? with
    | some (.lst xs) => some xs
    | _ => none
  | _ => none
def gAll (st : Store) : List D → Option D
  | [d] => (lstOf st d).bind fun xs => (bls? xs).map fun bs => .bl (bs.all id)
  | _ => none
def gAny (st : Store) : List D → Option D
  | [d] => (lstOf st d).bind fun xs => (bls? xs).map fun bs => .bl (bs.any id)
  | _ => none
def gSum (st : Store) : List D → Option D
  | [d] => (lstOf st d).bind fun xs => (ints? xs).map fun bs => .int bs.sum
  | _ => none
def gList (st : Store) : List D → Option D
  | [d] => (seq? st d).map D.lst
  | _ => none
def gTuple (st : Store) : List D → Option D
  | [d] => (seq? st d).map D.tup
  | _ => none
def gMax2 (_ : Store) : List D → Option D
  | [.int i, .int j] => some (.int (if j > i then j else i))
  | _ => none
def gMin2 (_ : Store) : List D → Option D
  | [.int i, .int j] => some (.int (if j < i then j else i))
  | _ => none
/-- the type's name -/
def tyN (st : Store) : D → Option String
  | .non => some "NoneType" | .bl _ => some "bool" | .int _ => some "int" | .str _ => some "str" | .tup _ => some "tuple" | .lst _ => some "list"
  | .loc n => match st[n]? with
    | some (.lst _) => some "list"
    | some (.dct _) => some "dict"
    | some (.dtt _) => some "dict"
    | _ => none
  | .scr _ => none
def subTy (a b : String) : Bool := a == b || (a == "bool" && b == "int")
def vIsi (ts : List String) (st : Store) (d : D) : Option D := (tyN st d).map fun t => .bl (ts.any fun b => subTy t b)
def iEnumL (a : Ex) : Act (List D) := a.bind fun d => look fun st => match d with
  | .lst xs => some (enumL xs)
  | _ => none
def iZip2 (a b : Ex) : Act (List D) := a.bind fun d => b.bind fun d2 => look fun _ => match d, d2 with
  | .lst xs, .lst ys => some (zipL xs ys)
  | .tup xs, .tup ys => some (zipL xs ys)
  | _, _ => none
def vRevL (st : Store) (d : D) : Option D := (lstOf st d).map fun xs => .lst xs.reverse
end Sw

/-! Sem2: more semantics. -/
set_option linter.all false
set_option maxRecDepth 100000
namespace Sw
open PySem (Str)
/-! ### more semantics -/
/-- a key: an int, a text -/
def keyEq : D → D → Bool
  | .int i, .int j => i == j
  | .str a, .str b => a == b
  | _, _ => false
def isKey : D → Bool
  | .int _ => true
  | .str _ => true
  | _ => false
def getKv (kvs : List (D × D)) (k : D) : Option D := (kvs.find? fun p => keyEq p.1 k).map (·.2)
def putKv (kvs : List (D × D)) (k v : D) : List (D × D) := if (kvs.any fun p => keyEq p.1 k) = true then kvs.map (fun p => if keyEq p.1 k = true then (p.1, v) else p) else kvs ++ [(k, v)]
/-- o[k] = v -/
def setIx (st : Store) (o k v : D) : Option Store := match o with
  | .loc n => match st[n]? with
    | some (.lst xs) => match k with
      | .int i => (ix? xs.length i).map fun j => st.set n (.lst (xs.set j v))
      | _ => none
    | some (.dct kvs) => if isKey k ∧ kvs.length < PySem.sizeLine then some (st.set n (.dct (putKv kvs k v))) else none
    | _ => none
  | _ => none
def gSet (o i : Ex) : Tg := fun d e st => match o e st with
  | some (.ok x, st1) => match i e st1 with
    | some (.ok k, st2) => (setIx st2 x k d).map fun st3 => (e, st3)
    | _ => none
  | _ => none
/-- a place read -/
def getIx (st : Store) (o k : D) : Option D := match o with
  | .loc n => match st[n]? with
    | some (.lst xs) => match k with
      | .int i => (ix? xs.length i).bind fun j => xs[j]?
      | _ => none
    | some (.dct kvs) => getKv kvs k
    | _ => none
  | _ => none
/-- x op= e -/
def sAug (i : Nat) (f : Store → D → D → Option D) (a : Ex) : Sx := fun e st => match e[i]? with
  | some (some x) => match a e st with
    | some (.ok d, st') => match f st' x d with
      | some z => some (.nx (e.set i (some z)), st')
      | none => none
    | some (.error x, st') => some (.ex x e, st')
    | none => none
  | _ => none
/-- o[k] op= e -/
def sAugS (f : Store → D → D → Option D) (o i a : Ex) : Sx := fun e st => match o e st with
  | some (.ok x, st1) => match i e st1 with
    | some (.ok k, st2) => match getIx st2 x k with
      | some y => match a e st2 with
        | some (.ok d, st3) => match f st3 y d with
          | some z => match setIx st3 x k z with
            | some st4 => some (.nx e, st4)
            | none => none
          | none => none
        | _ => none
      | none => none
    | _ => none
  | _ => none
def eMeth (T : String) (g : Store → D → List D → Option (D × Store)) (a : Ex) (as : Ax) : Ex :=
  a.bind fun x => (look fun st => if tyN st x = some T then some () else none : Act Unit).bind fun _ => as.bind fun xs => fun _ st => (g st x xs).map fun p => (.ok p.1, p.2)
def mAppend (st : Store) : D → List D → Option (D × Store)
  | .loc n, [y] => match st[n]? with
    | some (.lst xs) => if xs.length < PySem.sizeLine then some (.non, st.set n (.lst (xs ++ [y]))) else none
    | _ => none
  | _, _ => none
def mExtend (st : Store) : D → List D → Option (D × Store)
  | .loc n, [y] => match st[n]?, lstOf st y with
    | some (.lst xs), some ys => if xs.length + ys.length ≤ PySem.sizeLine then some (.non, st.set n (.lst (xs ++ ys))) else none
    | _, _ => none
  | _, _ => none
def mPop (st : Store) : D → List D → Option (D × Store)
  | .loc n, [] => match st[n]? with
    | some (.lst xs) => (xs[xs.length - 1]?).map fun y => (y, st.set n (.lst xs.dropLast))
    | _ => none
  | .loc n, [.int i] => match st[n]? with
    | some (.lst xs) => (ix? xs.length i).bind fun j => (xs[j]?).map fun y => (y, st.set n (.lst (xs.eraseIdx j)))
    | _ => none
  | _, _ => none
def aAdd (_ : Store) : D → D → Option D
  | .int i, .int j => some (.int (i + j))
  | _, _ => none
def aSub (_ : Store) : D → D → Option D
  | .int i, .int j => some (.int (i - j))
  | _, _ => none
/-! ### semantics -/
def vZipL (st : Store) (x y : D) : Option D := match x, y with
  | .tup xs, .tup ys => some (.lst (zipL xs ys))
  | x, y => (lstOf st x).bind fun xs => (lstOf st y).map fun ys => .lst (zipL xs ys)
/-- what is sorted -/
def insI (i : Int) : List Int → List Int
  | [] => [i]
  | j :: r => if i ≤ j then i :: j :: r else j :: insI i r
def sortI : List Int → List Int
  | [] => []
  | i :: r => insI i (sortI r)
def leS (x y : Str) : Bool := !PySem.Spec.ltCps y.cps.toList x.cps.toList
def insS (i : Str) : List Str → List Str
  | [] => [i]
  | j :: r => if leS i j = true then i :: j :: r else j :: insS i r
def sortS : List Str → List Str
  | [] => []
  | i :: r => insS i (sortS r)
def sortD (xs : List D) : Option D := match ints? xs with
  | some ns => if ns.length < 64 then some (.lst ((sortI ns).map D.int)) else none
  | none => match strs? xs with
    | some ns => if ns.length < 64 then some (.lst ((sortS ns).map D.str)) else none
    | none => none
def gSorted (st : Store) : List D → Option D
  | [.loc n] => match st[n]? with
    | some (.lst xs) => sortD xs
    | some (.dct kvs) => sortD (kvs.map (·.1))
    | _ => none
  | [.lst xs] => sortD xs
  | _ => none
/-- the items one by one, each at its first place -/
def dedup (xs : List Int) : List Int := xs.foldl (fun acc x => if x ∈ acc then acc else acc ++ [x]) []
def gListC (st : Store) : List D → Option (D × Store)
  | [d] => (seq? st d).map fun xs => (.loc st.length, st ++ [.lst xs])
  | _ => none
def opAS (g : Store → List D → Option (D × Store)) (a : Ax) : Ex := a.bind fun xs => fun _ st => (g st xs).map fun p => (.ok p.1, p.2)
def compD (g : Tg) (c : Tx) (k y : Ex) : List D → Env → Store → List (D × D) → Option (List (D × D) × Store)
  | [], _, st, acc => some (acc, st)
  | d :: ds, e, st, acc => match g d e st with
    | none => none
    | some (e1, st1) => match c e1 st1 with
      | some (.ok true, st2) => match k e1 st2 with
        | some (.ok kd, st3) => if isKey kd = true then match y e1 st3 with
            | some (.ok v, st4) => compD g c k y ds e st4 (putKv acc kd v)
            | _ => none
          else none
        | _ => none
      | some (.ok false, st2) => compD g c k y ds e st2 acc
      | _ => none
def eDc (it : Act (List D)) (g : Tg) (vs : List Nat) (c : Tx) (k y : Ex) : Ex := it.bind fun ds => fun e st => match compD g c k y ds (wipe e vs) st [] with
  | some (kvs, st') => some (.ok (.loc st'.length), st' ++ [.dct kvs])
  | none => none
def vRevA (st : Store) (d : D) : Option D := match d with
  | .tup xs => some (.tup xs.reverse)
  | d => (lstOf st d).map fun xs => .lst xs.reverse
def vSortSet (st : Store) (d : D) : Option D := (lstOf st d).bind fun xs => match ints? xs with
  | some ns => if ns.length < 64 then some (.lst ((sortI (dedup ns)).map D.int)) else none
  | none => none
theorem whileN_more {tc : Tx} {vs : List Nat} {cb : Sx} : ∀ {n m : Nat} {e : Env} {st : Store} {r : SR × Store}, whileN tc vs cb n e st = some r → n ≤ m → whileN tc vs cb m e st = some r
  | 0, _, _, _, _, h, _ => by unfold whileN at h; cases h
  | n + 1, 0, _, _, _, _, h => by omega
  | n + 1, m + 1, e, st, r, h, hl => by
    unfold whileN at h ⊢
    cases hc : tc e st with
    | none => rw [hc] at h; cases h
    | some p =>
      obtain ⟨q, st1⟩ := p
      rw [hc] at h
      cases q with
      | error x => exact h
      | ok b =>
        cases b with
        | false => exact h
        | true =>
          dsimp only at h ⊢
          cases hb : cb e st1 with
          | none => rw [hb] at h; cases h
          | some p2 =>
            obtain ⟨q2, st2⟩ := p2
            rw [hb] at h
            cases q2 with
            | nx e2 => exact whileN_more h (by omega)
            | ct e2 => exact whileN_more h (by omega)
            | bk e2 => exact h
            | rt e2 => exact h
            | ex x e2 => exact h
theorem sWhile_iff {tc : Tx} {vs : List Nat} {cb : Sx} {e : Env} {st : Store} {r : SR × Store} : sWhile tc vs cb e st = some r ↔ ∃ n, whileN tc vs cb n (Sw.wipe e vs) st = some r := by
  unfold sWhile
  constructor
  · intro h
    split at h
    · exact ⟨_, h⟩
    · cases h
  · rintro ⟨n, h⟩
    have hx : ∃ n r, whileN tc vs cb n (Sw.wipe e vs) st = some r := ⟨n, r, h⟩
    rw [dif_pos hx]
    obtain ⟨r', h'⟩ := hx.choose_spec
    rw [h']
    have h1 := whileN_more h (Nat.le_max_left n hx.choose)
    have h2 := whileN_more h' (Nat.le_max_right n hx.choose)
    rw [h1] at h2
    exact h2.symm
theorem insI_perm (i : Int) : ∀ l : List Int, (insI i l).Perm (i :: l)
  | [] => .refl _
  | j :: r => by
    unfold insI
    split
    · exact .refl _
    · exact ((insI_perm i r).cons j).trans (.swap i j r)
theorem sortI_perm : ∀ l : List Int, (sortI l).Perm l
  | [] => .refl _
  | i :: r => (insI_perm i _).trans ((sortI_perm r).cons i)
theorem insI_sorted (i : Int) : ∀ {l : List Int}, l.Pairwise (· ≤ ·) → (insI i l).Pairwise (· ≤ ·)
  | [], _ => by simp [insI]
  | j :: r, h => by
    obtain ⟨h1, h2⟩ := List.pairwise_cons.mp h
    unfold insI
    split
    · rename_i hij
      exact List.pairwise_cons.mpr ⟨fun y hy => by
        rcases List.mem_cons.mp hy with e | e
        · omega
        · have := h1 y e; omega, h⟩
    · rename_i hij
      refine List.pairwise_cons.mpr ⟨fun y hy => ?_, insI_sorted i h2⟩
      rcases List.mem_cons.mp ((insI_perm i r).mem_iff.mp hy) with e | e
      · omega
      · exact h1 y e
theorem sortI_sorted : ∀ l : List Int, (sortI l).Pairwise (· ≤ ·)
  | [] => .nil
  | i :: r => insI_sorted i (sortI_sorted r)
theorem sortI_eq {l m : List Int} (h : m.Perm l) (hs : m.Pairwise (· ≤ ·)) : m = sortI l :=
  List.Perm.eq_of_pairwise (le := (· ≤ ·)) (fun a b _ _ h1 h2 => by omega) hs (sortI_sorted l) (h.trans (sortI_perm l).symm)
end Sw

/-! Rel: how plain data and cells lie in the abstract heap; what an expression's, a statement's combinator is worth. -/
set_option Elab.async false
set_option linter.all false
set_option maxRecDepth 100000
set_option maxHeartbeats 4000000
namespace Sw
open PySem PySem.Spec PyProof.Rows L2

abbrev Frag := PySem.W.Frag
def strOk (x : Str) : Prop := x.cps.all (· < 0x110000) = true ∧ x.length ≤ sizeLine
/-- the script at a -/
def ScrAt (K : Frag) (H : Hp) (a : Addr) (ns : List Int) : Prop := (∃ o, H a = some (.frz o (.lst (ns.map V.int)))) ∨
  ∃ (o : Obj) (its : Array Value) (n : Nat), K.lookup a = some o ∧ o.cls = .type "list" ∧ o.dict = none ∧ o.data = .seq its n ∧ its.size ≤ sizeLine ∧ Vals (ns.map V.int) its.toList
theorem ScrAt.sq {K : Frag} {H : Hp} {a : Addr} {ns : List Int} (h : ScrAt K H a ns) : SqL K H a (ns.map V.int) := h.imp (fun h => .inr h) id
mutual
inductive RD (K : Frag) (B : Addr → Prop) (φ : List Addr) (H : Hp) : V → D → Prop
  | non : RD K B φ H .non .non
  | bl (b : Bool) : RD K B φ H (.bl b) (.bl b)
  | int (i : Int) : RD K B φ H (.int i) (.int i)
  | str (x : Str) (h : strOk x) : RD K B φ H (.str x) (.str x)
  | tup {a : Addr} {xs : List V} {ds : List D} : SqT K H a xs → RDs K B φ H xs ds → RD K B φ H (.ref a) (.tup ds)
  | lst {a : Addr} {xs : List V} {ds : List D} : H a = some (.lst xs) → ¬ B a → RDs K B φ H xs ds → RD K B φ H (.ref a) (.lst ds)
  | loc {a : Addr} {n : Nat} : φ[n]? = some a → RD K B φ H (.ref a) (.loc n)
  | scr {a : Addr} {ns : List Int} : ScrAt K H a ns → RD K B φ H (.ref a) (.scr ns)
inductive RDs (K : Frag) (B : Addr → Prop) (φ : List Addr) (H : Hp) : List V → List D → Prop
  | nil : RDs K B φ H [] []
  | cons {v : V} {d : D} {vs : List V} {ds : List D} : RD K B φ H v d → RDs K B φ H vs ds → RDs K B φ H (v :: vs) (d :: ds)
end
/-- a key of a dict as it lies -/
def keyD : Key → D
  | .inl i => .int i
  | .inr x => .str x
/-- a key's texts are texts -/
def okKD : D → Prop
  | .str x => strOk x
  | .tup xs => ∀ y ∈ xs, match y with | .str x => strOk x | _ => True
  | _ => True
/-- pairs of a dict -/
inductive RKv (K : Frag) (B : Addr → Prop) (φ : List Addr) (H : Hp) {κ : Type} (kd : κ → D) : List (κ × V) → List (D × D) → Prop
  | nil : RKv K B φ H kd [] []
  | cons {k : κ} {v : V} {d : D} {vs : List (κ × V)} {ds : List (D × D)} : okKD (kd k) → RD K B φ H v d → RKv K B φ H kd vs ds → RKv K B φ H kd ((k, v) :: vs) ((kd k, d) :: ds)
inductive RFs (K : Frag) (B : Addr → Prop) (φ : List Addr) (H : Hp) : List (Str × V) → List (Str × D) → Prop
  | nil : RFs K B φ H [] []
  | cons {k : Str} {v : V} {d : D} {vs : List (Str × V)} {ds : List (Str × D)} : RD K B φ H v d → RFs K B φ H vs ds → RFs K B φ H ((k, v) :: vs) ((k, d) :: ds)
def tupKey (ks : List Key) : D := .tup (ks.map keyD)
def RC (K : Frag) (mg : Str → Option Value) (B : Addr → Prop) (φ : List Addr) (H : Hp) (a : Addr) : Cell → Prop
  | .lst ds => ∃ xs, H a = some (.lst xs) ∧ RDs K B φ H xs ds
  | .dct kvs => ∃ ks, H a = some (.dK ks) ∧ RKv K B φ H keyD ks kvs
  | .dtt kvs => ∃ ks, H a = some (.dT ks) ∧ RKv K B φ H tupKey ks kvs
  | .ins c fs => ∃ C dx vs, mg c = some (.ref C) ∧ H a = some (.ins C dx vs) ∧ RFs K B φ H vs fs
structure RS (K : Frag) (mg : Str → Option Value) (B : Addr → Prop) (φ : List Addr) (H : Hp) (st : Store) : Prop where
  len : φ.length = st.length
  nd : φ.Nodup
  sub : ∀ a, a ∈ φ → B a
  there : ∀ a, B a → H a ≠ none
  at_ : ∀ (n : Nat) (c : Cell), st[n]? = some c → ∃ a, φ[n]? = some a ∧ RC K mg B φ H a c
/-- from one state on to another -/
structure Go (φ : List Addr) (B : Addr → Prop) (H : Hp) (φ' : List Addr) (B' : Addr → Prop) (H' : Hp) : Prop where
  sub : ∀ a, a ∈ φ → B a
  keep : ∀ a o, H a = some o → a ∉ φ → H' a = some o
  pre : φ <+: φ'
  mono : ∀ a, B a → B' a
  fresh : ∀ a, B' a → B a ∨ H a = none
  inφ : ∀ a, a ∈ φ' → a ∈ φ ∨ H a = none
def REnv (K : Frag) (B : Addr → Prop) (φ : List Addr) (H : Hp) (σ : L2.St) (e : Env) : Prop :=
  σ.length = e.length ∧ ∀ (i : Nat) (d : D), e[i]? = some (some d) → ∃ v, σ[i]? = some (some v) ∧ RD K B φ H v d
/-- an exception as it flies -/
def RX (K : Frag) (mg : Str → Option Value) (B : Addr → Prop) (φ : List Addr) (H : Hp) (x : Exc) (cls : Value) (dx : Option Addr) : Prop :=
  ∃ C, mg x.cls = some (.ref C) ∧ cls = .ref C ∧ ((x.fs = [] ∧ dx = none) ∨ ∃ d vs, dx = some d ∧ H d = some (.xd vs) ∧ RFs K B φ H vs x.fs)

theorem nodupIx {α : Type} {l : List α} {i j : Nat} {a : α} (nd : l.Nodup) (h1 : l[i]? = some a) (h2 : l[j]? = some a) : i = j := by
  induction l generalizing i j with
  | nil => simp at h1
  | cons x t ih =>
    have nx := (List.nodup_cons.mp nd).1
    cases i with
    | zero => cases j with
      | zero => rfl
      | succ j => simp at h1 h2; subst h1; exact absurd (List.mem_of_getElem? h2) nx
    | succ i => cases j with
      | zero => simp at h1 h2; subst h2; exact absurd (List.mem_of_getElem? h1) nx
      | succ j => exact congrArg (· + 1) (ih (List.nodup_cons.mp nd).2 (by simpa using h1) (by simpa using h2))
section
variable {K : Frag} {mg : Str → Option Value} {B B' B2 : Addr → Prop} {φ φ' φ2 : List Addr} {H H' H2 : Hp} {st st' : Store}
theorem Go.refl (rs : RS K mg B φ H st) : Go φ B H φ B H := ⟨rs.sub, fun _ _ h _ => h, List.prefix_refl _, fun _ h => h, fun _ h => .inl h, fun _ h => .inl h⟩
theorem Go.none (g : Go φ B H φ' B' H') {a : Addr} (e : H' a = none) (na : a ∉ φ) : H a = none := by
  cases q : H a with
  | none => rfl
  | some o => rw [g.keep a o q na] at e; cases e
theorem Go.trans (g : Go φ B H φ' B' H') (g2 : Go φ' B' H' φ2 B2 H2) : Go φ B H φ2 B2 H2 := by
  refine ⟨g.sub, fun a o h na => g2.keep a o (g.keep a o h na) fun hm => ?_, g.pre.trans g2.pre, fun a h => g2.mono a (g.mono a h), fun a h => ?_, fun a h => ?_⟩
  · rcases g.inφ a hm with z | z
    · exact na z
    · rw [h] at z; cases z
  · by_cases hm : a ∈ φ
    · exact .inl (g.sub a hm)
    · rcases g2.fresh a h with z | z
      · exact g.fresh a z
      · exact .inr (g.none z hm)
  · by_cases hm : a ∈ φ
    · exact .inl hm
    · rcases g2.inφ a h with z | z
      · exact g.inφ a z
      · exact .inr (g.none z hm)
def isMut : HO → Prop
  | .lst _ => True | .dK _ => True | .dT _ => True | .ins _ _ _ => True | _ => False
theorem RC.mut {a : Addr} {c : Cell} (h : RC K mg B φ H a c) : ∃ o, H a = some o ∧ isMut o := by
  cases c with
  | lst ds => obtain ⟨xs, e, _⟩ := h; exact ⟨_, e, trivial⟩
  | dct kvs => obtain ⟨ks, e, _⟩ := h; exact ⟨_, e, trivial⟩
  | dtt kvs => obtain ⟨ks, e, _⟩ := h; exact ⟨_, e, trivial⟩
  | ins c fs => obtain ⟨C, dx, vs, _, e, _⟩ := h; exact ⟨_, e, trivial⟩
theorem RS.mut (rs : RS K mg B φ H st) {a : Addr} (h : a ∈ φ) : ∃ o, H a = some o ∧ isMut o := by
  obtain ⟨n, hn, e⟩ := List.mem_iff_getElem.mp h
  have hn' : n < st.length := by rw [← rs.len]; exact hn
  obtain ⟨b, e1, rc⟩ := rs.at_ n st[n] (List.getElem?_eq_getElem hn')
  have : b = a := by
    rw [List.getElem?_eq_getElem hn, e] at e1
    exact (Option.some.inj e1).symm
  subst this
  exact rc.mut
theorem RS.notTup (rs : RS K mg B φ H st) {a : Addr} {xs : List V} (h : Rd H a (.tup xs)) : a ∉ φ := fun hm => by
  obtain ⟨o, e, m⟩ := rs.mut hm
  rcases h with h | ⟨q, h⟩ <;> (rw [h] at e; cases e; exact m)
/-- what is kept: reading on -/
structure Keeps (P : Addr → Prop) (H H' : Hp) : Prop where
  keep : ∀ a o, H a = some o → ¬ P a → H' a = some o
theorem Rd.go {u : HO} {a : Addr} (k : ∀ o, H a = some o → H' a = some o) (h : Rd H a u) : Rd H' a u := by
  rcases h with h | ⟨q, h⟩
  · exact .inl (k _ h)
  · exact .inr ⟨q, k _ h⟩
mutual
/-- the relation goes on, where tuples and lists that are no one's stay -/
theorem RD.on (ht : ∀ a xs, Rd H a (.tup xs) → Rd H' a (.tup xs)) (hl : ∀ a xs, H a = some (.lst xs) → ¬ B a → H' a = some (.lst xs) ∧ ¬ B' a) (hz : ∀ a o u, H a = some (.frz o u) → H' a = some (.frz o u)) (hp : ∀ (n : Nat) a, φ[n]? = some a → φ'[n]? = some a) :
    ∀ {v : V} {d : D}, RD K B φ H v d → RD K B' φ' H' v d
  | _, _, .non => .non
  | _, _, .bl b => .bl b
  | _, _, .int i => .int i
  | _, _, .str x h => .str x h
  | _, _, .tup s r => .tup (s.imp (ht _ _) id) (RDs.on ht hl hz hp r)
  | _, _, .lst s n r => .lst (hl _ _ s n).1 (hl _ _ s n).2 (RDs.on ht hl hz hp r)
  | _, _, .loc h => .loc (hp _ _ h)
  | _, _, .scr h => .scr (h.imp (fun ⟨o, e⟩ => ⟨o, hz _ _ _ e⟩) id)
theorem RDs.on (ht : ∀ a xs, Rd H a (.tup xs) → Rd H' a (.tup xs)) (hl : ∀ a xs, H a = some (.lst xs) → ¬ B a → H' a = some (.lst xs) ∧ ¬ B' a) (hz : ∀ a o u, H a = some (.frz o u) → H' a = some (.frz o u)) (hp : ∀ (n : Nat) a, φ[n]? = some a → φ'[n]? = some a) :
    ∀ {vs : List V} {ds : List D}, RDs K B φ H vs ds → RDs K B' φ' H' vs ds
  | _, _, .nil => .nil
  | _, _, .cons r t => .cons (RD.on ht hl hz hp r) (RDs.on ht hl hz hp t)
end
theorem pre_get {n : Nat} {a : Addr} (p : φ <+: φ') (h : φ[n]? = some a) : φ'[n]? = some a := by
  obtain ⟨t, rfl⟩ := p
  have := (List.getElem?_eq_some_iff.mp h).1
  rw [List.getElem?_append_left this]; exact h
section
variable (rs : RS K mg B φ H st) (g : Go φ B H φ' B' H')
include rs g
theorem Go.tupOn (a : Addr) (xs : List V) (h : Rd H a (.tup xs)) : Rd H' a (.tup xs) := Rd.go (fun o e => g.keep a o e (rs.notTup h)) h
theorem Go.lstOn (a : Addr) (xs : List V) (h : H a = some (.lst xs)) (nb : ¬ B a) : H' a = some (.lst xs) ∧ ¬ B' a := by
  refine ⟨g.keep a _ h fun hm => nb (g.sub a hm), fun hb => ?_⟩
  rcases g.fresh a hb with z | z
  · exact nb z
  · rw [h] at z; cases z
theorem Go.frzOn (a : Addr) (o : Obj) (u : HO) (h : H a = some (.frz o u)) : H' a = some (.frz o u) := g.keep a _ h fun hm => by
  obtain ⟨q, e, m⟩ := rs.mut hm
  rw [h] at e; cases e; exact m
theorem RD.go {v : V} {d : D} (r : RD K B φ H v d) : RD K B' φ' H' v d := RD.on (g.tupOn rs) (g.lstOn rs) (g.frzOn rs) (fun _ _ h => pre_get g.pre h) r
theorem RDs.go {vs : List V} {ds : List D} (r : RDs K B φ H vs ds) : RDs K B' φ' H' vs ds := RDs.on (g.tupOn rs) (g.lstOn rs) (g.frzOn rs) (fun _ _ h => pre_get g.pre h) r
theorem REnv.go {σ : L2.St} {e : Env} (r : REnv K B φ H σ e) : REnv K B' φ' H' σ e := ⟨r.1, fun i d h => by
  obtain ⟨v, h1, h2⟩ := r.2 i d h
  exact ⟨v, h1, RD.go rs g h2⟩⟩
end
theorem RKv.on {κ : Type} {kd : κ → D} (f : ∀ {v d}, RD K B φ H v d → RD K B' φ' H' v d) : ∀ {vs : List (κ × V)} {ds : List (D × D)}, RKv K B φ H kd vs ds → RKv K B' φ' H' kd vs ds
  | _, _, .nil => .nil
  | _, _, .cons o r t => .cons o (f r) (RKv.on f t)
theorem RFs.on (f : ∀ {v d}, RD K B φ H v d → RD K B' φ' H' v d) : ∀ {vs : List (Str × V)} {ds : List (Str × D)}, RFs K B φ H vs ds → RFs K B' φ' H' vs ds
  | _, _, .nil => .nil
  | _, _, .cons r t => .cons (f r) (RFs.on f t)
theorem RC.on {a : Addr} {c : Cell} (f : ∀ {v d}, RD K B φ H v d → RD K B' φ' H' v d) (fs : ∀ {v d}, RDs K B φ H v d → RDs K B' φ' H' v d) (k : H' a = H a) (h : RC K mg B φ H a c) : RC K mg B' φ' H' a c := by
  cases c with
  | lst ds => obtain ⟨xs, e, r⟩ := h; exact ⟨xs, k.trans e, fs r⟩
  | dct kvs => obtain ⟨ks, e, r⟩ := h; exact ⟨ks, k.trans e, r.on f⟩
  | dtt kvs => obtain ⟨ks, e, r⟩ := h; exact ⟨ks, k.trans e, r.on f⟩
  | ins c fs => obtain ⟨C, dx, vs, m, e, r⟩ := h; exact ⟨C, dx, vs, m, k.trans e, r.on f⟩
theorem RDs.length : ∀ {vs : List V} {ds : List D}, RDs K B φ H vs ds → vs.length = ds.length
  | _, _, .nil => rfl
  | _, _, .cons _ t => congrArg (· + 1) (RDs.length t)
theorem RDs.append : ∀ {vs ws : List V} {ds es : List D}, RDs K B φ H vs ds → RDs K B φ H ws es → RDs K B φ H (vs ++ ws) (ds ++ es)
  | _, _, _, _, .nil, r => r
  | _, _, _, _, .cons r t, q => .cons r (RDs.append t q)
theorem RDs.get : ∀ {vs : List V} {ds : List D} {i : Nat} {d : D}, RDs K B φ H vs ds → ds[i]? = some d → ∃ v, vs[i]? = some v ∧ RD K B φ H v d
  | _, _, _, _, .nil, e => by simp at e
  | _, _, 0, _, .cons r _, e => by simp at e; subst e; exact ⟨_, rfl, r⟩
  | _, _, i + 1, d, .cons _ t, e => by
    obtain ⟨v, h1, h2⟩ := RDs.get (i := i) (d := d) t (by simpa using e)
    exact ⟨v, by simpa using h1, h2⟩
theorem RDs.take : ∀ {vs : List V} {ds : List D} (n : Nat), RDs K B φ H vs ds → RDs K B φ H (vs.take n) (ds.take n)
  | _, _, 0, _ => .nil
  | _, _, _ + 1, .nil => .nil
  | _, _, n + 1, .cons r t => .cons r (RDs.take n t)
theorem RDs.drop : ∀ {vs : List V} {ds : List D} (n : Nat), RDs K B φ H vs ds → RDs K B φ H (vs.drop n) (ds.drop n)
  | _, _, 0, r => r
  | _, _, _ + 1, .nil => .nil
  | _, _, n + 1, .cons _ t => RDs.drop n t
theorem RDs.reverse {vs : List V} {ds : List D} (h : RDs K B φ H vs ds) : RDs K B φ H vs.reverse ds.reverse := by
  induction vs generalizing ds with
  | nil => cases h; exact .nil
  | cons v vs ih =>
    cases h with
    | cons r t =>
      rw [List.reverse_cons, List.reverse_cons]
      exact RDs.append (ih t) (.cons r .nil)
theorem RDs.rep {vs : List V} {ds : List D} (h : RDs K B φ H vs ds) : ∀ k : Nat, RDs K B φ H (List.replicate k vs).flatten (List.replicate k ds).flatten
  | 0 => .nil
  | k + 1 => by
    rw [List.replicate_succ, List.replicate_succ, List.flatten_cons, List.flatten_cons]
    exact RDs.append h (RDs.rep h k)
theorem RDs.set {v : V} {d : D} (r : RD K B φ H v d) : ∀ {vs : List V} {ds : List D} (i : Nat), RDs K B φ H vs ds → RDs K B φ H (vs.set i v) (ds.set i d)
  | _, _, _, .nil => .nil
  | _, _, 0, .cons _ t => .cons r t
  | _, _, i + 1, .cons q t => .cons q (RDs.set r i t)
theorem RDs.eraseIdx : ∀ {vs : List V} {ds : List D} (i : Nat), RDs K B φ H vs ds → RDs K B φ H (vs.eraseIdx i) (ds.eraseIdx i)
  | _, _, _, .nil => .nil
  | _, _, 0, .cons _ t => t
  | _, _, i + 1, .cons q t => .cons q (RDs.eraseIdx i t)
theorem RDs.dropLast {vs : List V} {ds : List D} (h : RDs K B φ H vs ds) : RDs K B φ H vs.dropLast ds.dropLast := by
  rw [List.dropLast_eq_take, List.dropLast_eq_take, h.length]; exact h.take _
theorem RDs.ints : ∀ {vs : List V} {ns : List Int}, RDs K B φ H vs (ns.map D.int) → vs = ns.map V.int
  | _, [], h => by cases h; rfl
  | _, n :: ns, h => by
    cases h with
    | cons r t => cases r; rw [RDs.ints t]; rfl
theorem RDs.bls : ∀ {vs : List V} {ns : List Bool}, RDs K B φ H vs (ns.map D.bl) → vs = ns.map V.bl
  | _, [], h => by cases h; rfl
  | _, n :: ns, h => by
    cases h with
    | cons r t => cases r; rw [RDs.bls t]; rfl

/-! ### three steps: a new thing, a new cell, a cell written -/
/-- the relation where one address alone has changed, which is no tuple's and no value list's -/
theorem RD.upd {a : Addr} {o : HO} (ha : ∀ xs, ¬ Rd H a (.tup xs)) (hb : (∀ xs, ¬ H a = some (.lst xs)) ∨ B a) (hc : ∀ q u, ¬ H a = some (.frz q u)) {v : V} {d : D} (r : RD K B φ H v d) : RD K B φ (upd H a o) v d := by
  refine RD.on (fun b xs h => ?_) (fun b xs h nb => ?_) (fun b q u h => ?_) (fun _ _ h => h) r
  · have : b ≠ a := fun e => ha xs (e ▸ h)
    exact Rd.go (fun q e => by rw [upd_ne this]; exact e) h
  · have : b ≠ a := fun e => by
      subst e
      rcases hb with z | z
      · exact z xs h
      · exact nb z
    exact ⟨by rw [upd_ne this]; exact h, nb⟩
  · have : b ≠ a := fun e => hc q u (e ▸ h)
    rw [upd_ne this]; exact h
theorem none_rd {a : Addr} (h : H a = none) (u : HO) : ¬ Rd H a u := fun z => by
  rcases z with z | ⟨q, z⟩ <;> (rw [h] at z; cases z)
/-- a new thing that is no cell -/
theorem RS.newThing (rs : RS K mg B φ H st) {p : Addr} {o : HO} (hp : H p = none) : RS K mg B φ (upd H p o) st ∧ Go φ B H φ B (upd H p o) := by
  have g : Go φ B H φ B (upd H p o) := ⟨rs.sub, fun a q e _ => by rw [upd_ne (ne_of_none e hp)]; exact e, List.prefix_refl _, fun _ h => h, fun _ h => .inl h, fun _ h => .inl h⟩
  refine ⟨⟨rs.len, rs.nd, rs.sub, fun a ha e => ?_, fun n c e => ?_⟩, g⟩
  · by_cases z : a = p
    · subst z; rw [upd_same] at e; cases e
    · rw [upd_ne z] at e; exact rs.there a ha e
  · obtain ⟨a, e1, rc⟩ := rs.at_ n c e
    obtain ⟨q, hq, _⟩ := rc.mut
    exact ⟨a, e1, rc.on (RD.go rs g) (RDs.go rs g) (upd_ne (ne_of_none hq hp))⟩
/-- a new cell -/
theorem RS.newCell (rs : RS K mg B φ H st) {p : Addr} {o : HO} {c : Cell} (hp : H p = none) (hm : isMut o) (hc : ∀ H1, (∀ {v d}, RD K B φ H v d → RD K (fun a => B a ∨ a = p) (φ ++ [p]) H1 v d) → H1 p = some o → RC K mg (fun a => B a ∨ a = p) (φ ++ [p]) H1 p c) :
    RS K mg (fun a => B a ∨ a = p) (φ ++ [p]) (L2.upd H p o) (st ++ [c]) ∧ Go φ B H (φ ++ [p]) (fun a => B a ∨ a = p) (L2.upd H p o) := by
  have npφ : p ∉ φ := fun hm => rs.there p (rs.sub p hm) hp
  have g : Go φ B H (φ ++ [p]) (fun a => B a ∨ a = p) (L2.upd H p o) := ⟨rs.sub, fun a q e _ => by rw [upd_ne (ne_of_none e hp)]; exact e, List.prefix_append _ _, fun _ h => .inl h,
    fun a h => h.imp id (fun e => by rw [e]; exact hp), fun a h => by
      rcases List.mem_append.mp h with z | z
      · exact .inl z
      · have : a = p := by simpa using z
        exact .inr (by rw [this]; exact hp)⟩
  refine ⟨⟨by simp [rs.len], ?_, fun a h => ?_, fun a ha e => ?_, fun n c' e => ?_⟩, g⟩
  · rw [List.nodup_append]
    exact ⟨rs.nd, by simp, fun a ha b hb e => by
      have : b = p := by simpa using hb
      exact npφ (by rw [← this, ← e]; exact ha)⟩
  · rcases List.mem_append.mp h with z | z
    · exact .inl (rs.sub a z)
    · exact .inr (by simpa using z)
  · by_cases z : a = p
    · subst z; rw [upd_same] at e; cases e
    · rw [upd_ne z] at e; exact rs.there a (ha.resolve_right z) e
  · by_cases hn : n < st.length
    · rw [List.getElem?_append_left hn] at e
      obtain ⟨a, e1, rc⟩ := rs.at_ n c' e
      obtain ⟨q, hq, _⟩ := rc.mut
      exact ⟨a, pre_get g.pre e1, rc.on (RD.go rs g) (RDs.go rs g) (upd_ne (ne_of_none hq hp))⟩
    · rw [List.getElem?_append_right (by omega)] at e
      have hz : n - st.length = 0 := by
        rcases Nat.eq_zero_or_pos (n - st.length) with z | z
        · exact z
        · rw [List.getElem?_eq_none (by simp; omega)] at e; cases e
      rw [hz] at e
      simp at e
      subst e
      refine ⟨p, ?_, hc _ (RD.go rs g) upd_same⟩
      rw [List.getElem?_append_right (by rw [rs.len]; omega), rs.len, hz]
      rfl
/-- a cell is written -/
theorem RS.write (rs : RS K mg B φ H st) {n : Nat} {a : Addr} {o : HO} {c : Cell} (hn : φ[n]? = some a) (hm : isMut o) (hc : ∀ H1, (∀ {v d}, RD K B φ H v d → RD K B φ H1 v d) → H1 a = some o → RC K mg B φ H1 a c) :
    RS K mg B φ (L2.upd H a o) (st.set n c) ∧ Go φ B H φ B (L2.upd H a o) := by
  have ha : a ∈ φ := List.mem_of_getElem? hn
  obtain ⟨o0, e0, m0⟩ := rs.mut ha
  have g : Go φ B H φ B (L2.upd H a o) := ⟨rs.sub, fun b q e nb => by rw [upd_ne (fun z => nb (by rw [z]; exact ha))]; exact e, List.prefix_refl _, fun _ h => h, fun _ h => .inl h, fun _ h => .inl h⟩
  refine ⟨⟨by simp [rs.len], rs.nd, rs.sub, fun b hb e => ?_, fun m c' e => ?_⟩, g⟩
  · by_cases z : b = a
    · subst z; rw [upd_same] at e; cases e
    · rw [upd_ne z] at e; exact rs.there b hb e
  · by_cases hmn : m = n
    · subst hmn
      have hl : m < st.length := by rw [← rs.len]; exact (List.getElem?_eq_some_iff.mp hn).1
      rw [List.getElem?_set_self hl] at e
      cases e
      exact ⟨a, hn, hc _ (RD.go rs g) upd_same⟩
    · rw [List.getElem?_set_ne (Ne.symm hmn)] at e
      obtain ⟨b, e1, rc⟩ := rs.at_ m c' e
      have nba : b ≠ a := fun z => by
        subst z
        exact hmn (nodupIx rs.nd e1 hn)
      exact ⟨b, e1, rc.on (RD.go rs g) (RDs.go rs g) (upd_ne nba)⟩
end

/-! ### readings of combinators -/
abbrev Rl (α β : Type) := (Addr → Prop) → List Addr → Hp → β → α → Prop
/-- it goes on with the state -/
def Mono (K : Frag) (mg : Str → Option Value) {α β : Type} (R : Rl α β) : Prop := ∀ {B B' : Addr → Prop} {φ φ' : List Addr} {H H' : Hp} {st : Store}, RS K mg B φ H st → Go φ B H φ' B' H' → ∀ {v : β} {d : α}, R B φ H v d → R B' φ' H' v d
def rB : Rl Bool Bool := fun _ _ _ v d => v = d
def rO : Rl (Option Int) (Option Int) := fun _ _ _ v d => v = d
/-- the outcome of an action -/
def Fin (K : Frag) (mg : Str → Option Value) (B : Addr → Prop) (φ : List Addr) (H : Hp) {α β : Type} (R : Rl α β) (st' : Store) (Q : β → Hp → Prop) (W : XK) : Except Exc α → Prop
  | .ok d => ∀ v B' φ' H', Go φ B H φ' B' H' → RS K mg B' φ' H' st' → R B' φ' H' v d → Q v H'
  | .error x => ∀ cls dx B' φ' H', Go φ B H φ' B' H' → RS K mg B' φ' H' st' → RX K mg B' φ' H' x cls dx → W cls dx H'
def Tr (K : Frag) (mg : Str → Option Value) {α β : Type} (R : Rl α β) (c : Act α) (W : WX) : L2.St → Hp → (β → Hp → Prop) → Prop := fun σ H Q =>
  ∃ B φ e st r st', REnv K B φ H σ e ∧ RS K mg B φ H st ∧ c e st = some (r, st') ∧ Fin K mg B φ H R st' Q (fun cls dx H' => W cls dx σ H') r
/-- behind a first action: its value is known -/
def TrK (K : Frag) (mg : Str → Option Value) {α β α₁ β₁ : Type} (R₁ : Rl α₁ β₁) (R : Rl α β) (f : α₁ → Act α) (W : WX) (v : β₁) : L2.St → Hp → (β → Hp → Prop) → Prop := fun σ H Q =>
  ∃ B φ e st d r st', REnv K B φ H σ e ∧ RS K mg B φ H st ∧ R₁ B φ H v d ∧ f d e st = some (r, st') ∧ Fin K mg B φ H R st' Q (fun cls dx H' => W cls dx σ H') r
def R2x {α β α₁ β₁ : Type} (R₁ : Rl α₁ β₁) (R : Rl α β) : Rl (α₁ × α) (β₁ × β) := fun B φ H v d => R₁ B φ H v.1 d.1 ∧ R B φ H v.2 d.2
section
variable {K : Frag} {mg : Str → Option Value} {B B' B2 : Addr → Prop} {φ φ' φ2 : List Addr} {H H' H2 : Hp} {st st' : Store} {σ : L2.St} {W : WX}
theorem mono_d : Mono K mg (RD K) := fun rs g _ _ r => RD.go rs g r
theorem mono_ds : Mono K mg (RDs K) := fun rs g _ _ r => RDs.go rs g r
theorem mono_b : Mono K mg rB := fun _ _ _ _ r => r
theorem mono_o : Mono K mg rO := fun _ _ _ _ r => r
theorem mono_2 {α β α₁ β₁ : Type} {R₁ : Rl α₁ β₁} {R : Rl α β} (h : Mono K mg R₁) (h' : Mono K mg R) : Mono K mg (R2x R₁ R) := fun rs g _ _ r => ⟨h rs g r.1, h' rs g r.2⟩
theorem Fin.go {α β : Type} {R : Rl α β} {Q : β → Hp → Prop} {E : XK} {r : Except Exc α} (g : Go φ B H φ' B' H') (h : Fin K mg B φ H R st' Q E r) : Fin K mg B' φ' H' R st' Q E r := by
  cases r with
  | ok d => exact fun v B2 φ2 H2 g2 => h v B2 φ2 H2 (g.trans g2)
  | error x => exact fun cls dx B2 φ2 H2 g2 => h cls dx B2 φ2 H2 (g.trans g2)
theorem Fin.mono {α β : Type} {R : Rl α β} {Q Q' : β → Hp → Prop} {E : XK} {r : Except Exc α} (f : ∀ v H, Q v H → Q' v H) (h : Fin K mg B φ H R st' Q E r) : Fin K mg B φ H R st' Q' E r := by
  cases r with
  | ok d => exact fun v B2 φ2 H2 g2 a b => f _ _ (h v B2 φ2 H2 g2 a b)
  | error x => exact h
theorem Tr.mono {α β : Type} {R : Rl α β} {c : Act α} {Q Q' : β → Hp → Prop} (h : Tr K mg R c W σ H Q) (f : ∀ v H, Q v H → Q' v H) : Tr K mg R c W σ H Q' := by
  obtain ⟨B, φ, e, st, r, st', re, rs, hc, fin⟩ := h
  exact ⟨B, φ, e, st, r, st', re, rs, hc, fin.mono f⟩
theorem Tr.bind {α β α₁ β₁ : Type} {R₁ : Rl α₁ β₁} {R : Rl α β} {a : Act α₁} {f : α₁ → Act α} {Q : β → Hp → Prop} (h : Tr K mg R (a.bind f) W σ H Q) : Tr K mg R₁ a W σ H fun v H1 => TrK K mg R₁ R f W v σ H1 Q := by
  obtain ⟨B, φ, e, st, r, st', re, rs, hc, fin⟩ := h
  unfold Act.bind at hc
  cases ha : a e st with
  | none => rw [ha] at hc; cases hc
  | some p =>
    obtain ⟨q, st1⟩ := p
    rw [ha] at hc
    cases q with
    | error x =>
      simp only [Option.some.injEq, Prod.mk.injEq] at hc
      obtain ⟨rfl, rfl⟩ := hc
      exact ⟨B, φ, e, st, _, _, re, rs, ha, fin⟩
    | ok d => exact ⟨B, φ, e, st, _, _, re, rs, ha, fun v B' φ' H' g rs' rd => ⟨B', φ', e, st1, d, r, st', REnv.go rs g re, rs', rd, hc, fin.go g⟩⟩
theorem TrK.bind {α β α₁ β₁ α₂ β₂ : Type} {R₁ : Rl α₁ β₁} {R₂ : Rl α₂ β₂} {R : Rl α β} {b : Act α₂} {f : α₁ → α₂ → Act α} {v : β₁} {Q : β → Hp → Prop} (m : Mono K mg R₁) (h : TrK K mg R₁ R (fun d => b.bind (f d)) W v σ H Q) :
    Tr K mg R₂ b W σ H fun w H1 => TrK K mg (R2x R₁ R₂) R (fun p => f p.1 p.2) W (v, w) σ H1 Q := by
  obtain ⟨B, φ, e, st, d, r, st', re, rs, r1, hc, fin⟩ := h
  unfold Act.bind at hc
  dsimp only at hc
  cases ha : b e st with
  | none => rw [ha] at hc; cases hc
  | some p =>
    obtain ⟨q, st1⟩ := p
    rw [ha] at hc
    cases q with
    | error x =>
      simp only [Option.some.injEq, Prod.mk.injEq] at hc
      obtain ⟨rfl, rfl⟩ := hc
      exact ⟨B, φ, e, st, _, _, re, rs, ha, fin⟩
    | ok d2 => exact ⟨B, φ, e, st, _, _, re, rs, ha, fun w B' φ' H' g rs' rd => ⟨B', φ', e, st1, (d, d2), r, st', REnv.go rs g re, rs', ⟨m rs g r1, rd⟩, hc, fin.go g⟩⟩
end
/-- an operation by values: one, two, three, many -/
def V1 (K : Frag) (mg : Str → Option Value) (g : Store → D → Option D) : V → Hp → VK → Prop := fun x H Q =>
  ∃ B φ st d z, RS K mg B φ H st ∧ RD K B φ H x d ∧ g st d = some z ∧ ∀ v B' φ' H', Go φ B H φ' B' H' → RS K mg B' φ' H' st → RD K B' φ' H' v z → Q v H'
def V2 (K : Frag) (mg : Str → Option Value) (g : Store → D → D → Option D) : R2 := fun x y H Q =>
  ∃ B φ st d e z, RS K mg B φ H st ∧ RD K B φ H x d ∧ RD K B φ H y e ∧ g st d e = some z ∧ ∀ v B' φ' H', Go φ B H φ' B' H' → RS K mg B' φ' H' st → RD K B' φ' H' v z → Q v H'
def VA (K : Frag) (mg : Str → Option Value) (g : Store → List D → Option D) : List V → Hp → VK → Prop := fun xs H Q =>
  ∃ B φ st ds z, RS K mg B φ H st ∧ RDs K B φ H xs ds ∧ g st ds = some z ∧ ∀ v B' φ' H', Go φ B H φ' B' H' → RS K mg B' φ' H' st → RD K B' φ' H' v z → Q v H'
/-- .. that tells a truth -/
def VT (K : Frag) (mg : Str → Option Value) (g : Store → D → Option Bool) : V → Hp → (Bool → Hp → Prop) → Prop := fun x H Q =>
  ∃ B φ st d b, RS K mg B φ H st ∧ RD K B φ H x d ∧ g st d = some b ∧ Q b H
section
variable {K : Frag} {mg : Str → Option Value} {σ : L2.St} {H : Hp} {W : WX}
theorem look_eq {α : Type} {f : Store → Option α} {e : Env} {st st' : Store} {r : Except Exc α} (h : look f e st = some (r, st')) : ∃ d, r = .ok d ∧ st' = st ∧ f st = some d := by
  unfold look at h
  cases hf : f st with
  | none => rw [hf] at h; cases h
  | some d =>
    rw [hf] at h
    simp only [Option.map_some, Option.some.injEq, Prod.mk.injEq] at h
    exact ⟨d, h.1.symm, h.2.symm, rfl⟩
theorem TrK.v1 {g : Store → D → Option D} {x : V} {Q : VK} (h : TrK K mg (RD K) (RD K) (fun d => look fun st => g st d) W x σ H Q) : V1 K mg g x H Q := by
  obtain ⟨B, φ, e, st, d, r, st', re, rs, r1, hc, fin⟩ := h
  obtain ⟨z, rfl, rfl, hz⟩ := look_eq hc
  exact ⟨B, φ, _, d, z, rs, r1, hz, fin⟩
theorem TrK.v2 {g : Store → D → D → Option D} {x y : V} {Q : VK} (h : TrK K mg (R2x (RD K) (RD K)) (RD K) (fun p => look fun st => g st p.1 p.2) W (x, y) σ H Q) : V2 K mg g x y H Q := by
  obtain ⟨B, φ, e, st, d, r, st', re, rs, r1, hc, fin⟩ := h
  obtain ⟨z, rfl, rfl, hz⟩ := look_eq hc
  exact ⟨B, φ, _, d.1, d.2, z, rs, r1.1, r1.2, hz, fin⟩
theorem TrK.vA {g : Store → List D → Option D} {xs : List V} {Q : VK} (h : TrK K mg (RDs K) (RD K) (fun d => look fun st => g st d) W xs σ H Q) : VA K mg g xs H Q := by
  obtain ⟨B, φ, e, st, d, r, st', re, rs, r1, hc, fin⟩ := h
  obtain ⟨z, rfl, rfl, hz⟩ := look_eq hc
  exact ⟨B, φ, _, d, z, rs, r1, hz, fin⟩
theorem TrK.vT {g : Store → D → Option Bool} {x : V} {Q : Bool → Hp → Prop} (h : TrK K mg (RD K) rB (fun d => look fun st => g st d) W x σ H Q) : VT K mg g x H Q := by
  obtain ⟨B, φ, e, st, d, r, st', re, rs, r1, hc, fin⟩ := h
  obtain ⟨z, rfl, rfl, hz⟩ := look_eq hc
  exact ⟨B, φ, _, d, z, rs, r1, hz, fin _ _ _ _ (.refl rs) rs rfl⟩
end

/-! ### the judgements -/
section
variable (X : Cx)
def RE (e : Expr) (c : Ex) : Prop := ∀ W, Takes X W → PE X e (Tr X.K X.mg (RD X.K) c W)
def RT (e : Expr) (c : Tx) : Prop := ∀ W, Takes X W → PT X e (Tr X.K X.mg rB c W)
def RA (es : List Expr) (c : Ax) : Prop := ∀ W, Takes X W → PA X es (Tr X.K X.mg (RDs X.K) c W)
def RO (e : Option Expr) (c : Px) : Prop := ∀ W, Takes X W → PO X e (Tr X.K X.mg rO c W)
end
theorem _root_.L2.PE.imp {X : Cx} {e : Expr} {t t' : TE} (h : PE X e t) (f : ∀ σ H Q, t' σ H Q → t σ H Q) : PE X e t' := ⟨fun pins s σ H Q I q => h.run pins s σ H Q I (f σ H Q q)⟩
theorem _root_.L2.PT.imp {X : Cx} {e : Expr} {t t' : TT} (h : PT X e t) (f : ∀ σ H Q, t' σ H Q → t σ H Q) : PT X e t' := ⟨fun pins s σ H Q I q => h.run pins s σ H Q I (f σ H Q q)⟩
theorem _root_.L2.PA.imp {X : Cx} {e : List Expr} {t t' : TA} (h : PA X e t) (f : ∀ σ H Q, t' σ H Q → t σ H Q) : PA X e t' := ⟨fun pos pins s σ H Q I q => h.run pos pins s σ H Q I (f σ H Q q)⟩
theorem _root_.L2.PO.imp {X : Cx} {e : Option Expr} {t t' : TO} (h : PO X e t) (f : ∀ σ H Q, t' σ H Q → t σ H Q) : PO X e t' := ⟨fun pins s σ H Q I q => h.run pins s σ H Q I (f σ H Q q)⟩
theorem _root_.L2.PS.imp {X : Cx} {e : Stmt} {t t' : TS} (h : PS X e t) (f : ∀ σ H Q, t' σ H Q → t σ H Q) : PS X e t' := ⟨fun pins s σ H D I q => h.run pins s σ H D I (f D σ H q)⟩
theorem _root_.L2.PSs.imp {X : Cx} {e : List Stmt} {t t' : TS} (h : PSs X e t) (f : ∀ σ H Q, t' σ H Q → t σ H Q) : PSs X e t' := ⟨fun pins s σ H D I q => h.run pins s σ H D I (f D σ H q)⟩
theorem _root_.L2.PG.imp {X : Cx} {e : Expr} {t t' : TG} (h : PG X e t) (f : ∀ v σ H Q, t' v σ H Q → t v σ H Q) : PG X e t' := ⟨fun pins s σ H v u Q I r q => h.run pins s σ H v u Q I r (f v σ H Q q)⟩
theorem _root_.L2.PI.imp {X : Cx} {tg e : Expr} {t t' : TI} (h : PI X tg e t) (f : ∀ σ H Q, t' σ H Q → t σ H Q) : PI X tg e t' := ⟨fun pins s σ H R I q => h.run pins s σ H R I (f σ H R q)⟩

section
variable {X : Cx} {a b c : Expr} {ca cb cc : Ex} {ta tb : Tx} {pos : Pos} {es : List Expr} {cs : Ax}
/-- a value that a rule gives where the state stands still -/
theorem Fin.here {K : Frag} {mg : Str → Option Value} {B : Addr → Prop} {φ : List Addr} {H : Hp} {α β : Type} {R : Rl α β} {st : Store} {Q : β → Hp → Prop} {E : XK} {d : α} {v : β} (rs : RS K mg B φ H st) (r : R B φ H v d) (h : Fin K mg B φ H R st Q E (.ok d)) : Q v H := h _ _ _ _ (.refl rs) rs r
theorem re_var {i : Nat} (h : PE X a (tVar i)) : RE X a (eVar i) := fun W tk => h.imp fun σ H Q ⟨B, φ, e, st, r, st', re, rs, hc, fin⟩ => by
  unfold eVar at hc
  split at hc
  · rename_i d hd
    cases hc
    obtain ⟨v, h1, h2⟩ := re.2 i d hd
    exact ⟨v, h1, fin.here rs h2⟩
  · cases hc
theorem re_const {v : V} {d : D} (h : PE X a (tC v)) (r : ∀ B φ H, RD X.K B φ H v d) : RE X a (eC d) := fun W tk => h.imp fun σ H Q ⟨B, φ, e, st, r', st', re, rs, hc, fin⟩ => by
  cases hc
  exact fin.here rs (r _ _ _)
theorem re_int {i j pos} : RE X (.Constant (.int i) j pos) (eC (.int i)) := re_const pe_int fun _ _ _ => .int i
theorem re_bl {b j pos} : RE X (.Constant (.bool b) j pos) (eC (.bl b)) := re_const pe_bl fun _ _ _ => .bl b
theorem re_non {j pos} : RE X (.Constant .none j pos) (eC .non) := re_const pe_non fun _ _ _ => .non
theorem re_str {x j pos} (h : strOk x) : RE X (.Constant (.str x) j pos) (eC (.str x)) := re_const pe_str fun _ _ _ => .str x h
theorem re_op {op : Operator} {g : Store → D → D → Option D} (ho : OpR X (binaryOp op) (V2 X.K X.mg g)) (ha : RE X a ca) (hb : RE X b cb) : RE X (.BinOp a op b pos) (op2 g ca cb) := fun W tk =>
  (pe_op ho (ha W tk) (hb W tk)).imp fun σ H Q h => (Tr.bind h).mono fun x H1 h1 => (TrK.bind mono_d h1).mono fun y H2 h2 => h2.v2
end
end Sw

/-! Rules: each combinator is what the construct does. -/
set_option Elab.async false
set_option linter.all false
set_option maxRecDepth 100000
set_option maxHeartbeats 4000000
namespace Sw
open PySem PySem.Spec PyProof.Rows L2

theorem eq_of_beq_D {x y : Str} : (x == y) = decide (x = y) := by
  by_cases h : x = y <;> simp [h]
/-! ### data as PyData -/
mutual
def toP : D → PyData
  | .non => .none | .bl b => .bool b | .int i => .int i | .str x => .str x
  | .tup xs => .tuple (toPs xs) | .lst xs => .list (toPs xs) | .loc _ => .none | .scr _ => .none
def toPs : List D → List PyData
  | [] => [] | x :: xs => toP x :: toPs xs
end
theorem toPs_map : ∀ xs : List D, toPs xs = xs.map toP
  | [] => by simp [toPs]
  | x :: xs => by simp [toPs, toPs_map xs]
theorem depthAll_le {n : Nat} : ∀ {xs : List PyData}, (∀ x ∈ xs, x.depth ≤ n) → PyData.depthAll xs ≤ n
  | [], _ => by simp [PyData.depthAll]
  | x :: xs, h => by
    simp only [PyData.depthAll]
    exact Nat.max_le.mpr ⟨h x (by simp), depthAll_le fun y hy => h y (by simp [hy])⟩
theorem depth_toP : ∀ (n : Nat) (d : D), okd n d = true → (toP d).depth ≤ n
  | _, .non, _ => by simp [toP, PyData.depth]
  | _, .bl _, _ => by simp [toP, PyData.depth]
  | _, .int _, _ => by simp [toP, PyData.depth]
  | _, .str _, _ => by simp [toP, PyData.depth]
  | _, .loc _, h => by simp [okd] at h
  | _, .scr _, h => by simp [okd] at h
  | 0, .tup _, h => by simp [okd] at h
  | 0, .lst _, h => by simp [okd] at h
  | n + 1, .tup xs, h => by
    simp only [okd, List.all_eq_true] at h
    simp only [toP, PyData.depth, toPs_map]
    refine Nat.succ_le_succ (depthAll_le fun x hx => ?_)
    obtain ⟨y, hy, rfl⟩ := List.mem_map.mp hx
    exact depth_toP n y (h y hy)
  | n + 1, .lst xs, h => by
    simp only [okd, List.all_eq_true] at h
    simp only [toP, PyData.depth, toPs_map]
    refine Nat.succ_le_succ (depthAll_le fun x hx => ?_)
    obtain ⟨y, hy, rfl⟩ := List.mem_map.mp hx
    exact depth_toP n y (h y hy)
theorem eqvAll_zip {n : Nat} : ∀ (xs ys : List D), (∀ x ∈ xs, ∀ y ∈ ys, PyData.eqv (toP x) (toP y) = eqn n x y) →
    PyData.eqvAll (toPs xs) (toPs ys) = (xs.length == ys.length && (xs.zip ys).all fun p => eqn n p.1 p.2)
  | [], [], _ => by simp [toPs, PyData.eqvAll]
  | [], _ :: _, _ => by simp [toPs, PyData.eqvAll]
  | _ :: _, [], _ => by simp [toPs, PyData.eqvAll]
  | x :: xs, y :: ys, h => by
    have ih := eqvAll_zip xs ys fun a ha b hb => h a (by simp [ha]) b (by simp [hb])
    simp only [toPs, PyData.eqvAll, h x (by simp) y (by simp), ih, List.zip_cons_cons, List.all_cons, List.length_cons]
    have e : (xs.length + 1 == ys.length + 1) = (xs.length == ys.length) := by
      by_cases q : xs.length = ys.length
      · simp [q]
      · have : ¬ xs.length + 1 = ys.length + 1 := by omega
        simp [q, this]
    rw [e]
    cases eqn n x y <;> cases (xs.length == ys.length) <;> simp
theorem eqv_toP : ∀ (n : Nat) (d e : D), okd n d = true → okd n e = true → PyData.eqv (toP d) (toP e) = eqn n d e := by
  intro n
  induction n with
  | zero =>
    intro d e hd he
    cases d <;> first | (simp [okd] at hd; done) | skip
    all_goals cases e <;> first | (simp [okd] at he; done) | simp [toP, PyData.eqv, eqn]
  | succ n ih =>
    intro d e hd he
    cases d <;> first | (simp [okd] at hd; done) | skip
    all_goals cases e <;> first | (simp [okd] at he; done) | skip
    all_goals first | (simp only [toP, PyData.eqv, eqn]; done) | skip
    all_goals
      simp only [okd, List.all_eq_true] at hd he
      simp only [toP, PyData.eqv, eqn]
      exact eqvAll_zip _ _ fun x hx y hy => ih x y (hd x hx) (he y hy)
section
variable {K : Frag} {mg : Str → Option Value} {B : Addr → Prop} {φ : List Addr} {H : Hp} {st : Store}
mutual
theorem RD.dp : ∀ {n : Nat} {v : V} {d : D}, RD K B φ H v d → okd n d = true → Dp K H v (toP d) ∧ (toP d).canLay0 = true
  | _, _, _, .non, _ => by simp only [toP, PyData.canLay0]; exact ⟨.non, trivial⟩
  | _, _, _, .bl b, _ => by simp only [toP, PyData.canLay0]; exact ⟨.bl b, trivial⟩
  | _, _, _, .int i, _ => by simp only [toP, PyData.canLay0]; exact ⟨.int i, trivial⟩
  | _, _, _, .str x h, _ => by simp only [toP, PyData.canLay0]; exact ⟨.str x, h.1⟩
  | 0, _, _, .tup _ _, h => by simp [okd] at h
  | 0, _, _, .lst _ _ _, h => by simp [okd] at h
  | n + 1, _, _, .tup s r, h => by
    simp only [okd] at h
    have q := RDs.dp (n := n) r h
    simp only [toP, PyData.canLay0]
    exact ⟨.tup s q.1, q.2⟩
  | n + 1, _, _, .lst s _ r, h => by
    simp only [okd] at h
    have q := RDs.dp (n := n) r h
    simp only [toP, PyData.canLay0]
    exact ⟨.lst (SqL.of s) q.1, q.2⟩
  | _, _, _, .loc _, h => by simp [okd] at h
  | _, _, _, .scr _, h => by simp [okd] at h
theorem RDs.dp : ∀ {n : Nat} {vs : List V} {ds : List D}, RDs K B φ H vs ds → ds.all (okd n) = true → DpAll K H vs (toPs ds) ∧ PyData.canLayAll0 (toPs ds) = true
  | _, _, _, .nil, _ => by simp only [toPs, PyData.canLayAll0]; exact ⟨.nil, trivial⟩
  | n, _, _, .cons r t, h => by
    simp only [List.all_cons, Bool.and_eq_true] at h
    have q := RD.dp r h.1
    have q2 := RDs.dp t h.2
    simp only [toPs, PyData.canLayAll0]
    exact ⟨.cons q.1 q2.1, by rw [q.2, q2.2]; rfl⟩
end
theorem shaped_toP {n : Nat} {d : D} (hn : n ≤ 64) (h : okd n d = true) (c : (toP d).canLay0 = true) : SeqAt.shaped (toP d) = true := by
  unfold SeqAt.shaped
  rw [c, Bool.true_and]
  exact decide_eq_true (Nat.le_trans (depth_toP n d h) hn)
/-- a list that stands in a cell read as data -/
theorem see_dp (rs : RS K mg B φ H st) {v : V} {d : D} (r : RD K B φ H v d) (h : (see st d).ok = true) : Dp K H v (toP (see st d)) ∧ (toP (see st d)).canLay0 = true := by
  cases r with
  | loc e =>
    rename_i a n
    cases hs : st[n]? with
    | none => simp [see, hs, okd] at h
    | some c =>
      cases c with
      | lst xs =>
        simp only [see, hs] at h ⊢
        obtain ⟨b, e', vs, hv, rv⟩ := rs.at_ n _ hs
        rw [e] at e'
        cases e'
        simp only [D.ok, okd] at h
        have q := RDs.dp rv h
        simp only [toP, PyData.canLay0]
        exact ⟨.lst (SqL.of hv) q.1, q.2⟩
      | dct _ => simp [see, hs, okd] at h
      | dtt _ => simp [see, hs, okd] at h
      | ins _ _ => simp [see, hs, okd] at h
  | non => exact RD.dp (n := 60) (B := B) (φ := φ) .non h
  | bl b => exact RD.dp (n := 60) (B := B) (φ := φ) (.bl b) h
  | int i => exact RD.dp (n := 60) (B := B) (φ := φ) (.int i) h
  | str x q => exact RD.dp (n := 60) (B := B) (φ := φ) (.str x q) h
  | tup s q => exact RD.dp (n := 60) (.tup s q) h
  | lst s n q => exact RD.dp (n := 60) (.lst s n q) h
  | scr e => simp [see, D.ok, okd] at h
end

/-! ### operators -/
section
variable {X : Cx}
theorem fin0 {K : Frag} {mg : Str → Option Value} {B : Addr → Prop} {φ : List Addr} {H : Hp} {st : Store} {z : D} {Q : VK} {v : V} (rs : RS K mg B φ H st)
    (fin : ∀ v B' φ' H', Go φ B H φ' B' H' → RS K mg B' φ' H' st → RD K B' φ' H' v z → Q v H') (r : RD K B φ H v z) : Q v H := fin v B φ H (.refl rs) rs r
theorem finT {K : Frag} {mg : Str → Option Value} {B : Addr → Prop} {φ : List Addr} {H : Hp} {st : Store} {vs : List V} {ds : List D} {Q : VK} {p : Addr} (rs : RS K mg B φ H st)
    (fin : ∀ v B' φ' H', Go φ B H φ' B' H' → RS K mg B' φ' H' st → RD K B' φ' H' v (.tup ds) → Q v H') (r : RDs K B φ H vs ds) (hp : H p = none) : Q (.ref p) (upd H p (.tup vs)) := by
  obtain ⟨rs', g⟩ := rs.newThing (o := .tup vs) hp
  exact fin _ _ _ _ g rs' (.tup (SqT.of upd_same) (RDs.go rs g r))
theorem finL {K : Frag} {mg : Str → Option Value} {B : Addr → Prop} {φ : List Addr} {H : Hp} {st : Store} {vs : List V} {ds : List D} {Q : VK} {p : Addr} (rs : RS K mg B φ H st)
    (fin : ∀ v B' φ' H', Go φ B H φ' B' H' → RS K mg B' φ' H' st → RD K B' φ' H' v (.lst ds) → Q v H') (r : RDs K B φ H vs ds) (hp : H p = none) : Q (.ref p) (upd H p (.lst vs)) := by
  obtain ⟨rs', g⟩ := rs.newThing (o := .lst vs) hp
  exact fin _ _ _ _ g rs' (.lst upd_same (fun hb => rs.there p hb hp) (RDs.go rs g r))
theorem RDs.nil_iff {K : Frag} {B : Addr → Prop} {φ : List Addr} {H : Hp} {vs : List V} {ds : List D} (r : RDs K B φ H vs ds) : vs = [] ↔ ds = [] := by
  cases r <;> simp
theorem strOk_append {a b : Str} (ha : strOk a) (hb : strOk b) (h : a.length + b.length ≤ sizeLine) : strOk (a ++ b) := by
  refine ⟨?_, ?_⟩
  · show (a.cps ++ b.cps).all _ = true
    rw [Array.all_append, ha.1, hb.1]; rfl
  · show (a.cps ++ b.cps).size ≤ _
    rw [Array.size_append]; exact h
theorem o_add : OpR X (binaryOp .Add) (V2 X.K X.mg vAdd) := by
  intro pins s σ H x y v u Q I rv ru ⟨B, φ, st, d, e, z, rs, r1, r2, hz, fin⟩
  cases d <;> cases e <;> simp only [vAdd] at hz <;> try (cases hz; done)
  · cases hz; cases r1; cases r2
    exact op_add pins s σ H _ _ v u Q I rv ru ⟨_, _, rfl, rfl, fin0 rs fin (.int _)⟩
  · split at hz
    · cases hz; cases r1 with | str _ h1 => cases r2 with | str _ h2 =>
      rename_i hl
      exact op_add_str pins s σ H _ _ v u Q I rv ru ⟨_, _, rfl, rfl, hl, fin0 rs fin (.str _ (strOk_append h1 h2 hl))⟩
    · cases hz
  · split at hz
    · cases hz; cases r1 with | tup s1 q1 => cases r2 with | tup s2 q2 =>
      rename_i hl _ _ _ _
      refine op_catA pins s σ H _ _ v u Q I rv ru ⟨_, _, _, _, rfl, rfl, s1, s2, by rw [q1.length, q2.length]; exact hl, fun e1 => ?_, fun n1 e2 => ?_, fun n1 n2 p hp => finT rs fin (q1.append q2) hp⟩
      · refine fin0 rs fin ?_
        rw [q1.nil_iff.mp e1]; exact .tup s2 q2
      · refine fin0 rs fin ?_
        rw [q2.nil_iff.mp e2, List.append_nil]; exact .tup s1 q1
    · cases hz
  · split at hz
    · cases hz; cases r1 with | lst s1 n1 q1 => cases r2 with | lst s2 n2 q2 =>
      rename_i hl _ _ _ _
      exact op_cat pins s σ H _ _ v u Q I rv ru ⟨_, _, _, _, rfl, rfl, s1, s2, by rw [q1.length, q2.length]; exact hl, fun p hp => finL rs fin (q1.append q2) hp⟩
    · cases hz
/-- an operation of ints alone -/
theorem o_ints {f : Value → Value → Sem Value} {g : Store → D → D → Option D} {C : Int → Int → Prop} {h : Int → Int → V} {hD : Int → Int → D} (ho : OpR X f (rI C h))
    (hg : ∀ st d e z, g st d e = some z → ∃ i j, d = .int i ∧ e = .int j ∧ C i j ∧ z = hD i j) (hr : ∀ i j B φ H, RD X.K B φ H (h i j) (hD i j)) : OpR X f (V2 X.K X.mg g) := by
  intro pins s σ H x y v u Q I rv ru ⟨B, φ, st, d, e, z, rs, r1, r2, hz, fin⟩
  obtain ⟨i, j, rfl, rfl, c, rfl⟩ := hg _ _ _ _ hz
  cases r1; cases r2
  exact ho pins s σ H _ _ v u Q I rv ru ⟨i, j, rfl, rfl, c, fin0 rs fin (hr _ _ _ _ _)⟩
theorem o_ints0 {f : Value → Value → Sem Value} {g : Store → D → D → Option D} {h : Int → Int → V} {hD : Int → Int → D} (ho : OpR X f (rI0 h))
    (hg : ∀ st d e z, g st d e = some z → ∃ i j, d = .int i ∧ e = .int j ∧ z = hD i j) (hr : ∀ i j B φ H, RD X.K B φ H (h i j) (hD i j)) : OpR X f (V2 X.K X.mg g) := by
  intro pins s σ H x y v u Q I rv ru ⟨B, φ, st, d, e, z, rs, r1, r2, hz, fin⟩
  obtain ⟨i, j, rfl, rfl, rfl⟩ := hg _ _ _ _ hz
  cases r1; cases r2
  exact ho pins s σ H _ _ v u Q I rv ru ⟨i, j, rfl, rfl, fin0 rs fin (hr _ _ _ _ _)⟩
theorem o_sub : OpR X (binaryOp .Sub) (V2 X.K X.mg vSub) := o_ints0 op_sub (fun st d e z h => by
  cases d <;> cases e <;> simp only [vSub] at h <;> first | (cases h; done) | exact ⟨_, _, rfl, rfl, (Option.some.inj h).symm⟩) fun _ _ _ _ _ => .int _
theorem o_lt : OpR X (compareOp .Lt) (V2 X.K X.mg vLt) := o_ints0 op_lt (fun st d e z h => by
  cases d <;> cases e <;> simp only [vLt] at h <;> first | (cases h; done) | exact ⟨_, _, rfl, rfl, (Option.some.inj h).symm⟩) fun _ _ _ _ _ => .bl _
theorem o_le : OpR X (compareOp .LtE) (V2 X.K X.mg vLe) := o_ints0 op_le (fun st d e z h => by
  cases d <;> cases e <;> simp only [vLe] at h <;> first | (cases h; done) | exact ⟨_, _, rfl, rfl, (Option.some.inj h).symm⟩) fun _ _ _ _ _ => .bl _
theorem o_gt : OpR X (compareOp .Gt) (V2 X.K X.mg vGt) := o_ints0 op_gt (fun st d e z h => by
  cases d <;> cases e <;> simp only [vGt] at h <;> first | (cases h; done) | exact ⟨_, _, rfl, rfl, (Option.some.inj h).symm⟩) fun _ _ _ _ _ => .bl _
theorem o_ge : OpR X (compareOp .GtE) (V2 X.K X.mg vGe) := o_ints0 op_ge (fun st d e z h => by
  cases d <;> cases e <;> simp only [vGe] at h <;> first | (cases h; done) | exact ⟨_, _, rfl, rfl, (Option.some.inj h).symm⟩) fun _ _ _ _ _ => .bl _
theorem o_div : OpR X (binaryOp .FloorDiv) (V2 X.K X.mg vDiv) := o_ints op_fdiv (fun st d e z h => by
  cases d <;> cases e <;> simp only [vDiv] at h <;> try (cases h; done)
  split at h
  · rename_i hc; exact ⟨_, _, rfl, rfl, hc, (Option.some.inj h).symm⟩
  · cases h) fun _ _ _ _ _ => .int _
theorem o_mod : OpR X (binaryOp .Mod) (V2 X.K X.mg vMod) := o_ints op_mod (fun st d e z h => by
  cases d <;> cases e <;> simp only [vMod] at h <;> try (cases h; done)
  split at h
  · rename_i hc; exact ⟨_, _, rfl, rfl, hc, (Option.some.inj h).symm⟩
  · cases h) fun _ _ _ _ _ => .int _
theorem o_pow : OpR X (binaryOp .Pow) (V2 X.K X.mg vPow) := o_ints op_pow (fun st d e z h => by
  cases d <;> cases e <;> simp only [vPow] at h <;> try (cases h; done)
  split at h
  · rename_i hc
    refine ⟨_, _, rfl, rfl, ⟨hc.1, by omega, ?_⟩, (Option.some.inj h).symm⟩
    have q := hc.2.2
    simp only [isSmall, Bool.and_eq_true, decide_eq_true_eq] at q
    omega
  · cases h) fun _ _ _ _ _ => .int _
theorem o_mul : OpR X (binaryOp .Mult) (V2 X.K X.mg vMul) := by
  intro pins s σ H x y v u Q I rv ru ⟨B, φ, st, d, e, z, rs, r1, r2, hz, fin⟩
  cases d <;> cases e <;> simp only [vMul] at hz <;> try (cases hz; done)
  · split at hz
    · rename_i hc
      cases hz; cases r1; cases r2
      refine op_mul pins s σ H _ _ v u Q I rv ru ⟨_, _, rfl, rfl, ?_, fin0 rs fin (.int _)⟩
      simp only [isSmall, Bool.or_eq_true, Bool.and_eq_true, decide_eq_true_eq] at hc
      exact hc
    · cases hz
  · split at hz
    · rename_i hc
      cases hz; cases r2; cases r1 with | tup s1 q1 =>
      refine op_repT pins s σ H _ _ v u Q I rv ru ⟨_, _, _, rfl, rfl, s1, fun e => ?_, hc.2.1, hc.2.2.1, by rw [q1.length]; exact hc.2.2.2, fun p hp => finT rs fin (q1.rep _) hp⟩
      have := hc.1
      rw [q1.nil_iff.mp e] at this
      cases this
    · cases hz
  · split at hz
    · rename_i hc
      cases hz; cases r2; cases r1 with | lst s1 n1 q1 =>
      exact op_rep pins s σ H _ _ v u Q I rv ru ⟨_, _, _, rfl, rfl, s1, by omega, by omega, by rw [q1.length]; exact hc.2.2, fun p hp => finL rs fin (q1.rep _) hp⟩
    · cases hz
theorem u_neg : UnR X (unaryOp .USub) (V1 X.K X.mg vNeg) := by
  intro pins s σ H x v Q I rv ⟨B, φ, st, d, z, rs, r1, hz, fin⟩
  cases d <;> simp only [vNeg] at hz <;> try (cases hz; done)
  cases hz; cases r1
  exact un_neg pins s σ H _ v Q I rv ⟨_, rfl, fin0 rs fin (.int _)⟩
theorem o_eq (hu : X.A.units + 66 < cLine) : OpR X (compareOp .Eq) (V2 X.K X.mg vEq) := by
  intro pins s σ H x y v u Q I rv ru ⟨B, φ, st, d, e, z, rs, r1, r2, hz, fin⟩
  unfold vEq at hz
  split at hz
  · rename_i hc
    rw [Bool.and_eq_true] at hc
    cases hz
    have q1 := see_dp rs r1 hc.1
    have q2 := see_dp rs r2 hc.2
    refine op_eqD (by omega) pins s σ H _ _ v u Q I rv ru ⟨_, _, q1.1, q2.1, shaped_toP (by decide) hc.1 q1.2, shaped_toP (by decide) hc.2 q2.2, ?_⟩
    rw [eqv_toP 60 _ _ hc.1 hc.2]
    exact fin0 rs fin (.bl _)
  · cases hz
theorem o_ne (hu : X.A.units + 66 < cLine) : OpR X (compareOp .NotEq) (V2 X.K X.mg vNe) := by
  intro pins s σ H x y v u Q I rv ru ⟨B, φ, st, d, e, z, rs, r1, r2, hz, fin⟩
  unfold vNe at hz
  split at hz
  · rename_i hc
    rw [Bool.and_eq_true] at hc
    cases hz
    have q1 := see_dp rs r1 hc.1
    have q2 := see_dp rs r2 hc.2
    refine op_neD (by omega) pins s σ H _ _ v u Q I rv ru ⟨_, _, q1.1, q2.1, shaped_toP (by decide) hc.1 q1.2, shaped_toP (by decide) hc.2 q2.2, ?_⟩
    rw [eqv_toP 60 _ _ hc.1 hc.2]
    exact fin0 rs fin (.bl _)
  · cases hz
end
end Sw

/-! Rules2: more operators, expressions, calls of built-ins. -/
set_option Elab.async false
set_option linter.all false
set_option maxRecDepth 100000
set_option maxHeartbeats 4000000
namespace Sw
open PySem PySem.Spec PyProof.Rows L2
section
variable {X : Cx} {a b c o : Expr} {ca cb cc : Ex} {ta tb : Tx} {pos : Pos} {es : List Expr} {cs : Ax}
theorem o_isN : OpR X (compareOp .Is) (fun x y H Q => y = .non ∧ V1 X.K X.mg vIsN x H Q) := by
  intro pins s σ H x y v u Q I rv ru ⟨e, B, φ, st, d, z, rs, r1, hz, fin⟩
  subst e
  refine op_isN pins s σ H _ _ v u Q I rv ru ⟨rfl, ?_⟩
  cases r1 <;> (simp only [vIsN] at hz; cases hz; exact fin0 rs fin (.bl _))
theorem o_notN : OpR X (compareOp .IsNot) (fun x y H Q => y = .non ∧ V1 X.K X.mg vNotN x H Q) := by
  intro pins s σ H x y v u Q I rv ru ⟨e, B, φ, st, d, z, rs, r1, hz, fin⟩
  subst e
  refine op_notN pins s σ H _ _ v u Q I rv ru ⟨rfl, ?_⟩
  cases r1 <;> (simp only [vNotN] at hz; cases hz; exact fin0 rs fin (.bl _))
/-- data among data -/
theorem toPs_any (n : Nat) (d : D) (hd : okd n d = true) : ∀ xs : List D, xs.all (okd n) = true → ((toPs xs).any fun z => PyData.eqv z (toP d)) = xs.any fun y => eqn n y d
  | [], _ => by simp [toPs]
  | x :: xs, h => by
    simp only [List.all_cons, Bool.and_eq_true] at h
    simp only [toPs, List.any_cons, eqv_toP n x d h.1 hd, toPs_any n d hd xs h.2]
theorem depth_all {n : Nat} : ∀ {xs : List D}, xs.all (okd n) = true → PyData.depthAll (toPs xs) ≤ n := fun {xs} h => by
  rw [toPs_map]
  refine depthAll_le fun x hx => ?_
  obtain ⟨y, hy, rfl⟩ := List.mem_map.mp hx
  exact depth_toP n y (List.all_eq_true.mp h y hy)
theorem seq_cases {K : Frag} {mg : Str → Option Value} {B : Addr → Prop} {φ : List Addr} {H : Hp} {st : Store} (rs : RS K mg B φ H st) {v : V} {d : D} {xs : List D} (r : RD K B φ H v d) (h : seq? st d = some xs) :
    ∃ a vs, v = .ref a ∧ RDs K B φ H vs xs ∧ (SqT K H a vs ∧ d = .tup xs ∨ H a = some (.lst vs) ∧ (d = .lst xs ∨ ∃ n, d = .loc n ∧ st[n]? = some (.lst xs) ∧ φ[n]? = some a)) := by
  cases r with
  | tup s q => simp only [seq?, Option.some.injEq] at h; subst h; exact ⟨_, _, rfl, q, .inl ⟨s, rfl⟩⟩
  | lst s n q => simp only [seq?, Option.some.injEq] at h; subst h; exact ⟨_, _, rfl, q, .inr ⟨s, .inl rfl⟩⟩
  | loc e =>
    rename_i a n
    cases hs : st[n]? with
    | none => simp [seq?, hs] at h
    | some c =>
      cases c with
      | lst ys =>
        simp only [seq?, hs, Option.some.injEq] at h
        subst h
        obtain ⟨b, e', vs, hv, rv⟩ := rs.at_ n _ hs
        rw [e] at e'
        cases e'
        exact ⟨_, _, rfl, rv, .inr ⟨hv, .inr ⟨n, rfl, hs, e⟩⟩⟩
      | dct _ => simp [seq?, hs] at h
      | dtt _ => simp [seq?, hs] at h
      | ins _ _ => simp [seq?, hs] at h
  | non => simp [seq?] at h
  | bl _ => simp [seq?] at h
  | int _ => simp [seq?] at h
  | str _ _ => simp [seq?] at h
  | scr _ => simp [seq?] at h
theorem mem_reads {pins : List (Addr × Obj)} {s : Shared} {σ : L2.St} {H : Hp} {B : Addr → Prop} {φ : List Addr} {st : Store} {E : Value → Shared → Prop} {x y : V} {v u : Value} {d e : D} {xs : List D} {Q : Value → Shared → Prop} {k : Bool}
    (hu : X.A.units + 66 < cLine) (I : Inv X pins σ H s) (rs : RS X.K X.mg B φ H st) (rv : RelV x v) (ru : RelV y u) (r1 : RD X.K B φ H x d) (r2 : RD X.K B φ H y e) (hs : seq? st e = some xs) (hm : mem? d xs = some k) :
    (Q (.bool k) s → wpAny (model X.prog X.w) X.A (compareOp .In v u) Q E s) ∧ (Q (.bool !k) s → wpAny (model X.prog X.w) X.A (compareOp .NotIn v u) Q E s) := by
  unfold mem? at hm
  split at hm
  · rename_i hc
    rw [Bool.and_eq_true] at hc
    cases hm
    obtain ⟨hd, hx⟩ := hc
    obtain ⟨p, vs, rfl, q, alt⟩ := seq_cases rs r2 hs
    cases ru
    have q1 := RD.dp r1 hd
    have q2 := RDs.dp q hx
    obtain ⟨as, rd⟩ := Dp.reads I _ _ _ q1.1 rv
    have room : X.A.units + 1 + min (PyData.depthAll (toPs xs)) (toP d).depth < cLine := by
      have := depth_toP 60 d hd
      have : min (PyData.depthAll (toPs xs)) (toP d).depth ≤ 60 := Nat.le_trans (Nat.min_le_right _ _) this
      omega
    rcases alt with ⟨sq, _⟩ | ⟨sq, _⟩
    · obtain ⟨bs, rl⟩ := Dp.reads I _ _ _ (Dp.tup sq q2.1) (rfl : RelV (.ref p) (.ref p))
      exact ⟨fun h => SeqAt.in_tuple_reads rl rd q2.2 q1.2 room (by rw [toPs_any 60 d hd xs hx]; exact h), fun h => SeqAt.notIn_tuple_reads rl rd q2.2 q1.2 room (by rw [toPs_any 60 d hd xs hx]; exact h)⟩
    · obtain ⟨bs, rl⟩ := Dp.reads I _ _ _ (Dp.lst (SqL.of sq) q2.1) (rfl : RelV (.ref p) (.ref p))
      exact ⟨fun h => SeqAt.in_list_reads rl rd q2.2 q1.2 room (by rw [toPs_any 60 d hd xs hx]; exact h), fun h => SeqAt.notIn_list_reads rl rd q2.2 q1.2 room (by rw [toPs_any 60 d hd xs hx]; exact h)⟩
  · cases hm
theorem one_sign {x : Str} {c : Nat} (h : x.cps.toList = [c]) : x = ⟨#[c]⟩ := by
  obtain ⟨a⟩ := x
  simp only [Str.mk.injEq]
  exact Array.toList_inj.mp h
theorem vIn_cases {st : Store} {d e z : D} (h : vIn st d e = some z) : (∃ c t, d = .str ⟨#[c]⟩ ∧ e = .str t ∧ z = .bl (decide (c ∈ t.cps.toList))) ∨ (∃ xs k, seq? st e = some xs ∧ mem? d xs = some k ∧ z = .bl k) := by
  cases e with
  | str t =>
    cases d <;> simp only [vIn] at h <;> try (cases h; done)
    split at h
    · rename_i c hc
      cases h
      exact .inl ⟨_, _, congrArg D.str (one_sign hc), rfl, rfl⟩
    · cases h
  | _ =>
    simp only [vIn] at h
    split at h
    · rename_i xs hx
      cases hm : mem? d xs with
      | none => rw [hm] at h; cases h
      | some k => rw [hm] at h; cases h; exact .inr ⟨xs, k, hx, hm, rfl⟩
    · cases h
theorem o_in (hu : X.A.units + 66 < cLine) : OpR X (compareOp .In) (V2 X.K X.mg vIn) := by
  intro pins s σ H x y v u Q I rv ru ⟨B, φ, st, d, e, z, rs, r1, r2, hz, fin⟩
  rcases vIn_cases hz with ⟨c, t, rfl, rfl, rfl⟩ | ⟨xs, k, hs, hm, rfl⟩
  · cases r1; cases r2
    exact op_in_sign pins s σ H _ _ v u Q I rv ru ⟨c, t, rfl, rfl, fin0 rs fin (.bl _)⟩
  · exact (mem_reads hu I rs rv ru r1 r2 hs hm).1 ⟨.bl k, H, I, rfl, fin0 rs fin (.bl _)⟩
theorem o_nin (hu : X.A.units + 66 < cLine) : OpR X (compareOp .NotIn) (V2 X.K X.mg vNin) := by
  intro pins s σ H x y v u Q I rv ru ⟨B, φ, st, d, e, z, rs, r1, r2, hz, fin⟩
  unfold vNin at hz
  split at hz
  · rename_i b hb
    cases hz
    rcases vIn_cases hb with ⟨c, t, rfl, rfl, e1⟩ | ⟨xs, k, hs, hm, e1⟩
    · cases e1; cases r1; cases r2
      exact op_notIn_sign pins s σ H _ _ v u Q I rv ru ⟨c, t, rfl, rfl, fin0 rs fin (.bl _)⟩
    · cases e1
      exact (mem_reads hu I rs rv ru r1 r2 hs hm).2 ⟨.bl (!b), H, I, rfl, fin0 rs fin (.bl _)⟩
  · cases hz
/-! ### expressions -/
theorem re_cmp {op : CmpOp} {g : Store → D → D → Option D} (ho : OpR X (compareOp op) (V2 X.K X.mg g)) (ha : RE X a ca) (hb : RE X b cb) (hm : behindInMarks op b = false := by first | exact nomark _ | rfl) : RE X (.Compare a [op] [b] pos) (op2 g ca cb) := fun W tk =>
  (pe_cmpR ho (ha W tk) (hb W tk) hm).imp fun σ H Q h => (Tr.bind h).mono fun x H1 h1 => (TrK.bind mono_d h1).mono fun y H2 h2 => h2.v2
theorem re_isN {j p} (ha : RE X a ca) : RE X (.Compare a [.Is] [.Constant .none j p] pos) (op1 vIsN ca) := fun W tk =>
  (pe_cmpR o_isN (ha W tk) pe_non (nomark _)).imp fun σ H Q h => (Tr.bind h).mono fun x H1 h1 => ⟨rfl, h1.v1⟩
theorem re_notN {j p} (ha : RE X a ca) : RE X (.Compare a [.IsNot] [.Constant .none j p] pos) (op1 vNotN ca) := fun W tk =>
  (pe_cmpR o_notN (ha W tk) pe_non (nomark _)).imp fun σ H Q h => (Tr.bind h).mono fun x H1 h1 => ⟨rfl, h1.v1⟩
theorem re_un {op : UnaryOp} {g : Store → D → Option D} (ho : UnR X (unaryOp op) (V1 X.K X.mg g)) (ha : RE X a ca) : RE X (.UnaryOp op a pos) (op1 g ca) := fun W tk =>
  (pe_un ho (ha W tk)).imp fun σ H Q h => (Tr.bind h).mono fun x H1 h1 => h1.v1
theorem isEmpty_len {vs : List V} {xs : List D} (h : vs.length = xs.length) : (!vs.isEmpty) = !xs.isEmpty := by
  cases vs <;> cases xs <;> simp at h ⊢
theorem tru_of {K : Frag} {mg : Str → Option Value} {B : Addr → Prop} {φ : List Addr} {H : Hp} {st : Store} (rs : RS K mg B φ H st) {v : V} {d : D} {k : Bool} (r : RD K B φ H v d) (h : truth st d = some k) :
    TruV K v H k := by
  cases r with
  | non => simp only [truth, Option.some.injEq] at h; exact h.symm
  | bl b => simp only [truth, Option.some.injEq] at h; exact h.symm
  | int i => simp only [truth, Option.some.injEq] at h; exact h.symm
  | str x q =>
    simp only [truth, Option.some.injEq] at h
    refine ⟨q.2, ?_⟩
    rw [← h]
    cases hx : x.length with
    | zero => rfl
    | succ n =>
      show (n + 1 != 0) = (((n + 1 : Nat) : Int) != 0)
      have : ¬ (((n + 1 : Nat) : Int) = 0) := by omega
      simp
      omega
  | tup s q => simp only [truth, Option.some.injEq] at h; exact .inr (.inl ⟨_, s, by rw [← h]; exact (isEmpty_len q.length).symm⟩)
  | lst s n q => simp only [truth, Option.some.injEq] at h; exact .inl ⟨_, SqL.of s, by rw [← h]; exact (isEmpty_len q.length).symm⟩
  | loc e =>
    rename_i a n
    cases hs : st[n]? with
    | none => simp [truth, hs] at h
    | some c =>
      obtain ⟨b, e', rc⟩ := rs.at_ n _ hs
      rw [e] at e'
      cases e'
      cases c with
      | lst ys =>
        simp only [truth, hs, Option.some.injEq] at h
        obtain ⟨vs, hv, rv⟩ := rc
        exact .inl ⟨_, SqL.of hv, by rw [← h]; exact (isEmpty_len rv.length).symm⟩
      | dct _ => simp [truth, hs] at h
      | dtt _ => simp [truth, hs] at h
      | ins _ _ => simp [truth, hs] at h
  | scr _ => simp [truth] at h
/-! ### tests -/
def IsB (g : Store → D → D → Option D) : Prop := ∀ st d e z, g st d e = some z → ∃ k, z = .bl k
theorem isB_lt : IsB vLt := fun st d e z h => by cases d <;> cases e <;> simp only [vLt] at h <;> first | (cases h; done) | exact ⟨_, (Option.some.inj h).symm⟩
theorem isB_le : IsB vLe := fun st d e z h => by cases d <;> cases e <;> simp only [vLe] at h <;> first | (cases h; done) | exact ⟨_, (Option.some.inj h).symm⟩
theorem isB_gt : IsB vGt := fun st d e z h => by cases d <;> cases e <;> simp only [vGt] at h <;> first | (cases h; done) | exact ⟨_, (Option.some.inj h).symm⟩
theorem isB_ge : IsB vGe := fun st d e z h => by cases d <;> cases e <;> simp only [vGe] at h <;> first | (cases h; done) | exact ⟨_, (Option.some.inj h).symm⟩
theorem isB_eq : IsB vEq := fun st d e z h => by unfold vEq at h; split at h <;> cases h; exact ⟨_, rfl⟩
theorem isB_ne : IsB vNe := fun st d e z h => by unfold vNe at h; split at h <;> cases h; exact ⟨_, rfl⟩
theorem isB_in : IsB vIn := fun st d e z h => by rcases vIn_cases h with ⟨_, _, _, _, rfl⟩ | ⟨_, _, _, _, rfl⟩ <;> exact ⟨_, rfl⟩
theorem isB_nin : IsB vNin := fun st d e z h => by unfold vNin at h; split at h <;> cases h; exact ⟨_, rfl⟩
theorem TrK.vTb {K : Frag} {mg : Str → Option Value} {σ : L2.St} {H : Hp} {W : WX} {x : V} {Q : Bool → Hp → Prop} (h : TrK K mg (RD K) rB (fun d => look fun st => truth st d) W x σ H Q) : ∃ k, TruV K x H k ∧ Q k H := by
  obtain ⟨B, φ, st, d, k, rs, r, hz, q⟩ := h.vT
  exact ⟨k, tru_of rs r hz, q⟩
theorem TrK.vB {K : Frag} {mg : Str → Option Value} {σ : L2.St} {H : Hp} {W : WX} {x : V} {Q : Bool → Hp → Prop} {b : Bool} (h : TrK K mg (RD K) rB (fun d => look fun st => truth st d) W x σ H Q) (e : x = .bl b) : Q b H := by
  obtain ⟨B, φ, st, d, k, rs, r, hz, q⟩ := h.vT
  subst e
  cases r
  simp only [truth, Option.some.injEq] at hz
  subst hz
  exact q
/-- a plain expression's truth -/
theorem rt_val (ha : RE X a ca) (he : ∀ whole, isTrue a X.env whole = (do let v ← whole; standAt a.pos; holding [v] (truthy v)) := by intro _; rfl) : RT X a (tV ca) := fun W tk =>
  (pt_truth (ha W tk) he).imp fun σ H Q h => (Tr.bind h).mono fun x H1 h1 => h1.vTb
theorem V2.bl {K : Frag} {mg : Str → Option Value} {g : Store → D → D → Option D} {x y : V} {H : Hp} {Q : VK} (hb : IsB g) (h : V2 K mg g x y H Q) : V2 K mg g x y H fun v H' => (∃ k, v = .bl k) ∧ Q v H' := by
  obtain ⟨B, φ, st, d, e, z, rs, r1, r2, hz, fin⟩ := h
  obtain ⟨k, rfl⟩ := hb _ _ _ _ hz
  exact ⟨B, φ, st, d, e, _, rs, r1, r2, hz, fun v B' φ' H' g' rs' r => ⟨by cases r; exact ⟨_, rfl⟩, fin v B' φ' H' g' rs' r⟩⟩
theorem V2.mono {K : Frag} {mg : Str → Option Value} {g : Store → D → D → Option D} {x y : V} {H : Hp} {Q Q' : VK} (h : V2 K mg g x y H Q) (f : ∀ v H', Q v H' → Q' v H') : V2 K mg g x y H Q' := by
  obtain ⟨B, φ, st, d, e, z, rs, r1, r2, hz, fin⟩ := h
  exact ⟨B, φ, st, d, e, _, rs, r1, r2, hz, fun v B' φ' H' g' rs' r => f _ _ (fin v B' φ' H' g' rs' r)⟩
theorem bind_assoc {α β γ : Type} (a : Act α) (f : α → Act β) (g : β → Act γ) : (a.bind f).bind g = a.bind fun x => (f x).bind g := by
  funext e st
  unfold Act.bind
  cases a e st with
  | none => rfl
  | some p => obtain ⟨q, st1⟩ := p; cases q <;> rfl
theorem rt_cmp {op : CmpOp} {g : Store → D → D → Option D} (ho : OpR X (compareOp op) (V2 X.K X.mg g)) (hb' : IsB g) (ha : RE X a ca) (hb : RE X b cb) (hm : behindInMarks op b = false := by first | exact nomark _ | rfl) : RT X (.Compare a [op] [b] pos) (tV (op2 g ca cb)) := fun W tk =>
  (pt_cmpR ho (ha W tk) (hb W tk) hm).imp fun σ H Q h => by
    unfold tV op2 at h
    simp only [bind_assoc] at h
    refine (Tr.bind h).mono fun x H1 h1 => (TrK.bind mono_d h1).mono fun y H2 h2 => ?_
    obtain ⟨B, φ, e, st, d, r, st', re, rs, r1, hc, fin⟩ := h2
    unfold Act.bind at hc
    dsimp only at hc
    cases hl : look (fun st => g st d.1 d.2) e st with
    | none => rw [hl] at hc; cases hc
    | some p =>
      obtain ⟨q, st1⟩ := p
      rw [hl] at hc
      obtain ⟨z, rfl, rfl, hz⟩ := look_eq hl
      obtain ⟨k, rfl⟩ := hb' _ _ _ _ hz
      obtain ⟨k', rfl, rfl, hk⟩ := look_eq hc
      simp only [truth, Option.some.injEq] at hk
      subst hk
      exact ⟨B, φ, _, d.1, d.2, _, rs, r1.1, r1.2, hz, fun v B' φ' H' g' rs' rv => by cases rv; exact ⟨k, rfl, fin k _ _ _ g' rs' rfl⟩⟩
theorem rt_isN {j p} (ha : RE X a ca) : RT X (.Compare a [.Is] [.Constant .none j p] pos) (tV (op1 vIsN ca)) := fun W tk =>
  (pt_cmpR o_isN (ha W tk) pe_non (nomark _)).imp fun σ H Q h => by
    unfold tV op1 at h
    simp only [bind_assoc] at h
    refine (Tr.bind h).mono fun x H1 h1 => ⟨rfl, ?_⟩
    obtain ⟨B, φ, e, st, d, r, st', re, rs, r1, hc, fin⟩ := h1
    have hz : ∃ k, vIsN st d = some (.bl k) := by cases d <;> exact ⟨_, rfl⟩
    obtain ⟨k, hz⟩ := hz
    simp only [Act.bind, look, hz, truth, Option.map_some, Option.some.injEq, Prod.mk.injEq] at hc
    obtain ⟨rfl, rfl⟩ := hc
    exact ⟨B, φ, _, d, _, rs, r1, hz, fun v B' φ' H' g' rs' rv => by cases rv; exact ⟨k, rfl, fin k _ _ _ g' rs' rfl⟩⟩
theorem rt_notN {j p} (ha : RE X a ca) : RT X (.Compare a [.IsNot] [.Constant .none j p] pos) (tV (op1 vNotN ca)) := fun W tk =>
  (pt_cmpR o_notN (ha W tk) pe_non (nomark _)).imp fun σ H Q h => by
    unfold tV op1 at h
    simp only [bind_assoc] at h
    refine (Tr.bind h).mono fun x H1 h1 => ⟨rfl, ?_⟩
    obtain ⟨B, φ, e, st, d, r, st', re, rs, r1, hc, fin⟩ := h1
    have hz : ∃ k, vNotN st d = some (.bl k) := by cases d <;> exact ⟨_, rfl⟩
    obtain ⟨k, hz⟩ := hz
    simp only [Act.bind, look, hz, truth, Option.map_some, Option.some.injEq, Prod.mk.injEq] at hc
    obtain ⟨rfl, rfl⟩ := hc
    exact ⟨B, φ, _, d, _, rs, r1, hz, fun v B' φ' H' g' rs' rv => by cases rv; exact ⟨k, rfl, fin k _ _ _ g' rs' rfl⟩⟩
theorem TrK.pureB {K : Frag} {mg : Str → Option Value} {σ : L2.St} {H : Hp} {W : WX} {α β α₁ β₁ : Type} {R₁ : Rl α₁ β₁} {R : Rl α β} {f : α₁ → α} {x : β₁} {y : β} {Q : β → Hp → Prop} (h : TrK K mg R₁ R (fun d => Act.pure (f d)) W x σ H Q)
    (hr : ∀ {B φ H d}, R₁ B φ H x d → R B φ H y (f d)) : Q y H := by
  obtain ⟨B, φ, e, st, d, r, st', re, rs, r1, hc, fin⟩ := h
  unfold Act.pure at hc
  cases hc
  exact fin _ _ _ _ (.refl rs) rs (hr r1)
theorem rt_not (ha : RT X a ta) : RT X (.UnaryOp .Not a pos) (tNot ta) := fun W tk => (pt_not (ha W tk)).imp fun σ H Q h => (Tr.bind h).mono fun x H1 h1 => h1.pureB fun r => congrArg (!·) r
/-- behind a first test: its truth is known -/
theorem TrK.then {K : Frag} {mg : Str → Option Value} {σ : L2.St} {H : Hp} {W : WX} {α β : Type} {R : Rl α β} {f g : Act α} {x : Bool} {Q : β → Hp → Prop} (h : TrK K mg rB R (fun b => if b = true then f else g) W x σ H Q) :
    (x = true → Tr K mg R f W σ H Q) ∧ (x = false → Tr K mg R g W σ H Q) := by
  obtain ⟨B, φ, e, st, d, r, st', re, rs, r1, hc, fin⟩ := h
  have r1 : x = d := r1
  subst r1
  refine ⟨fun q => ?_, fun q => ?_⟩ <;> (subst q; exact ⟨B, φ, e, st, r, st', re, rs, hc, fin⟩)
theorem Tr.pure {K : Frag} {mg : Str → Option Value} {σ : L2.St} {H : Hp} {W : WX} {α β : Type} {R : Rl α β} {d : α} {y : β} {Q : β → Hp → Prop} (h : Tr K mg R (Act.pure d) W σ H Q) (hr : ∀ B φ H, R B φ H y d) : Q y H := by
  obtain ⟨B, φ, e, st, r, st', re, rs, hc, fin⟩ := h
  unfold Act.pure at hc
  cases hc
  exact fin _ _ _ _ (.refl rs) rs (hr _ _ _)
def RW (X : Cx) (e : Expr) (c : Tx) : Prop := ∀ W, Takes X W → PW X e (Tr X.K X.mg rB c W)
theorem _root_.L2.PW.imp {X : Cx} {e : Expr} {t t' : TT} (h : PW X e t) (f : ∀ σ H Q, t' σ H Q → t σ H Q) : PW X e t' := ⟨fun wh pins s σ H Q I q => h.run wh pins s σ H Q I (f σ H Q q)⟩
theorem rt_w (h : RW X a ta) : RT X a ta := fun W tk => (h W tk).pt
theorem rw_and1 (ha : RT X a ta) : RW X (.BoolOp .And [a] pos) ta := fun W tk => pw_and1 (ha W tk)
theorem rw_or1 (ha : RT X a ta) : RW X (.BoolOp .Or [a] pos) ta := fun W tk => pw_or1 (ha W tk)
theorem rw_and {rest : List Expr} (ha : RT X a ta) (hb : RW X (.BoolOp .And (b :: rest) pos) tb) : RW X (.BoolOp .And (a :: b :: rest) pos) (tAnd ta tb) := fun W tk => (pw_and (ha W tk) (hb W tk)).imp fun σ H Q h => (Tr.bind h).mono fun x H1 h1 => by
  cases x with
  | true => exact iteT (h1.then.1 rfl)
  | false => exact iteF ((h1.then.2 rfl).pure fun _ _ _ => rfl)
theorem rw_or {rest : List Expr} (ha : RT X a ta) (hb : RW X (.BoolOp .Or (b :: rest) pos) tb) : RW X (.BoolOp .Or (a :: b :: rest) pos) (tOr ta tb) := fun W tk => (pw_or (ha W tk) (hb W tk)).imp fun σ H Q h => (Tr.bind h).mono fun x H1 h1 => by
  cases x with
  | true => exact iteT ((h1.then.1 rfl).pure fun _ _ _ => rfl)
  | false => exact iteF (h1.then.2 rfl)
theorem re_if {c : Expr} {tc : Tx} (hc : RT X c tc) (ha : RE X a ca) (hb : RE X b cb) : RE X (.IfExp c a b pos) (eIf tc ca cb) := fun W tk => (pe_ifExp (hc W tk) (ha W tk) (hb W tk)).imp fun σ H Q h => (Tr.bind h).mono fun x H1 h1 => by
  cases x with
  | true => exact iteT (h1.then.1 rfl)
  | false => exact iteF (h1.then.2 rfl)
theorem TrK.andor {K : Frag} {mg : Str → Option Value} {σ : L2.St} {H : Hp} {W : WX} {x : V} {Q : VK} {f : Bool → D → Ex} (h : TrK K mg (RD K) (RD K) (fun d => (look fun st => truth st d : Tx).bind fun k => f k d) W x σ H Q) :
    ∃ k, TruV K x H k ∧ TrK K mg (RD K) (RD K) (f k) W x σ H Q := by
  obtain ⟨B, φ, e, st, d, r, st', re, rs, r1, hc, fin⟩ := h
  unfold Act.bind at hc
  dsimp only at hc
  cases hl : (look fun st => truth st d : Tx) e st with
  | none => rw [hl] at hc; cases hc
  | some p =>
    obtain ⟨q, st1⟩ := p
    rw [hl] at hc
    obtain ⟨k, rfl, rfl, hk⟩ := look_eq hl
    exact ⟨k, tru_of rs r1 hk, B, φ, e, _, d, r, st', re, rs, r1, hc, fin⟩
theorem TrK.same {K : Frag} {mg : Str → Option Value} {σ : L2.St} {H : Hp} {W : WX} {x : V} {Q : VK} (h : TrK K mg (RD K) (RD K) eC W x σ H Q) : Q x H := by
  obtain ⟨B, φ, e, st, d, r, st', re, rs, r1, hc, fin⟩ := h
  unfold eC at hc
  cases hc
  exact fin _ _ _ _ (.refl rs) rs r1
theorem TrK.drop {K : Frag} {mg : Str → Option Value} {σ : L2.St} {H : Hp} {W : WX} {α β α₁ β₁ : Type} {R₁ : Rl α₁ β₁} {R : Rl α β} {f : Act α} {x : β₁} {Q : β → Hp → Prop} (h : TrK K mg R₁ R (fun _ => f) W x σ H Q) : Tr K mg R f W σ H Q := by
  obtain ⟨B, φ, e, st, d, r, st', re, rs, r1, hc, fin⟩ := h
  exact ⟨B, φ, e, st, r, st', re, rs, hc, fin⟩
theorem re_one {op} (ha : RE X a ca) : RE X (.BoolOp op [a] pos) ca := fun W tk => pe_one (ha W tk)
theorem re_and {rest : List Expr} (ha : RE X a ca) (hb : RE X (.BoolOp .And (b :: rest) pos) cb) : RE X (.BoolOp .And (a :: b :: rest) pos) (eAnd ca cb) := fun W tk => (pe_andT (ha W tk) (hb W tk)).imp fun σ H Q h => (Tr.bind h).mono fun x H1 h1 => by
  obtain ⟨k, t, h2⟩ := TrK.andor (f := fun k d => if k = true then cb else eC d) h1
  refine ⟨k, t, ?_⟩
  cases k with
  | true => exact iteT h2.drop
  | false => exact iteF h2.same
theorem re_or {rest : List Expr} (ha : RE X a ca) (hb : RE X (.BoolOp .Or (b :: rest) pos) cb) : RE X (.BoolOp .Or (a :: b :: rest) pos) (eOr ca cb) := fun W tk => (pe_orT (ha W tk) (hb W tk)).imp fun σ H Q h => (Tr.bind h).mono fun x H1 h1 => by
  obtain ⟨k, t, h2⟩ := TrK.andor (f := fun k d => if k = true then eC d else cb) h1
  refine ⟨k, t, ?_⟩
  cases k with
  | true => exact iteT h2.same
  | false => exact iteF h2.drop
theorem re_not (ha : RE X a ca) : RE X (.UnaryOp .Not a pos) (eNotT ca) := fun W tk => (pe_notT (ha W tk)).imp fun σ H Q h => (Tr.bind h).mono fun x H1 h1 => by
  obtain ⟨B, φ, st, d, z, rs, r, hz, fin⟩ := h1.v1
  unfold vNot at hz
  cases ht : truth st d with
  | none => rw [ht] at hz; cases hz
  | some k => rw [ht] at hz; cases hz; exact ⟨k, tru_of rs r ht, fin0 rs fin (.bl _)⟩
end
end Sw

/-! Rules3: chains, places, slices, displays, arguments, built-ins by name. -/
set_option Elab.async false
set_option linter.all false
set_option maxRecDepth 100000
set_option maxHeartbeats 4000000
namespace Sw
open PySem PySem.Spec PyProof.Rows L2
section
variable {X : Cx} {a b c o : Expr} {ca cb cc : Ex} {ta tb : Tx} {pos : Pos} {es : List Expr} {cs : Ax}
theorem TrK.chain {K : Frag} {mg : Str → Option Value} {σ : L2.St} {H : Hp} {W : WX} {x y : V} {Q : VK} {g g' : Store → D → D → Option D} {cc : Ex} (hg : IsB g)
    (h : TrK K mg (R2x (RD K) (RD K)) (RD K) (fun p => (look fun st => g st p.1 p.2 : Ex).bind fun k => match k with
      | .bl true => cc.bind fun z => look fun st => g' st p.2 z
      | .bl false => eC (.bl false)
      | _ => fun _ _ => none) W (x, y) σ H Q) :
    V2 K mg g x y H fun z H3 => ∃ k, z = .bl k ∧ if k = true then Tr K mg (RD K) cc W σ H3 (fun w' H4 => V2 K mg g' y w' H4 Q) else Q (.bl false) H3 := by
  obtain ⟨B, φ, e, st, d, r, st', re, rs, r1, hc, fin⟩ := h
  unfold Act.bind at hc
  dsimp only at hc
  cases hl : (look fun st => g st d.1 d.2 : Ex) e st with
  | none => rw [hl] at hc; cases hc
  | some p =>
    obtain ⟨q, st1⟩ := p
    rw [hl] at hc
    obtain ⟨z, rfl, rfl, hz⟩ := look_eq hl
    obtain ⟨k, rfl⟩ := hg _ _ _ _ hz
    refine ⟨B, φ, _, d.1, d.2, _, rs, r1.1, r1.2, hz, fun v B' φ' H' g0 rs' rv => ?_⟩
    cases rv
    refine ⟨k, rfl, ?_⟩
    cases k with
    | false =>
      dsimp only at hc
      unfold eC at hc
      cases hc
      exact iteF (fin _ _ _ _ g0 rs' (.bl false))
    | true =>
      refine iteT ?_
      dsimp only at hc
      have t : TrK K mg (RD K) (RD K) (fun d2 => cc.bind fun z => look fun st => g' st d2 z) W y σ H' Q := ⟨B', φ', e, _, d.2, r, st', REnv.go rs g0 re, rs', RD.go rs g0 r1.2, hc, fin.go g0⟩
      exact (TrK.bind mono_d t).mono fun w' H4 h4 => h4.v2
theorem Tr.boolOf {K : Frag} {mg : Str → Option Value} {σ : L2.St} {H : Hp} {W : WX} {cE : Ex} {Q : Bool → Hp → Prop} (hb : ∀ e st d st', cE e st = some (.ok d, st') → ∃ k, d = .bl k) (h : Tr K mg rB (tV cE) W σ H Q) :
    Tr K mg (RD K) cE W σ H fun v H' => ∃ k, v = .bl k ∧ Q k H' := by
  obtain ⟨B, φ, e, st, r, st', re, rs, hc, fin⟩ := h
  unfold tV Act.bind at hc
  cases ha : cE e st with
  | none => rw [ha] at hc; cases hc
  | some p =>
    obtain ⟨q, st1⟩ := p
    rw [ha] at hc
    cases q with
    | error x =>
      simp only [Option.some.injEq, Prod.mk.injEq] at hc
      obtain ⟨rfl, rfl⟩ := hc
      exact ⟨B, φ, e, st, _, _, re, rs, ha, fin⟩
    | ok d =>
      obtain ⟨k, rfl⟩ := hb _ _ _ _ ha
      obtain ⟨k', rfl, rfl, hk⟩ := look_eq hc
      simp only [truth, Option.some.injEq] at hk
      subst hk
      exact ⟨B, φ, e, st, _, _, re, rs, ha, fun v B' φ' H' g rs' rv => by cases rv; exact ⟨k, rfl, fin k _ _ _ g rs' rfl⟩⟩
theorem bind_ok {α β : Type} {a : Act α} {f : α → Act β} {e : Env} {st st' : Store} {d : β} (h : (a.bind f) e st = some (.ok d, st')) : ∃ x st1, a e st = some (.ok x, st1) ∧ f x e st1 = some (.ok d, st') := by
  unfold Act.bind at h
  split at h
  · exact ⟨_, _, by assumption, h⟩
  · cases h
  · cases h
theorem chain_b {g g' : Store → D → D → Option D} {ca cb cc : Ex} (hg : IsB g) (hg' : IsB g') (e : Env) (st : Store) (d : D) (st' : Store) (h : eChain g g' ca cb cc e st = some (.ok d, st')) : ∃ k, d = .bl k := by
  unfold eChain at h
  obtain ⟨x, st1, h1, h⟩ := bind_ok h
  obtain ⟨y, st2, h2, h⟩ := bind_ok h
  obtain ⟨z, st3, h3, h⟩ := bind_ok h
  obtain ⟨z', e1, rfl, hz⟩ := look_eq h3
  cases e1
  obtain ⟨k, rfl⟩ := hg _ _ _ _ hz
  cases k with
  | false => unfold eC at h; cases h; exact ⟨_, rfl⟩
  | true =>
    obtain ⟨w, st4, h4, h⟩ := bind_ok h
    obtain ⟨w', e2, rfl, hw⟩ := look_eq h
    cases e2
    exact hg' _ _ _ _ hw
theorem RDs.map {K : Frag} {B B' : Addr → Prop} {φ φ' : List Addr} {H H' : Hp} (f : ∀ {v d}, RD K B φ H v d → RD K B' φ' H' v d) : ∀ {vs ds}, RDs K B φ H vs ds → RDs K B' φ' H' vs ds
  | _, _, .nil => .nil
  | _, _, .cons r t => .cons (f r) (RDs.map f t)
theorem re_chain {op op' : CmpOp} {g g' : Store → D → D → Option D} (ho : OpR X (compareOp op) (V2 X.K X.mg g)) (ho' : OpR X (compareOp op') (V2 X.K X.mg g')) (hg : IsB g) (ha : RE X a ca) (hb : RE X b cb) (hc : RE X c cc)
    (hm : lastMarks [op, op'] [b, c] = false := by with_unfolding_all rfl) : RE X (.Compare a [op, op'] [b, c] pos) (eChain g g' ca cb cc) := fun W tk =>
  (pe_chain ho ho' (ha W tk) (hb W tk) (hc W tk) hm).imp fun σ H Q h => (Tr.bind h).mono fun x H1 h1 => (TrK.bind mono_d h1).mono fun y H2 h2 => h2.chain hg
theorem rt_chain {op op' : CmpOp} {g g' : Store → D → D → Option D} (ho : OpR X (compareOp op) (V2 X.K X.mg g)) (ho' : OpR X (compareOp op') (V2 X.K X.mg g')) (hg : IsB g) (hg' : IsB g') (ha : RE X a ca) (hb : RE X b cb) (hc : RE X c cc)
    (hm : lastMarks [op, op'] [b, c] = false := by with_unfolding_all rfl) : RT X (.Compare a [op, op'] [b, c] pos) (tV (eChain g g' ca cb cc)) := fun W tk =>
  (pt_chain ho ho' (ha W tk) (hb W tk) (hc W tk) hm).imp fun σ H Q h =>
    (Tr.bind (Tr.boolOf (chain_b hg hg') h)).mono fun x H1 h1 => (TrK.bind mono_d h1).mono fun y H2 h2 => h2.chain hg
/-! ### places and slices -/
theorem ix_eq (n : Nat) (i : Int) : ixN n i = ix? n i := rfl
theorem i_ix (x y : V) (H : Hp) (Q : VK) (h : V2 X.K X.mg vIx x y H Q) : rIx X.K x y H Q := by
  obtain ⟨B, φ, st, d, e, z, rs, r1, r2, hz, fin⟩ := h
  cases e with
  | int k =>
    cases r2
    have seqc : ∀ xs, seq? st d = some xs → (ix? xs.length k).bind (fun j => xs[j]?) = some z → rIx X.K x (.int k) H Q := fun xs hs hj => by
      obtain ⟨p, vs, rfl, q, alt⟩ := seq_cases rs r1 hs
      cases hj' : ix? xs.length k with
      | none => rw [hj'] at hj; cases hj
      | some j =>
        rw [hj', Option.bind_some] at hj
        obtain ⟨v, hv, rv⟩ := q.get hj
        have hat : atI vs k = some v := by
          unfold atI
          rw [ix_eq, q.length, hj', Option.bind_some, hv]
        rcases alt with ⟨sq, _⟩ | ⟨sq, _⟩
        · exact .inr (.inl ⟨p, vs, k, v, rfl, rfl, sq, hat, fin0 rs fin rv⟩)
        · exact .inl ⟨p, vs, k, v, rfl, rfl, SqL.of sq, hat, fin0 rs fin rv⟩
    cases d with
    | str t =>
      simp only [vIx] at hz
      cases hj' : ix? t.cps.toList.length k with
      | none => rw [hj'] at hz; cases hz
      | some j =>
        rw [hj', Option.bind_some] at hz
        cases hc : t.cps.toList[j]? with
        | none => rw [hc] at hz; cases hz
        | some c =>
          rw [hc, Option.map_some] at hz
          cases hz
          cases r1 with | str _ ok =>
          refine .inr (.inr ⟨t, k, c, rfl, rfl, ok.2, by unfold atI; rw [ix_eq, hj', Option.bind_some, hc], fin0 rs fin (.str _ ⟨?_, by show 1 ≤ sizeLine; decide⟩)⟩)
          have hm : c ∈ t.cps.toList := List.mem_of_getElem? hc
          have := ok.1
          rw [Array.all_eq_true'] at this
          simp only [List.all_toArray, List.all_cons, List.all_nil, Bool.and_true]
          exact this c (Array.mem_toList_iff.mp hm)
    | tup xs => exact seqc xs rfl (by simpa [vIx, seq?] using hz)
    | lst xs => exact seqc xs rfl (by simpa [vIx, seq?] using hz)
    | loc n =>
      simp only [vIx] at hz
      cases hs : seq? st (.loc n) with
      | none => rw [hs] at hz; cases hz
      | some xs => rw [hs, Option.bind_some] at hz; exact seqc xs hs hz
    | non => simp [vIx, seq?] at hz
    | bl _ => simp [vIx, seq?] at hz
    | int _ => simp [vIx, seq?] at hz
    | scr _ => simp [vIx, seq?] at hz
  | _ => simp [vIx] at hz
theorem re_ix (ha : RE X a ca) (hb : RE X b cb) (hs : PlainIx b := by intro _ _; rfl) : RE X (.Subscript a b pos) (op2 vIx ca cb) := fun W tk =>
  (pe_ix ix_seq (ha W tk) (hb W tk) hs).imp fun σ H Q h => (Tr.bind h).mono fun x H1 h1 => (TrK.bind mono_d h1).mono fun y H2 h2 => i_ix x y H2 Q h2.v2
theorem ro_none : RO X none pNone := fun W tk => po_none.imp fun σ H Q ⟨B, φ, e, st, r, st', re, rs, hc, fin⟩ => by
  unfold pNone at hc
  cases hc
  exact fin _ _ _ _ (.refl rs) rs rfl
theorem ro_some (ha : RE X a ca) : RO X (some a) (pSome ca) := fun W tk => (po_some (ha W tk)).imp fun σ H Q h => (Tr.bind h).mono fun x H1 ⟨B, φ, e, st, d, r, st', re, rs, r1, hc, fin⟩ => by
  cases d <;> dsimp only at hc <;> try (cases hc; done)
  cases r1
  unfold Act.pure at hc
  cases hc
  exact ⟨_, rfl, fin _ _ _ _ (.refl rs) rs rfl⟩
theorem cutAt_eq (n d : Nat) (o : Option Int) : HT.sIx n d o = cutAt n d o := by cases o <;> rfl
theorem RDs.cut {K : Frag} {B : Addr → Prop} {φ : List Addr} {H : Hp} {vs : List V} {ds : List D} (r : RDs K B φ H vs ds) (lo hi : Option Int) : RDs K B φ H (cutV vs lo hi) (cut ds lo hi) := by
  unfold cutV Sw.cut
  simp only [cutAt_eq, r.length]
  exact (r.drop _).take _
theorem cut_whole {α : Type} (xs : List α) (lo hi : Option Int) (h : cutAt xs.length 0 lo = 0 ∧ cutAt xs.length xs.length hi = xs.length) : cut xs lo hi = xs := by
  unfold cut
  rw [h.1, h.2]
  simp
theorem rds_ints {K : Frag} {B : Addr → Prop} {φ : List Addr} {H : Hp} : ∀ ns : List Int, RDs K B φ H (ns.map V.int) (ns.map D.int)
  | [] => .nil
  | n :: ns => .cons (.int n) (rds_ints ns)
def rSlAny (K : Frag) : V → Option Int → Option Int → Hp → VK → Prop := fun x lo hi H Q => rSlA K x lo hi H Q ∨ rSlL K x lo hi H Q ∨ rSlS x lo hi H Q
theorem sl_any : SlR X (rSlAny X.K) := SlR.or sl_tupA (SlR.or sl_list sl_str)
theorem strOk_sub {x : Str} {l : List Nat} (h : strOk x) (hs : ∀ c ∈ l, c ∈ x.cps.toList) (hl : l.length ≤ x.length) : strOk ⟨l.toArray⟩ := by
  refine ⟨?_, Nat.le_trans (by show l.toArray.size ≤ _; simpa using hl) h.2⟩
  have h1 := h.1
  rw [Array.all_eq_true'] at h1
  rw [List.all_toArray, List.all_eq_true]
  exact fun c hc => h1 c (Array.mem_toList_iff.mp (hs c hc))
theorem s_slice (x : V) (lo hi : Option Int) (H : Hp) (Q : VK) {B : Addr → Prop} {φ : List Addr} {st : Store} {d z : D} (rs : RS X.K X.mg B φ H st) (r1 : RD X.K B φ H x d) (hz : vSlice st d lo hi = some z)
    (fin : ∀ v B' φ' H', Go φ B H φ' B' H' → RS X.K X.mg B' φ' H' st → RD X.K B' φ' H' v z → Q v H') : rSlAny X.K x lo hi H Q := by
  cases d with
  | tup xs =>
    simp only [vSlice, Option.some.injEq] at hz
    subst hz
    cases r1 with | tup sq q =>
    refine .inl ⟨_, _, rfl, sq, fun hw => ?_, fun hw p hp => finT rs fin (q.cut lo hi) hp⟩
    simp only [cutAt_eq, q.length] at hw
    rw [cut_whole xs lo hi hw] at fin
    exact fin0 rs fin (.tup sq q)
  | lst xs =>
    simp only [vSlice, seq?, Option.map_some, Option.some.injEq] at hz
    subst hz
    cases r1 with | lst sq n q =>
    exact .inr (.inl ⟨_, _, rfl, SqL.of sq, fun p hp => finL rs fin (q.cut lo hi) hp⟩)
  | loc n =>
    simp only [vSlice] at hz
    cases hs : seq? st (.loc n) with
    | none => rw [hs] at hz; cases hz
    | some xs =>
      rw [hs] at hz
      cases hz
      obtain ⟨p, vs, rfl, q, alt⟩ := seq_cases rs r1 hs
      rcases alt with ⟨_, e⟩ | ⟨sq, _⟩
      · cases e
      · exact .inr (.inl ⟨p, vs, rfl, SqL.of sq, fun p hp => finL rs fin (q.cut lo hi) hp⟩)
  | scr ns =>
    simp only [vSlice, Option.some.injEq] at hz
    subst hz
    cases r1 with | scr e =>
    exact .inr (.inl ⟨_, _, rfl, e.sq, fun p hp => finL rs fin ((rds_ints ns).cut lo hi) hp⟩)
  | str t =>
    simp only [vSlice, Option.some.injEq] at hz
    subst hz
    cases r1 with | str _ ok =>
    refine .inr (.inr ⟨t, rfl, ok.2, ?_⟩)
    have e : cutS t lo hi = ⟨(cut t.cps.toList lo hi).toArray⟩ := by
      have hl : t.length = t.cps.toList.length := by show t.cps.size = _; simp
      unfold cutS Sw.cut
      simp only [cutAt_eq, hl]
    rw [e]
    refine fin0 rs fin (.str _ (strOk_sub ok (fun c hc => ?_) ?_))
    · exact List.mem_of_mem_drop (List.mem_of_mem_take hc)
    · show (cut t.cps.toList lo hi).length ≤ t.cps.size
      unfold Sw.cut
      rw [List.length_take, List.length_drop, ← Array.length_toList]
      omega
  | _ => simp [vSlice, seq?] at hz
theorem re_slice {lo hi : Option Expr} {cl ch : Px} {p2 : Pos} (ha : RE X a ca) (hl : RO X lo cl) (hh : RO X hi ch) : RE X (.Subscript a (.Slice lo hi none p2) pos) (eSlice ca cl ch) := fun W tk =>
  (pe_slice sl_any (ha W tk) (hl W tk) (hh W tk)).imp fun σ H Q h => (Tr.bind h).mono fun x H1 h1 => (TrK.bind mono_d h1).mono fun l H2 h2 => (TrK.bind (f := fun p hi => look fun st => vSlice st p.1 p.2 hi) (mono_2 mono_d mono_o) h2).mono fun u H3 h3 => by
    obtain ⟨B, φ, e, st, d, r, st', re, rs, r1, hc, fin⟩ := h3
    obtain ⟨⟨d1, d2⟩, d3⟩ := d
    obtain ⟨⟨r11, r12⟩, r13⟩ := r1
    have e2 : l = d2 := r12
    have e3 : u = d3 := r13
    subst e2 e3
    obtain ⟨z, rfl, rfl, hz⟩ := look_eq hc
    exact s_slice x l u H3 Q rs r11 hz fin
/-- xs[::-1] of a list -/
theorem lst_cases {K : Frag} {mg : Str → Option Value} {B : Addr → Prop} {φ : List Addr} {H : Hp} {st : Store} (rs : RS K mg B φ H st) {v : V} {d : D} {xs : List D} (r : RD K B φ H v d) (h : lstOf st d = some xs) :
    ∃ a vs, v = .ref a ∧ RDs K B φ H vs xs ∧ H a = some (.lst vs) := by
  cases r with
  | lst s n q => simp only [lstOf, Option.some.injEq] at h; subst h; exact ⟨_, _, rfl, q, s⟩
  | loc e =>
    rename_i a n
    cases hs : st[n]? with
    | none => simp [lstOf, hs] at h
    | some c =>
      cases c with
      | lst ys =>
        simp only [lstOf, hs, Option.some.injEq] at h
        subst h
        obtain ⟨b, e', vs, hv, rv⟩ := rs.at_ n _ hs
        rw [e] at e'
        cases e'
        exact ⟨_, _, rfl, rv, hv⟩
      | dct _ => simp [lstOf, hs] at h
      | dtt _ => simp [lstOf, hs] at h
      | ins _ _ => simp [lstOf, hs] at h
  | _ => simp [lstOf] at h
theorem re_revL {k : Nat} {p1 p2 p3 : Pos} (ha : RE X a ca) : RE X (.Subscript a (.Slice none none (some (.UnaryOp .USub (.Constant (.int 1) k p1) p2)) p3) pos) (op1 vRevL ca) := fun W tk =>
  (pe_revL (ha W tk)).imp fun σ H Q h => (Tr.bind h).mono fun x H1 h1 => by
    obtain ⟨B, φ, st, d, z, rs, r, hz, fin⟩ := h1.v1
    unfold vRevL at hz
    cases hs : lstOf st d with
    | none => rw [hs] at hz; cases hz
    | some xs =>
      rw [hs] at hz
      cases hz
      obtain ⟨p, vs, rfl, q, sq⟩ := lst_cases rs r hs
      exact ⟨p, vs, rfl, SqL.of sq, fun p hp => finL rs fin q.reverse hp⟩
/-! ### displays and arguments -/
theorem ra_nil : RA X [] aNil := fun W tk => pa_nil.imp fun σ H Q ⟨B, φ, e, st, r, st', re, rs, hc, fin⟩ => by
  unfold aNil at hc
  cases hc
  exact fin _ _ _ _ (.refl rs) rs .nil
theorem ra_cons (ha : RE X a ca) (hr : RA X es cs) (hs : starEach (a :: es) X.env = (false, eval a X.env) :: starEach es X.env := by rfl) : RA X (a :: es) (aCons ca cs) := fun W tk =>
  (pa_cons (ha W tk) (hr W tk) hs).imp fun σ H Q h => (Tr.bind h).mono fun x H1 h1 => (TrK.bind mono_d h1).mono fun xs H2 h2 => h2.pureB fun r => .cons r.1 r.2
theorem re_tup {k} (ha : RA X es cs) : RE X (.Tuple es k pos) (eTup cs) := fun W tk => (pe_tup (ha W tk)).imp fun σ H Q h => (Tr.bind h).mono fun xs H1 h1 => by
  obtain ⟨B, φ, st, ds, z, rs, r, hz, fin⟩ := TrK.vA (g := fun _ xs => if xs.length ≤ PySem.sizeLine then some (.tup xs) else none) h1
  dsimp only at hz
  split at hz
  · rename_i hl
    cases hz
    exact ⟨by rw [r.length]; exact hl, fun p hp => finT rs fin r hp⟩
  · cases hz
theorem re_lst (ha : RA X es cs) : RE X (.List es pos) (eLst cs) := fun W tk => (pe_lst (ha W tk)).imp fun σ H Q h => (Tr.bind h).mono fun xs H1 h1 => by
  obtain ⟨B, φ, st, ds, z, rs, r, hz, fin⟩ := TrK.vA (g := fun _ xs => if xs.length ≤ PySem.sizeLine then some (.lst xs) else none) h1
  dsimp only at hz
  split at hz
  · rename_i hl
    cases hz
    exact ⟨by rw [r.length]; exact hl, fun p hp => finL rs fin r hp⟩
  · cases hz
/-- a list that may change -/
theorem re_lstC (ha : RA X es cs) : RE X (.List es pos) (eLstC cs) := fun W tk => (pe_lst (ha W tk)).imp fun σ H Q h => (Tr.bind h).mono fun xs H1 ⟨B, φ, e, st, d, r, st', re, rs, r1, hc, fin⟩ => by
  dsimp only at hc
  split at hc
  · rename_i hl
    unfold newCell at hc
    cases hc
    refine ⟨by rw [r1.length]; exact hl, fun p hp => ?_⟩
    obtain ⟨rs', g⟩ := rs.newCell (c := .lst d) (o := .lst xs) hp trivial fun H1 f e1 => ⟨xs, e1, RDs.map f r1⟩
    refine fin _ _ _ _ g rs' (.loc ?_)
    rw [List.getElem?_append_right (by rw [rs.len]; exact Nat.le_refl _), rs.len]
    simp
  · cases hc
theorem re_dctC : RE X (.Dict [] [] pos) eDctC := fun W tk => pe_dnewK.imp fun σ H Q ⟨B, φ, e, st, r, st', re, rs, hc, fin⟩ => fun p hp => by
  unfold eDctC newCell at hc
  cases hc
  obtain ⟨rs', g⟩ := rs.newCell (c := .dct []) (o := .dK []) hp trivial fun H1 f e1 => ⟨[], e1, .nil⟩
  refine fin _ _ _ _ g rs' (.loc ?_)
  rw [List.getElem?_append_right (by rw [rs.len]; exact Nat.le_refl _), rs.len]
  simp
/-- {} that is to have tuples as keys -/
theorem re_dctT : RE X (.Dict [] [] pos) eDctT := fun W tk => pe_dnewT.imp fun σ H Q ⟨B, φ, e, st, r, st', re, rs, hc, fin⟩ => fun p hp => by
  unfold eDctT newCell at hc
  cases hc
  obtain ⟨rs', g⟩ := rs.newCell (c := .dtt []) (o := .dT []) hp trivial fun H1 f e1 => ⟨[], e1, .nil⟩
  refine fin _ _ _ _ g rs' (.loc ?_)
  rw [List.getElem?_append_right (by rw [rs.len]; exact Nat.le_refl _), rs.len]
  simp
/-! ### built-ins by name -/
variable {x : Str} {p : Pos} {id T : String} {g : Store → List D → Option D}
theorem re_bi (hc : CallR X (.builtin id) (VA X.K X.mg g)) (hg : Gl X x) (hm : X.mg x = none) (hv : bootBuiltins x = some (.builtin id)) (ha : RA X (a :: es) cs) (hn : x ≠ "__name__" := by decide) (hdb : (x == ("__debug__" : Str)) = false := by decide)
    (he : starEach (a :: es) X.env = (false, eval a X.env) :: starEach es X.env := by rfl) (hpl : (backTo pos (starEach es X.env)).any (·.1) = false := by rfl) : RE X (.Call (.Name x p) (a :: es) [] pos) (opA g cs) := fun W tk =>
  (pe_callB hc hg hm hv (ha W tk) hn hdb he hpl).imp fun σ H Q h => (Tr.bind h).mono fun xs H1 h1 => h1.vA
theorem re_ty (hc : CallR X (.type T) (VA X.K X.mg g)) (hg : Gl X x) (hm : X.mg x = none) (hv : bootBuiltins x = some (.type T)) (ha : RA X (a :: es) cs) (hn : x ≠ "__name__" := by decide) (hdb : (x == ("__debug__" : Str)) = false := by decide)
    (he : starEach (a :: es) X.env = (false, eval a X.env) :: starEach es X.env := by rfl) (hpl : (backTo pos (starEach es X.env)).any (·.1) = false := by rfl) : RE X (.Call (.Name x p) (a :: es) [] pos) (opA g cs) := fun W tk =>
  (pe_callTy hc hg hm hv (ha W tk) hn hdb he hpl).imp fun σ H Q h => (Tr.bind h).mono fun xs H1 h1 => h1.vA
/-! ### some built-ins -/
theorem args1 {K : Frag} {B : Addr → Prop} {φ : List Addr} {H : Hp} {xs : List V} {d : D} (r : RDs K B φ H xs [d]) : ∃ v, xs = [v] ∧ RD K B φ H v d := by
  cases r with | cons r t => cases t; exact ⟨_, rfl, r⟩
theorem args2 {K : Frag} {B : Addr → Prop} {φ : List Addr} {H : Hp} {xs : List V} {d e : D} (r : RDs K B φ H xs [d, e]) : ∃ v u, xs = [v, u] ∧ RD K B φ H v d ∧ RD K B φ H u e := by
  cases r with | cons r t => cases t with | cons r2 t2 => cases t2; exact ⟨_, _, rfl, r, r2⟩
theorem c_abs : CallR X (.builtin "abs") (VA X.K X.mg gAbs) := by
  intro pins s σ H xs us Q I rv ⟨B, φ, st, ds, z, rs, r, hz, fin⟩
  unfold gAbs at hz
  split at hz
  · cases hz
    obtain ⟨v, rfl, rd⟩ := args1 r
    cases rd
    exact call_abs pins s σ H _ us Q I rv ⟨_, rfl, fin0 rs fin (.int _)⟩
  · cases hz
theorem c_int : CallR X (.type "int") (VA X.K X.mg gInt) := by
  intro pins s σ H xs us Q I rv ⟨B, φ, st, ds, z, rs, r, hz, fin⟩
  unfold gInt at hz
  split at hz
  · cases hz
    obtain ⟨v, rfl, rd⟩ := args1 r
    cases rd
    exact call_int1 pins s σ H _ us Q I rv (.inl ⟨_, rfl, fin0 rs fin (.int _)⟩)
  · cases hz
    obtain ⟨v, rfl, rd⟩ := args1 r
    cases rd
    exact call_int1 pins s σ H _ us Q I rv (.inr ⟨_, rfl, fin0 rs fin (.int _)⟩)
  · cases hz
theorem c_max2 (hc : X.calm = true) : CallR X (.builtin "max") (VA X.K X.mg gMax2) := by
  intro pins s σ H xs us Q I rv ⟨B, φ, st, ds, z, rs, r, hz, fin⟩
  unfold gMax2 at hz
  split at hz
  · cases hz
    obtain ⟨v, u, rfl, rd, rd2⟩ := args2 r
    cases rd; cases rd2
    exact call_max2 hc pins s σ H _ us Q I rv ⟨_, _, rfl, fin0 rs fin (.int _)⟩
  · cases hz
theorem c_min2 (hc : X.calm = true) : CallR X (.builtin "min") (VA X.K X.mg gMin2) := by
  intro pins s σ H xs us Q I rv ⟨B, φ, st, ds, z, rs, r, hz, fin⟩
  unfold gMin2 at hz
  split at hz
  · cases hz
    obtain ⟨v, u, rfl, rd, rd2⟩ := args2 r
    cases rd; cases rd2
    exact call_min2 hc pins s σ H _ us Q I rv ⟨_, _, rfl, fin0 rs fin (.int _)⟩
  · cases hz
theorem bls_eq : ∀ {xs : List D} {bs : List Bool}, bls? xs = some bs → xs = bs.map D.bl
  | [], bs, h => by simp [bls?] at h; subst h; rfl
  | x :: xs, bs, h => by
    cases x <;> simp only [bls?] at h <;> try (cases h; done)
    cases hq : bls? xs with
    | none => rw [hq] at h; cases h
    | some cs => rw [hq] at h; cases h; rw [bls_eq hq]; rfl
theorem ints_eq : ∀ {xs : List D} {bs : List Int}, ints? xs = some bs → xs = bs.map D.int
  | [], bs, h => by simp [ints?] at h; subst h; rfl
  | x :: xs, bs, h => by
    cases x <;> simp only [ints?] at h <;> try (cases h; done)
    cases hq : ints? xs with
    | none => rw [hq] at h; cases h
    | some cs => rw [hq] at h; cases h; rw [ints_eq hq]; rfl
theorem strs_eq : ∀ {xs : List D} {bs : List Str}, strs? xs = some bs → xs = bs.map D.str
  | [], bs, h => by simp [strs?] at h; subst h; rfl
  | x :: xs, bs, h => by
    cases x <;> simp only [strs?] at h <;> try (cases h; done)
    cases hq : strs? xs with
    | none => rw [hq] at h; cases h
    | some cs => rw [hq] at h; cases h; rw [strs_eq hq]; rfl
theorem c_all (hc : X.calm = true) : CallR X (.builtin "all") (VA X.K X.mg gAll) := by
  intro pins s σ H xs us Q I rv ⟨B, φ, st, ds, z, rs, r, hz, fin⟩
  unfold gAll at hz
  split at hz
  · obtain ⟨v, rfl, rd⟩ := args1 r
    rename_i d
    cases hs : lstOf st d with
    | none => rw [hs] at hz; cases hz
    | some ys =>
      rw [hs, Option.bind_some] at hz
      cases hb : bls? ys with
      | none => rw [hb] at hz; cases hz
      | some bs =>
        rw [hb] at hz
        cases hz
        obtain ⟨p, vs, rfl, q, sq⟩ := lst_cases rs rd hs
        rw [bls_eq hb] at q
        have := q.bls
        subst this
        exact cr_all hc pins s σ H _ us Q I rv ⟨_, _, rfl, SqL.of sq, fin0 rs fin (.bl _)⟩
  · cases hz
theorem c_any (hc : X.calm = true) : CallR X (.builtin "any") (VA X.K X.mg gAny) := by
  intro pins s σ H xs us Q I rv ⟨B, φ, st, ds, z, rs, r, hz, fin⟩
  unfold gAny at hz
  split at hz
  · obtain ⟨v, rfl, rd⟩ := args1 r
    rename_i d
    cases hs : lstOf st d with
    | none => rw [hs] at hz; cases hz
    | some ys =>
      rw [hs, Option.bind_some] at hz
      cases hb : bls? ys with
      | none => rw [hb] at hz; cases hz
      | some bs =>
        rw [hb] at hz
        cases hz
        obtain ⟨p, vs, rfl, q, sq⟩ := lst_cases rs rd hs
        rw [bls_eq hb] at q
        have := q.bls
        subst this
        exact cr_any hc pins s σ H _ us Q I rv ⟨_, _, rfl, SqL.of sq, fin0 rs fin (.bl _)⟩
  · cases hz
theorem c_sum (hc : X.calm = true) : CallR X (.builtin "sum") (VA X.K X.mg gSum) := by
  intro pins s σ H xs us Q I rv ⟨B, φ, st, ds, z, rs, r, hz, fin⟩
  unfold gSum at hz
  split at hz
  · obtain ⟨v, rfl, rd⟩ := args1 r
    rename_i d
    cases hs : lstOf st d with
    | none => rw [hs] at hz; cases hz
    | some ys =>
      rw [hs, Option.bind_some] at hz
      cases hb : ints? ys with
      | none => rw [hb] at hz; cases hz
      | some bs =>
        rw [hb] at hz
        cases hz
        obtain ⟨p, vs, rfl, q, sq⟩ := lst_cases rs rd hs
        rw [ints_eq hb] at q
        have := q.ints
        subst this
        exact cr_sum hc pins s σ H _ us Q I rv ⟨_, _, rfl, SqL.of sq, fin0 rs fin (.int _)⟩
  · cases hz
theorem c_list : CallR X (.type "list") (VA X.K X.mg gList) := by
  intro pins s σ H xs us Q I rv ⟨B, φ, st, ds, z, rs, r, hz, fin⟩
  unfold gList at hz
  split at hz
  · obtain ⟨v, rfl, rd⟩ := args1 r
    rename_i d
    cases hs : seq? st d with
    | none => rw [hs] at hz; cases hz
    | some ys =>
      rw [hs] at hz
      cases hz
      obtain ⟨p, vs, rfl, q, alt⟩ := seq_cases rs rd hs
      refine call_list_of pins s σ H _ us Q I rv ⟨p, vs, rfl, ?_, fun l hl => finL rs fin q hl⟩
      rcases alt with ⟨sq, _⟩ | ⟨sq, _⟩
      · exact .inr sq
      · exact .inl (SqL.of sq)
  · cases hz
theorem c_tuple : CallR X (.type "tuple") (VA X.K X.mg gTuple) := by
  intro pins s σ H xs us Q I rv ⟨B, φ, st, ds, z, rs, r, hz, fin⟩
  unfold gTuple at hz
  split at hz
  · obtain ⟨v, rfl, rd⟩ := args1 r
    rename_i d
    cases hs : seq? st d with
    | none => rw [hs] at hz; cases hz
    | some ys =>
      rw [hs] at hz
      cases hz
      obtain ⟨p, vs, rfl, q, alt⟩ := seq_cases rs rd hs
      refine call_tuple_of pins s σ H _ us Q I rv ⟨p, vs, rfl, ?_⟩
      rcases alt with ⟨sq, e⟩ | ⟨sq, _⟩
      · exact .inr ⟨sq, fin0 rs fin (.tup sq q)⟩
      · exact .inl ⟨SqL.of sq, fun l hl => finT rs fin q hl⟩
  · cases hz
theorem RKv.length {K : Frag} {B : Addr → Prop} {φ : List Addr} {H : Hp} {κ : Type} {kd : κ → D} : ∀ {vs : List (κ × V)} {ds : List (D × D)}, RKv K B φ H kd vs ds → vs.length = ds.length
  | _, _, .nil => rfl
  | _, _, .cons _ _ t => congrArg (· + 1) (RKv.length t)
theorem dct_cases {K : Frag} {mg : Str → Option Value} {B : Addr → Prop} {φ : List Addr} {H : Hp} {st : Store} (rs : RS K mg B φ H st) {v : V} {d : D} {kvs : List (D × D)} (r : RD K B φ H v d) (h : dct? st d = some kvs) :
    ∃ a, v = .ref a ∧ ((∃ ks, H a = some (.dK ks) ∧ RKv K B φ H keyD ks kvs) ∨ (∃ ks, H a = some (.dT ks) ∧ RKv K B φ H tupKey ks kvs)) := by
  cases r with
  | loc e =>
    rename_i a n
    cases hs : st[n]? with
    | none => simp [dct?, hs] at h
    | some c =>
      cases c with
      | dct ys =>
        simp only [dct?, hs, Option.some.injEq] at h
        subst h
        obtain ⟨b, e', rc⟩ := rs.at_ n _ hs
        rw [e] at e'
        cases e'
        exact ⟨_, rfl, .inl rc⟩
      | dtt ys =>
        simp only [dct?, hs, Option.some.injEq] at h
        subst h
        obtain ⟨b, e', rc⟩ := rs.at_ n _ hs
        rw [e] at e'
        cases e'
        exact ⟨_, rfl, .inr rc⟩
      | lst _ => simp [dct?, hs] at h
      | ins _ _ => simp [dct?, hs] at h
  | _ => simp [dct?] at h
theorem c_len : CallR X (.builtin "len") (VA X.K X.mg gLen) := by
  intro pins s σ H xs us Q I rv ⟨B, φ, st, ds, z, rs, r, hz, fin⟩
  unfold gLen at hz
  split at hz
  · cases hz
    obtain ⟨v, rfl, rd⟩ := args1 r
    cases rd with | str _ ok =>
    exact call_len_str pins s σ H _ us Q I rv ⟨_, rfl, ok.2, fin0 rs fin (.int _)⟩
  · obtain ⟨v, rfl, rd⟩ := args1 r
    rename_i d _
    cases hs : seq? st d with
    | some ys =>
      rw [hs] at hz
      cases hz
      obtain ⟨p, vs, rfl, q, alt⟩ := seq_cases rs rd hs
      refine call_len_seq pins s σ H _ us Q I rv ⟨p, vs, rfl, ?_, by rw [q.length]; exact fin0 rs fin (.int _)⟩
      rcases alt with ⟨sq, e⟩ | ⟨sq, _⟩
      · exact .inr sq
      · exact .inl (SqL.of sq)
    | none =>
      rw [hs] at hz
      dsimp only at hz
      cases hd : dct? st d with
      | none => rw [hd] at hz; cases hz
      | some kvs =>
        rw [hd] at hz
        cases hz
        obtain ⟨a, rfl, alt⟩ := dct_cases rs rd hd
        rcases alt with ⟨ks, e, r⟩ | ⟨ks, e, r⟩
        · exact call_lenD pins s σ H _ us Q I rv ⟨a, ks, rfl, e, by rw [r.length]; exact fin0 rs fin (.int _)⟩
        · exact call_len_dT pins s σ H _ us Q I rv ⟨a, ks, rfl, e, by rw [r.length]; exact fin0 rs fin (.int _)⟩
  · cases hz
end
end Sw

/-! Rules4: statements, targets, loops, comprehensions. -/
set_option Elab.async false
set_option linter.all false
set_option maxRecDepth 100000
set_option maxHeartbeats 4000000
namespace Sw
open PySem PySem.Spec PyProof.Rows L2
/-! ### the reading of a statement -/
def FinS (K : Frag) (mg : Str → Option Value) (B : Addr → Prop) (φ : List Addr) (H : Hp) (st' : Store) (D : Ends) (W : WX) : SR → Prop
  | .nx e' => ∀ σ' B' φ' H', Go φ B H φ' B' H' → RS K mg B' φ' H' st' → REnv K B' φ' H' σ' e' → D.nx σ' H'
  | .rt d => ∀ v B' φ' H', Go φ B H φ' B' H' → RS K mg B' φ' H' st' → RD K B' φ' H' v d → D.rt v H'
  | .bk e' => ∀ σ' B' φ' H', Go φ B H φ' B' H' → RS K mg B' φ' H' st' → REnv K B' φ' H' σ' e' → D.bk σ' H'
  | .ct e' => ∀ σ' B' φ' H', Go φ B H φ' B' H' → RS K mg B' φ' H' st' → REnv K B' φ' H' σ' e' → D.ct σ' H'
  | .ex x e' => ∀ cls dx σ' B' φ' H', Go φ B H φ' B' H' → RS K mg B' φ' H' st' → REnv K B' φ' H' σ' e' → RX K mg B' φ' H' x cls dx → W cls dx σ' H'
def TrS (K : Frag) (mg : Str → Option Value) (c : Sx) (W : WX) : TS := fun D σ H =>
  ∃ B φ e st r st', REnv K B φ H σ e ∧ RS K mg B φ H st ∧ c e st = some (r, st') ∧ FinS K mg B φ H st' D W r
section
variable (X : Cx)
def RSt (s : Stmt) (c : Sx) : Prop := ∀ W, Takes X W → PS X s (TrS X.K X.mg c W)
def RSs (s : List Stmt) (c : Sx) : Prop := ∀ W, Takes X W → PSs X s (TrS X.K X.mg c W)
end
/-- the reading of a target -/
def TrG (K : Frag) (mg : Str → Option Value) (g : Tg) : TG := fun v σ H Q =>
  ∃ B φ e st d e' st', REnv K B φ H σ e ∧ RS K mg B φ H st ∧ RD K B φ H v d ∧ g d e st = some (e', st') ∧
    ∀ σ' B' φ' H', Go φ B H φ' B' H' → RS K mg B' φ' H' st' → REnv K B' φ' H' σ' e' → Q σ' H'
def TrGs (K : Frag) (mg : Str → Option Value) (g : List Tg) : TGs := fun v σ H Q =>
  ∃ B φ e st d e' st', REnv K B φ H σ e ∧ RS K mg B φ H st ∧ RDs K B φ H v d ∧ gTups g d e st = some (e', st') ∧
    ∀ σ' B' φ' H', Go φ B H φ' B' H' → RS K mg B' φ' H' st' → REnv K B' φ' H' σ' e' → Q σ' H'
def RG (X : Cx) (tg : Expr) (g : Tg) : Prop := ∀ W, Takes X W → PG X tg (TrG X.K X.mg g)
def RGs (X : Cx) (tg : List Expr) (g : List Tg) : Prop := ∀ W, Takes X W → PGs X tg (TrGs X.K X.mg g)
section
variable {K : Frag} {mg : Str → Option Value} {B B' : Addr → Prop} {φ φ' : List Addr} {H H' : Hp} {st st' : Store} {En : Ends} {W : WX} {σ : L2.St} {e : Env}
theorem FinS.go {r : SR} (g : Go φ B H φ' B' H') (h : FinS K mg B φ H st En W r) : FinS K mg B' φ' H' st En W r := by
  cases r with
  | nx e => exact fun σ B2 φ2 H2 g2 => h σ B2 φ2 H2 (g.trans g2)
  | rt d => exact fun σ B2 φ2 H2 g2 => h σ B2 φ2 H2 (g.trans g2)
  | bk e => exact fun σ B2 φ2 H2 g2 => h σ B2 φ2 H2 (g.trans g2)
  | ct e => exact fun σ B2 φ2 H2 g2 => h σ B2 φ2 H2 (g.trans g2)
  | ex x e => exact fun c d σ B2 φ2 H2 g2 => h c d σ B2 φ2 H2 (g.trans g2)
theorem REnv.set {v : V} {d : D} {i : Nat} (re : REnv K B φ H σ e) (r : RD K B φ H v d) : REnv K B φ H (σ.set i (some v)) (e.set i (some d)) := by
  refine ⟨by rw [List.length_set, List.length_set, re.1], fun j d' h => ?_⟩
  by_cases hj : j = i
  · subst hj
    by_cases hl : j < e.length
    · rw [List.getElem?_set_self hl] at h
      cases h
      exact ⟨v, List.getElem?_set_self (by rw [re.1]; exact hl), r⟩
    · rw [List.getElem?_eq_none (by rw [List.length_set]; omega)] at h; cases h
  · rw [List.getElem?_set_ne (Ne.symm hj)] at h
    obtain ⟨u, h1, h2⟩ := re.2 j d' h
    exact ⟨u, by rw [List.getElem?_set_ne (Ne.symm hj)]; exact h1, h2⟩
theorem REnv.unset {i : Nat} (re : REnv K B φ H σ e) : REnv K B φ H σ (e.set i none) := by
  refine ⟨by rw [List.length_set, re.1], fun j d' h => ?_⟩
  by_cases hj : j = i
  · subst hj
    by_cases hl : j < e.length
    · rw [List.getElem?_set_self hl] at h; cases h
    · rw [List.getElem?_eq_none (by rw [List.length_set]; omega)] at h; cases h
  · rw [List.getElem?_set_ne (Ne.symm hj)] at h
    exact re.2 j d' h
theorem REnv.wipe (re : REnv K B φ H σ e) : ∀ vs : List Nat, REnv K B φ H σ (Sw.wipe e vs)
  | [] => re
  | v :: vs => (REnv.wipe re vs).unset
theorem REnv.wipe2 (re : REnv K B φ H σ e) : ∀ vs : List Nat, REnv K B φ H (L2.wipe σ vs) (Sw.wipe e vs)
  | [] => re
  | v :: vs => by
    have q := REnv.wipe2 re vs
    unfold L2.wipe Sw.wipe
    refine ⟨by rw [List.length_set, List.length_set, q.1], fun j d' h => ?_⟩
    by_cases hj : j = v
    · subst hj
      by_cases hl : j < (Sw.wipe e vs).length
      · rw [List.getElem?_set_self hl] at h; cases h
      · rw [List.getElem?_eq_none (by rw [List.length_set]; omega)] at h; cases h
    · rw [List.getElem?_set_ne (Ne.symm hj)] at h
      obtain ⟨u, h1, h2⟩ := q.2 j d' h
      exact ⟨u, by rw [List.getElem?_set_ne (Ne.symm hj)]; exact h1, h2⟩
/-- an expression's outcome as a statement's -/
theorem Tr.intoS {α β : Type} {R : Rl α β} {a : Act α} {f : α → Env → Store → Option (SR × Store)} {c : Sx} (hc : ∀ e st, c e st = match a e st with
    | some (.ok d, st') => f d e st'
    | some (.error x, st') => some (.ex x e, st')
    | none => none) (h : TrS K mg c W En σ H) :
    Tr K mg R a W σ H fun v H1 => ∃ B φ e st d r st', REnv K B φ H1 σ e ∧ RS K mg B φ H1 st ∧ R B φ H1 v d ∧ f d e st = some (r, st') ∧ FinS K mg B φ H1 st' En W r := by
  obtain ⟨B, φ, e, st, r, st', re, rs, h1, fin⟩ := h
  rw [hc] at h1
  cases ha : a e st with
  | none => rw [ha] at h1; cases h1
  | some p =>
    obtain ⟨q, st1⟩ := p
    rw [ha] at h1
    cases q with
    | error x =>
      cases h1
      exact ⟨B, φ, e, st, _, _, re, rs, ha, fun cls dx B' φ' H' g rs' rx => fin cls dx σ B' φ' H' g rs' (REnv.go rs g re) rx⟩
    | ok d => exact ⟨B, φ, e, st, _, _, re, rs, ha, fun v B' φ' H' g rs' rd => ⟨B', φ', e, st1, d, r, st', REnv.go rs g re, rs', rd, h1, fin.go g⟩⟩
end
section
variable {X : Cx} {a b c o : Expr} {ca cb cc : Ex} {ta tb : Tx} {pos : Pos} {es : List Expr} {cs : Ax} {s1 : Stmt} {ss ss2 : List Stmt} {c1 c2 : Sx}
theorem rs_nil : RSs X [] sSkip := fun W tk => pss_nil.imp fun D σ H ⟨B, φ, e, st, r, st', re, rs, hc, fin⟩ => by
  unfold sSkip at hc
  cases hc
  exact fin σ _ _ _ (.refl rs) rs re
theorem rs_cons (h1 : RSt X s1 c1) (h2 : RSs X ss c2) : RSs X (s1 :: ss) (sSeq c1 c2) := fun W tk => (pss_cons (h1 W tk) (h2 W tk)).imp fun D σ H ⟨B, φ, e, st, r, st', re, rs, hc, fin⟩ => by
  unfold sSeq at hc
  cases ha : c1 e st with
  | none => rw [ha] at hc; cases hc
  | some p =>
    obtain ⟨q, st1⟩ := p
    rw [ha] at hc
    cases q with
    | nx e1 => exact ⟨B, φ, e, st, _, _, re, rs, ha, fun σ' B' φ' H' g rs' re' => ⟨B', φ', e1, st1, r, st', re', rs', hc, fin.go g⟩⟩
    | rt d => cases hc; exact ⟨B, φ, e, st, _, _, re, rs, ha, fin⟩
    | bk d => cases hc; exact ⟨B, φ, e, st, _, _, re, rs, ha, fin⟩
    | ct d => cases hc; exact ⟨B, φ, e, st, _, _, re, rs, ha, fin⟩
    | ex d f => cases hc; exact ⟨B, φ, e, st, _, _, re, rs, ha, fin⟩
theorem rs_one (h1 : RSt X s1 c1) : RSs X [s1] c1 := fun W tk => pss_one (h1 W tk)
theorem rs_pass : RSt X (.Pass pos) sSkip := fun W tk => ps_pass.imp fun D σ H ⟨B, φ, e, st, r, st', re, rs, hc, fin⟩ => by
  unfold sSkip at hc
  cases hc
  exact fin σ _ _ _ (.refl rs) rs re
theorem rs_break : RSt X (.Break pos) sBreak := fun W tk => ps_break.imp fun D σ H ⟨B, φ, e, st, r, st', re, rs, hc, fin⟩ => by
  unfold sBreak at hc
  cases hc
  exact fin σ _ _ _ (.refl rs) rs re
theorem rs_cont : RSt X (.Continue pos) sCont := fun W tk => ps_continue.imp fun D σ H ⟨B, φ, e, st, r, st', re, rs, hc, fin⟩ => by
  unfold sCont at hc
  cases hc
  exact fin σ _ _ _ (.refl rs) rs re
theorem rs_never : RSt X s1 sNever := fun W tk => ps_never.imp fun D σ H ⟨B, φ, e, st, r, st', re, rs, hc, fin⟩ => by cases hc
theorem rs_do (ha : RE X a ca) (hs : swapsWith a none pos.line X.env = pure false := by rfl) : RSt X (.Expr a pos) (sDo ca) := fun W tk => (ps_expr (ha W tk) hs).imp fun D σ H h =>
  (Tr.intoS (c := sDo ca) (f := fun _ e st => some (.nx e, st)) (fun e st => by unfold sDo; cases ca e st with | none => rfl | some p => obtain ⟨q, st1⟩ := p; cases q <;> rfl) h).mono fun v H1 ⟨B, φ, e, st, d, r, st', re, rs, r1, hc, fin⟩ => by
    cases hc
    exact fin σ _ _ _ (.refl rs) rs re
theorem rs_ret (ha : RE X a ca) : RSt X (.Return (some a) pos) (sRet ca) := fun W tk => (ps_ret (ha W tk)).imp fun D σ H h =>
  (Tr.intoS (c := sRet ca) (f := fun d _ st => some (.rt d, st)) (fun e st => by unfold sRet; cases ca e st with | none => rfl | some p => obtain ⟨q, st1⟩ := p; cases q <;> rfl) h).mono fun v H1 ⟨B, φ, e, st, d, r, st', re, rs, r1, hc, fin⟩ => by
    cases hc
    exact fin v _ _ _ (.refl rs) rs r1
theorem rs_retN : RSt X (.Return none pos) (sRet (eC .non)) := fun W tk => ps_retN.imp fun D σ H ⟨B, φ, e, st, r, st', re, rs, hc, fin⟩ => by
  cases hc
  exact fin _ _ _ _ (.refl rs) rs .non
theorem rs_if {tc : Tx} (hc : RT X c tc) (h1 : RSs X ss c1) (h2 : RSs X ss2 c2) : RSt X (.If c ss ss2 pos) (sIf tc c1 c2) := fun W tk => (ps_if (hc W tk) (h1 W tk) (h2 W tk)).imp fun D σ H h =>
  (Tr.intoS (R := rB) (c := sIf tc c1 c2) (f := fun b e st => if b = true then c1 e st else c2 e st) (fun e st => by unfold sIf; cases tc e st with | none => rfl | some p => obtain ⟨q, st1⟩ := p; cases q with | error x => rfl | ok b => cases b <;> rfl) h).mono fun v H1 ⟨B, φ, e, st, d, r, st', re, rs, r1, hc, fin⟩ => by
    have r1 : v = d := r1
    subst r1
    cases v with
    | true => exact iteT ⟨B, φ, e, st, r, st', re, rs, hc, fin⟩
    | false => exact iteF ⟨B, φ, e, st, r, st', re, rs, hc, fin⟩
/-! ### targets -/
theorem rg_name {i : Nat} {x : Str} (hN : X.N.Nodup) (hi : X.N[i]? = some x) (hx : Loc X.env.scope x) (hf : X.fn x = true ∨ X.env.scope.names.lookup x = some .local := by first | exact .inl rfl | exact .inr rfl | assumption) : RG X (.Name x pos) (gName i) := fun W tk =>
  (pg_name hN hi hx hf).imp fun v σ H Q ⟨B, φ, e, st, d, e', st', re, rs, rd, hc, fin⟩ => by
    unfold Sw.gName at hc
    cases hc
    exact fin _ _ _ _ (.refl rs) rs (re.set rd)
theorem _root_.L2.PGs.imp {X : Cx} {e : List Expr} {t t' : TGs} (h : PGs X e t) (f : ∀ v σ H Q, t' v σ H Q → t v σ H Q) : PGs X e t' := ⟨fun pins s σ H v u Q I r q => h.run pins s σ H v u Q I r (f v σ H Q q)⟩
theorem rgs_nil : RGs X [] [] := fun W tk => pgs_nil.imp fun v σ H Q ⟨B, φ, e, st, d, e', st', re, rs, rd, hc, fin⟩ => by
  cases d with
  | nil =>
    cases rd
    unfold gTups at hc
    cases hc
    exact ⟨rfl, fin _ _ _ _ (.refl rs) rs re⟩
  | cons _ _ => unfold gTups at hc; cases hc
theorem rgs_cons {g : Tg} {gs : List Tg} (h1 : RG X a g) (h2 : RGs X es gs) (hs : (assignEach (a :: es) X.env).map (·.2) = assign a X.env :: (assignEach es X.env).map (·.2) := by rfl) : RGs X (a :: es) (g :: gs) := fun W tk =>
  (pgs_cons (h1 W tk) (h2 W tk) hs).imp fun v σ H Q ⟨B, φ, e, st, d, e', st', re, rs, rd, hc, fin⟩ => by
    cases d with
    | nil => unfold gTups at hc; cases hc
    | cons d ds =>
      cases rd with | cons r t =>
      unfold gTups at hc
      split at hc
      · rename_i e1 st1 hg
        exact ⟨_, _, rfl, B, φ, e, st, d, e1, st1, re, rs, r, hg, fun σ' B' φ' H' g rs' re' => ⟨B', φ', e1, st1, ds, e', st', re', rs', RDs.go rs g t, hc, fun σ2 B2 φ2 H2 g2 => fin σ2 B2 φ2 H2 (g.trans g2)⟩⟩
      · cases hc
theorem _root_.L2.PG.or {X : Cx} {e : Expr} {t t' : TG} (h : PG X e t) (h' : PG X e t') : PG X e (fun v σ H Q => t v σ H Q ∨ t' v σ H Q) := ⟨fun pins s σ H v u Q I r q => by
  rcases q with q | q
  · exact h.run pins s σ H v u Q I r q
  · exact h'.run pins s σ H v u Q I r q⟩
theorem gTups_len : ∀ {gs : List Tg} {ds : List D} {e e' : Env} {st st' : Store}, gTups gs ds e st = some (e', st') → ds.length = gs.length
  | [], [], _, _, _, _, _ => rfl
  | [], _ :: _, _, _, _, _, h => by unfold gTups at h; cases h
  | _ :: _, [], _, _, _, _, h => by unfold gTups at h; cases h
  | g :: gs, d :: ds, _, _, _, _, h => by
    unfold gTups at h
    split at h
    · exact congrArg (· + 1) (gTups_len h)
    · cases h
theorem rg_tup {k : Nat} {gs : List Tg} (hc : X.calm = true) (h : RGs X es gs) (hn : (assignEach es X.env).length = gs.length := by rfl) (hst : (assignEach es X.env).findIdx? (·.1) = none := by rfl) : RG X (.Tuple es k pos) (gTup gs) := fun W tk =>
  ((pg_tup hc (h W tk) hn hst).or (pg_unl hc (h W tk) hn hst)).imp fun v σ H Q ⟨B, φ, e, st, d, e', st', re, rs, rd, hc, fin⟩ => by
    unfold Sw.gTup at hc
    cases d with
    | tup ds =>
      cases rd with | tup sq q =>
      exact .inl ⟨_, _, rfl, sq, by rw [q.length]; exact gTups_len hc, B, φ, e, st, ds, e', st', re, rs, q, hc, fin⟩
    | lst ds =>
      cases rd with | lst sq nb q =>
      exact .inr ⟨_, _, rfl, SqL.of sq, by rw [q.length]; exact gTups_len hc, B, φ, e, st, ds, e', st', re, rs, q, hc, fin⟩
    | _ => cases hc
theorem rs_asg {tg : Expr} {g : Tg} (ha : RE X a ca) (hg : RG X tg g) (hs : swapsWithSole [tg] a pos.line X.env = pure false := by rfl) (hw : swappedStores [tg] a X.env = pure none := by rfl)
    (h1 : (assignEach [tg] X.env).map (·.2) = [assign tg X.env] := by rfl) : RSt X (.Assign [tg] a pos) (sAsg ca g) := fun W tk => (ps_asg (ha W tk) (hg W tk) hs hw h1).imp fun D σ H h =>
  (Tr.intoS (c := sAsg ca g) (f := fun d e st => match g d e st with | some (e', st'') => some (.nx e', st'') | none => none) (fun e st => by unfold sAsg; cases ca e st with | none => rfl | some p => obtain ⟨q, st1⟩ := p; cases q <;> rfl) h).mono fun v H1 ⟨B, φ, e, st, d, r, st', re, rs, r1, hc, fin⟩ => by
    cases hg' : g d e st with
    | none => rw [hg'] at hc; cases hc
    | some p =>
      obtain ⟨e', st1⟩ := p
      rw [hg'] at hc
      cases hc
      exact ⟨B, φ, e, st, d, e', _, re, rs, r1, hg', fin⟩
theorem rs_set {i : Nat} {x : Str} {p' : Pos} (hN : X.N.Nodup) (hi : X.N[i]? = some x) (hx : Loc X.env.scope x) (ha : RE X a ca) (hs : swapsWith a (some (.Name x p')) pos.line X.env = pure false := by rfl)
    (hf : X.fn x = true ∨ X.env.scope.names.lookup x = some .local := by first | exact .inl rfl | exact .inr rfl | assumption) : RSt X (.Assign [.Name x p'] a pos) (sSet i ca) := fun W tk => (ps_set hN hi hx (ha W tk) hs hf).imp fun D σ H h =>
  (Tr.intoS (c := sSet i ca) (f := fun d e st => some (.nx (e.set i (some d)), st)) (fun e st => by unfold sSet sAsg Sw.gName; cases ca e st with | none => rfl | some p => obtain ⟨q, st1⟩ := p; cases q <;> rfl) h).mono fun v H1 ⟨B, φ, e, st, d, r, st', re, rs, r1, hc, fin⟩ => by
    cases hc
    exact fin _ _ _ _ (.refl rs) rs (re.set r1)
theorem rs_par {i j : Nat} {x y : Str} {px py pt : Pos} {kt k2 pt2} (hc : X.calm = true) (hN : X.N.Nodup) (hi : X.N[i]? = some x) (hj : X.N[j]? = some y) (hij : i ≠ j)
    (hx : X.env.scope.names.lookup x = some .local) (hy : X.env.scope.names.lookup y = some .local) (ha : RA X [a, b] cs)
    (hw : swappedStores [.Tuple [.Name x px, .Name y py] kt pt] (.Tuple [a, b] k2 pt2) X.env = pure (some [x, y]) := by rfl)
    (hs : swapsWithSole [.Tuple [.Name x px, .Name y py] kt pt] (.Tuple [a, b] k2 pt2) pos.line X.env = pure false := by rfl) :
    RSt X (.Assign [.Tuple [.Name x px, .Name y py] kt pt] (.Tuple [a, b] k2 pt2) pos) (sPar [gName i, gName j] cs) := fun W tk => (ps_par hc hN hi hj hij hx hy (ha W tk) hw hs).imp fun D σ H h =>
  (Tr.intoS (c := sPar [gName i, gName j] cs) (f := fun ds e st => match gTups [gName i, gName j] ds e st with | some (e', st'') => some (.nx e', st'') | none => none) (fun e st => by unfold sPar; cases cs e st with | none => rfl | some p => obtain ⟨q, st1⟩ := p; cases q <;> rfl) h).mono fun v H1 ⟨B, φ, e, st, d, r, st', re, rs, r1, hc, fin⟩ => by
    match d, r1, hc with
    | [], _, hc => simp [gTups] at hc
    | [_], _, hc => simp [gTups, Sw.gName] at hc
    | [d1, d2], r1, hc =>
      obtain ⟨v, u, rfl, q1, q2⟩ := args2 r1
      simp only [gTups, Sw.gName, Option.some.injEq, Prod.mk.injEq] at hc
      obtain ⟨rfl, rfl⟩ := hc
      exact ⟨v, u, rfl, fin _ _ _ _ (.refl rs) rs ((re.set q1).set q2)⟩
    | _ :: _ :: _ :: _, _, hc => simp [gTups, Sw.gName] at hc
/-! ### loops -/
/-- what is walked: J goes over ds wherever the state goes on to -/
def ItRel (K : Frag) (mg : Str → Option Value) (J : It) (ds : List D) (B : Addr → Prop) (φ : List Addr) (H : Hp) : Prop :=
  ∀ B' φ' H' st', Go φ B H φ' B' H' → RS K mg B' φ' H' st' → ∀ i, (ds.length ≤ i → J.stop i H') ∧
    ∀ d, ds[i]? = some d → J.go i H' ∧ ∀ x H'', J.yld i H' x H'' → ∃ B'', Go φ' B' H' φ' B'' H'' ∧ RS K mg B'' φ' H'' st' ∧ RD K B'' φ' H'' x d
def TrI (K : Frag) (mg : Str → Option Value) (c : Act (List D)) (W : WX) : TI := fun σ H R =>
  ∃ B φ e st r st', REnv K B φ H σ e ∧ RS K mg B φ H st ∧ c e st = some (r, st') ∧ match r with
    | .ok ds => ∀ J B' φ' H', Go φ B H φ' B' H' → RS K mg B' φ' H' st' → ItRel K mg J ds B' φ' H' → ds.length ≤ sizeLine → R J H'
    | .error x => ∀ cls dx B' φ' H', Go φ B H φ' B' H' → RS K mg B' φ' H' st' → RX K mg B' φ' H' x cls dx → W cls dx σ H'
def RI (X : Cx) (tg it : Expr) (c : Act (List D)) : Prop := ∀ W, Takes X W → PI X tg it (TrI X.K X.mg c W)
theorem _root_.L2.PE.know {X : Cx} {e : Expr} {t : TE} (h : PE X e t) : PE X e (fun σ H Q => t σ H fun v H' => (∃ pins s, Inv X pins σ H' s) → Q v H') :=
  ⟨fun pins s σ H Q I q => thn (h.run pins s σ H _ I q) fun u s' ⟨v, H', I', r, q'⟩ => ⟨v, H', I', r, q' ⟨pins, s', I'⟩⟩⟩
theorem _root_.L2.PA.know {X : Cx} {e : List Expr} {t : TA} (h : PA X e t) : PA X e (fun σ H Q => t σ H fun v H' => (∃ pins s, Inv X pins σ H' s) → Q v H') :=
  ⟨fun pos pins s σ H Q I q => thn (h.run pos pins s σ H _ I q) fun u s' ⟨v, H', I', r, q'⟩ => ⟨v, H', I', r, q' ⟨pins, s', I'⟩⟩⟩
theorem ItRel.go {K : Frag} {mg : Str → Option Value} {J : It} {ds : List D} {B B' : Addr → Prop} {φ φ' : List Addr} {H H' : Hp} (g : Go φ B H φ' B' H') (h : ItRel K mg J ds B φ H) : ItRel K mg J ds B' φ' H' := fun B2 φ2 H2 st2 g2 => h B2 φ2 H2 st2 (g.trans g2)
theorem rs_for {tg it : Expr} {ci : Act (List D)} {g : Tg} {vs : List Nat} {cb : Sx} (hp : ∀ W, Takes X W → PassesOwn (model X.prog X.w) X.A X.env X.xe) (hc : X.calm = true) (hi : RI X tg it ci) (hg : RG X tg g) (hb : RSs X ss cb)
    (hs : ∀ x, foldedSetIterable it X.env x = pure x := by intro _; rfl) : RSt X (.For tg it ss [] pos) (sFor ci g vs cb) := fun W tk => (ps_for (hp W tk) hc (hi W tk) (hg W tk) (hb W tk) hs).imp fun D σ H ⟨B, φ, e, st, r, st', re, rs, hc, fin⟩ => by
  unfold sFor at hc
  cases ha : ci e st with
  | none => rw [ha] at hc; cases hc
  | some p =>
    obtain ⟨q, st1⟩ := p
    rw [ha] at hc
    cases q with
    | error x =>
      cases hc
      exact ⟨B, φ, e, st, _, _, re, rs, ha, fun cls dx B' φ' H' g rs' rx => fin cls dx σ B' φ' H' g rs' (REnv.go rs g re) rx⟩
    | ok ds =>
      refine ⟨B, φ, e, st, _, _, re, rs, ha, fun J B1 φ1 H1 g1 rs1 it1 _ => ?_⟩
      dsimp only at hc
      refine ⟨fun i m σ' H' => m = ds.length - i ∧ i ≤ ds.length ∧ ∃ B' φ' e' st2, Go φ B H φ' B' H' ∧ Go φ1 B1 H1 φ' B' H' ∧ RS X.K X.mg B' φ' H' st2 ∧ REnv X.K B' φ' H' σ' e' ∧ forL g vs cb (ds.drop i) e' st2 = some (r, st'),
        ⟨ds.length, by simp, Nat.zero_le _, B1, φ1, Sw.wipe e vs, st1, g1, .refl rs1, rs1, (REnv.go rs g1 re).wipe vs, hc⟩, ?_⟩
      rintro i m σ' H' ⟨rfl, hi', B', φ', e', st2, g0, g2, rs2, re2, hf⟩
      obtain ⟨hstop, hgo⟩ := it1 B' φ' H' st2 g2 rs2 i
      by_cases hlt : i < ds.length
      · have hd : ds[i]? = some ds[i] := List.getElem?_eq_getElem hlt
        rw [List.drop_eq_getElem_cons hlt] at hf
        unfold forL at hf
        obtain ⟨go, yl⟩ := hgo _ hd
        refine .inr ⟨go, fun σ3 H3 => ∃ B3 φ3 e3 st3, Go φ B H φ3 B3 H3 ∧ Go φ1 B1 H1 φ3 B3 H3 ∧ RS X.K X.mg B3 φ3 H3 st3 ∧ REnv X.K B3 φ3 H3 σ3 e3 ∧ forL g vs cb (ds.drop (i + 1)) (Sw.wipe e3 vs) st3 = some (r, st'), ?_, fun x H'' hy => ?_⟩
        · rintro σ3 H3 ⟨B3, φ3, e3, st3, g3, g4, rs3, re3, hf3⟩
          exact ⟨ds.length - (i + 1), by omega, rfl, hlt, B3, φ3, _, st3, g3, g4, rs3, re3.wipe vs, hf3⟩
        · obtain ⟨B'', gy, rsy, rdy⟩ := yl x H'' hy
          cases hg1 : g ds[i] e' st2 with
          | none => rw [hg1] at hf; cases hf
          | some p1 =>
            obtain ⟨e4, st4⟩ := p1
            rw [hg1] at hf
            refine ⟨B'', φ', e', st2, ds[i], e4, st4, REnv.go rs2 gy re2, rsy, rdy, hg1, fun σ5 B5 φ5 H5 g5 rs5 re5 => ?_⟩
            dsimp only at hf
            cases hb1 : cb e4 st4 with
            | none => rw [hb1] at hf; cases hf
            | some p2 =>
              obtain ⟨q2, st6⟩ := p2
              rw [hb1] at hf
              have gg := (g0.trans gy).trans g5
              have gg1 := (g2.trans gy).trans g5
              refine ⟨B5, φ5, e4, st4, q2, st6, re5, rs5, hb1, ?_⟩
              cases q2 with
              | nx e7 => exact fun σ7 B7 φ7 H7 g7 rs7 re7 => ⟨B7, φ7, e7, st6, gg.trans g7, gg1.trans g7, rs7, re7, hf⟩
              | ct e7 => exact fun σ7 B7 φ7 H7 g7 rs7 re7 => ⟨B7, φ7, e7, st6, gg.trans g7, gg1.trans g7, rs7, re7, hf⟩
              | bk e7 =>
                cases hf
                exact fun σ7 B7 φ7 H7 g7 rs7 re7 => fin σ7 B7 φ7 H7 (gg.trans g7) rs7 (re7.wipe vs)
              | rt d7 =>
                cases hf
                exact fun v7 B7 φ7 H7 g7 rs7 rd7 => fin v7 B7 φ7 H7 (gg.trans g7) rs7 rd7
              | ex x7 e7 =>
                cases hf
                exact fun c7 d7 σ7 B7 φ7 H7 g7 rs7 re7 rx7 => fin c7 d7 σ7 B7 φ7 H7 (gg.trans g7) rs7 re7 rx7
      · have e0 : ds.drop i = [] := List.drop_eq_nil_of_le (by omega)
        rw [e0] at hf
        unfold forL sSkip at hf
        cases hf
        exact .inl ⟨hstop (by omega), fin σ' B' φ' H' g0 rs2 re2⟩
theorem rs_while {tc : Tx} {vs : List Nat} {cb : Sx} (hp : ∀ W, Takes X W → PassesOwn (model X.prog X.w) X.A X.env X.xe) (hc : RT X c tc) (hb : RSs X ss cb) : RSt X (.While c ss [] pos) (sWhile tc vs cb) := fun W tk => (ps_while (hp W tk) (hc W tk) (hb W tk)).imp fun D σ H ⟨B, φ, e, st, r, st', re, rs, hw, fin⟩ => by
  obtain ⟨n, hw⟩ := sWhile_iff.mp hw
  refine ⟨fun m σ' H' => ∃ B' φ' e' st2, Go φ B H φ' B' H' ∧ RS X.K X.mg B' φ' H' st2 ∧ REnv X.K B' φ' H' σ' e' ∧ whileN tc vs cb m e' st2 = some (r, st'), ⟨n, B, φ, _, st, .refl rs, rs, re.wipe vs, hw⟩, ?_⟩
  rintro m σ' H' ⟨B', φ', e', st2, g0, rs2, re2, hw⟩
  cases m with
  | zero => unfold whileN at hw; cases hw
  | succ m =>
    unfold whileN at hw
    cases hc' : tc e' st2 with
    | none => rw [hc'] at hw; cases hw
    | some p =>
      obtain ⟨q, st3⟩ := p
      rw [hc'] at hw
      refine ⟨B', φ', e', st2, q, st3, re2, rs2, hc', ?_⟩
      cases q with
      | error x =>
        cases hw
        exact fun cls dx B3 φ3 H3 g3 rs3 rx3 => fin cls dx σ' B3 φ3 H3 (g0.trans g3) rs3 (REnv.go rs2 g3 re2) rx3
      | ok b =>
        intro v B3 φ3 H3 g3 rs3 hv
        have hv : v = b := hv
        subst hv
        cases v with
        | false =>
          cases hw
          exact iteF (fin σ' B3 φ3 H3 (g0.trans g3) rs3 (REnv.go rs2 g3 re2))
        | true =>
          refine iteT ⟨fun σ4 H4 => ∃ B4 φ4 e4 st4, Go φ B H φ4 B4 H4 ∧ RS X.K X.mg B4 φ4 H4 st4 ∧ REnv X.K B4 φ4 H4 σ4 e4 ∧ whileN tc vs cb m (Sw.wipe e4 vs) st4 = some (r, st'), ?_, ?_⟩
          · rintro σ4 H4 ⟨B4, φ4, e4, st4, g4, rs4, re4, hw4⟩
            exact ⟨m, Nat.lt_succ_self m, B4, φ4, _, st4, g4, rs4, re4.wipe vs, hw4⟩
          · dsimp only at hw
            cases hb1 : cb e' st3 with
            | none => rw [hb1] at hw; cases hw
            | some p2 =>
              obtain ⟨q2, st6⟩ := p2
              rw [hb1] at hw
              have gg := g0.trans g3
              refine ⟨B3, φ3, e', st3, q2, st6, REnv.go rs2 g3 re2, rs3, hb1, ?_⟩
              cases q2 with
              | nx e7 => exact fun σ7 B7 φ7 H7 g7 rs7 re7 => ⟨B7, φ7, e7, st6, gg.trans g7, rs7, re7, hw⟩
              | ct e7 => exact fun σ7 B7 φ7 H7 g7 rs7 re7 => ⟨B7, φ7, e7, st6, gg.trans g7, rs7, re7, hw⟩
              | bk e7 =>
                cases hw
                exact fun σ7 B7 φ7 H7 g7 rs7 re7 => fin σ7 B7 φ7 H7 (gg.trans g7) rs7 (re7.wipe vs)
              | rt d7 =>
                cases hw
                exact fun v7 B7 φ7 H7 g7 rs7 rd7 => fin v7 B7 φ7 H7 (gg.trans g7) rs7 rd7
              | ex x7 e7 =>
                cases hw
                exact fun c7 d7 σ7 B7 φ7 H7 g7 rs7 re7 rx7 => fin c7 d7 σ7 B7 φ7 H7 (gg.trans g7) rs7 re7 rx7
end
end Sw

/-! Rules5: what is walked; comprehensions. -/
set_option Elab.async false
set_option linter.all false
set_option maxRecDepth 100000
set_option maxHeartbeats 4000000
namespace Sw
open PySem PySem.Spec PyProof.Rows L2
theorem _root_.L2.PI.or {X : Cx} {tg e : Expr} {t t' : TI} (h : PI X tg e t) (h' : PI X tg e t') : PI X tg e (fun σ H Q => t σ H Q ∨ t' σ H Q) := ⟨fun pins s σ H R I q => by
  rcases q with q | q
  · exact h.run pins s σ H R I q
  · exact h'.run pins s σ H R I q⟩
section
variable {K : Frag} {mg : Str → Option Value} {B B' : Addr → Prop} {φ φ' : List Addr} {H H' : Hp} {st st' : Store} {a b : Addr} {vs ws : List V} {ds es : List D}
/-- a value that the walk makes anew: a pair -/
theorem yld_pair (rs : RS K mg B φ H st) {x y : V} {d e : D} {T : Addr} (r1 : RD K B φ H x d) (r2 : RD K B φ H y e) (hT : H T = none) :
    ∃ B'', Go φ B H φ B'' (upd H T (.tup [x, y])) ∧ RS K mg B'' φ (upd H T (.tup [x, y])) st ∧ RD K B'' φ (upd H T (.tup [x, y])) (.ref T) (.tup [d, e]) := by
  obtain ⟨rs', g⟩ := rs.newThing (o := .tup [x, y]) hT
  exact ⟨B, g, rs', .tup (SqT.of upd_same) (.cons (RD.go rs g r1) (.cons (RD.go rs g r2) .nil))⟩
theorem it_tup (rs : RS K mg B φ H st) (sq : SqT K H a vs) (q : RDs K B φ H vs ds) : ItRel K mg (Itt K a) ds B φ H := fun B' φ' H' st' g rs' i => by
  have sq' : SqT K H' a vs := sq.imp (g.tupOn rs _ _) id
  refine ⟨fun hi => ⟨vs, sq', by rw [q.length]; exact hi⟩, fun d hd => ?_⟩
  obtain ⟨v, hv, rv⟩ := q.get hd
  refine ⟨⟨vs, v, sq', hv⟩, fun x H'' hy => ?_⟩
  obtain ⟨rfl, hx⟩ := hy
  have := (hx vs sq').symm.trans hv
  cases this
  exact ⟨B', .refl rs', rs', RD.go rs g rv⟩
theorem it_lst (rs : RS K mg B φ H st) (sq : H a = some (.lst vs)) (nb : ¬ B a) (q : RDs K B φ H vs ds) : ItRel K mg (Itl K a) ds B φ H := fun B' φ' H' st' g rs' i => by
  have sq' : SqL K H' a vs := SqL.of (g.lstOn rs _ _ sq nb).1
  refine ⟨fun hi => ⟨vs, sq', by rw [q.length]; exact hi⟩, fun d hd => ?_⟩
  obtain ⟨v, hv, rv⟩ := q.get hd
  refine ⟨⟨vs, v, sq', hv⟩, fun x H'' hy => ?_⟩
  obtain ⟨rfl, hx⟩ := hy
  have := (hx vs sq').symm.trans hv
  cases this
  exact ⟨B', .refl rs', rs', RD.go rs g rv⟩
theorem it_str {x : Str} (ok : strOk x) : ItRel K mg (Its x) (x.cps.toList.map fun c => .str ⟨#[c]⟩) B φ H := fun B' φ' H' st' g rs' i => by
  refine ⟨fun hi => by show x.cps.size ≤ i; simpa using hi, fun d hd => ?_⟩
  rw [List.getElem?_map] at hd
  cases hc : x.cps.toList[i]? with
  | none => rw [hc] at hd; cases hd
  | some c =>
    rw [hc] at hd
    cases hd
    have hi : i < x.cps.size := by simpa using (List.getElem?_eq_some_iff.mp hc).1
    refine ⟨hi, fun v H'' hy => ?_⟩
    obtain ⟨rfl, c', hc', rfl⟩ := hy
    have : c' = c := by
      rw [Array.getElem?_toList] at hc
      exact Option.some.inj (hc'.symm.trans hc)
    subst this
    refine ⟨B', .refl rs', rs', .str _ (strOk_sub ok (l := [c']) (fun y hy => ?_) (by show 1 ≤ x.cps.size; omega))⟩
    have : y = c' := by simpa using hy
    subst this
    exact List.mem_of_getElem? hc
theorem it_range {lo : Int} {n : Nat} : ItRel K mg (Itr lo n) ((List.range n).map fun (k : Nat) => D.int (lo + (k : Int))) B φ H := fun B' φ' H' st' g rs' i => by
  refine ⟨fun hi => by show n ≤ i; simpa using hi, fun d hd => ?_⟩
  rw [List.getElem?_map] at hd
  by_cases hi : i < n
  · rw [List.getElem?_range hi] at hd
    cases hd
    refine ⟨hi, fun v H'' hy => ?_⟩
    obtain ⟨rfl, rfl⟩ := hy
    exact ⟨B', .refl rs', rs', .int _⟩
  · rw [List.getElem?_eq_none (by simp; omega)] at hd; cases hd
theorem zipL_get {xs ys : List D} {i : Nat} {d : D} (h : (zipL xs ys)[i]? = some d) : ∃ x y, xs[i]? = some x ∧ ys[i]? = some y ∧ d = .tup [x, y] := by
  unfold zipL at h
  rw [List.getElem?_map] at h
  cases hz : (xs.zip ys)[i]? with
  | none => rw [hz] at h; cases h
  | some p =>
    rw [hz] at h
    cases h
    rw [List.getElem?_zip_eq_some] at hz
    exact ⟨_, _, hz.1, hz.2, rfl⟩
theorem zipL_len (xs ys : List D) : (zipL xs ys).length = min xs.length ys.length := by simp [zipL]
theorem it_zipL {xs ys : List D} (rs : RS K mg B φ H st) (sq : H a = some (.lst vs)) (nb : ¬ B a) (q : RDs K B φ H vs xs) (sq2 : H b = some (.lst ws)) (nb2 : ¬ B b) (q2 : RDs K B φ H ws ys) : ItRel K mg (Itz K a b) (zipL xs ys) B φ H := fun B' φ' H' st' g rs' i => by
  have s1 : SqL K H' a vs := SqL.of (g.lstOn rs _ _ sq nb).1
  have s2 : SqL K H' b ws := SqL.of (g.lstOn rs _ _ sq2 nb2).1
  refine ⟨fun hi => ⟨vs, ws, s1, s2, ?_⟩, fun d hd => ?_⟩
  · rw [zipL_len, ← q.length, ← q2.length] at hi; omega
  · obtain ⟨x, y, hx, hy, rfl⟩ := zipL_get hd
    obtain ⟨v, hv, rv⟩ := q.get hx
    obtain ⟨w, hw, rw_⟩ := q2.get hy
    refine ⟨⟨vs, ws, v, w, s1, s2, hv, hw⟩, fun z H'' hz => ?_⟩
    obtain ⟨T, x', y', rfl, hT, rfl, h1, h2⟩ := hz
    have e1 := (h1 vs s1).symm.trans hv
    have e2 := (h2 ws s2).symm.trans hw
    cases e1; cases e2
    exact yld_pair rs' (RD.go rs g rv) (RD.go rs g rw_) hT
theorem it_zipT {xs ys : List D} (rs : RS K mg B φ H st) (sq : SqT K H a vs) (q : RDs K B φ H vs xs) (sq2 : SqT K H b ws) (q2 : RDs K B φ H ws ys) : ItRel K mg (RZ.ItzT K a b) (zipL xs ys) B φ H := fun B' φ' H' st' g rs' i => by
  have s1 : SqT K H' a vs := sq.imp (g.tupOn rs _ _) id
  have s2 : SqT K H' b ws := sq2.imp (g.tupOn rs _ _) id
  refine ⟨fun hi => ⟨vs, ws, s1, s2, ?_⟩, fun d hd => ?_⟩
  · rw [zipL_len, ← q.length, ← q2.length] at hi; omega
  · obtain ⟨x, y, hx, hy, rfl⟩ := zipL_get hd
    obtain ⟨v, hv, rv⟩ := q.get hx
    obtain ⟨w, hw, rw_⟩ := q2.get hy
    refine ⟨⟨vs, ws, v, w, s1, s2, hv, hw⟩, fun z H'' hz => ?_⟩
    obtain ⟨T, x', y', rfl, hT, rfl, h1, h2⟩ := hz
    have e1 := (h1 vs s1).symm.trans hv
    have e2 := (h2 ws s2).symm.trans hw
    cases e1; cases e2
    exact yld_pair rs' (RD.go rs g rv) (RD.go rs g rw_) hT
theorem it_enumL {xs : List D} (rs : RS K mg B φ H st) (sq : H a = some (.lst vs)) (nb : ¬ B a) (q : RDs K B φ H vs xs) : ItRel K mg (Ite K a) (enumL xs) B φ H := fun B' φ' H' st' g rs' i => by
  have s1 : SqL K H' a vs := SqL.of (g.lstOn rs _ _ sq nb).1
  refine ⟨fun hi => ⟨vs, s1, ?_⟩, fun d hd => ?_⟩
  · rw [q.length]; simpa [enumL] using hi
  · unfold enumL at hd
    rw [List.getElem?_mapIdx] at hd
    cases hx : xs[i]? with
    | none => rw [hx] at hd; cases hd
    | some x =>
      rw [hx] at hd
      cases hd
      obtain ⟨v, hv, rv⟩ := q.get hx
      refine ⟨⟨vs, v, s1, hv⟩, fun z H'' hz => ?_⟩
      obtain ⟨T, x', rfl, hT, rfl, h1⟩ := hz
      have e1 := (h1 vs s1).symm.trans hv
      cases e1
      exact yld_pair rs' (.int _) (RD.go rs g rv) hT
end
/-! ### the judgement of a walk -/
section
variable {X : Cx} {a b tg : Expr} {ca cb : Ex} {ta tb : Tx} {pos p : Pos}
theorem TrI.bind {K : Frag} {mg : Str → Option Value} {α β : Type} {R₁ : Rl α β} {c : Act α} {f : α → Act (List D)} {W : WX} {σ : L2.St} {H : Hp} {R : It → Hp → Prop} (h : TrI K mg (c.bind f) W σ H R) :
    Tr K mg R₁ c W σ H fun v H1 => ∃ B φ e st d r st', REnv K B φ H1 σ e ∧ RS K mg B φ H1 st ∧ R₁ B φ H1 v d ∧ f d e st = some (r, st') ∧ match r with
      | .ok ds => ∀ J B' φ' H', Go φ B H1 φ' B' H' → RS K mg B' φ' H' st' → ItRel K mg J ds B' φ' H' → ds.length ≤ sizeLine → R J H'
      | .error x => ∀ cls dx B' φ' H', Go φ B H1 φ' B' H' → RS K mg B' φ' H' st' → RX K mg B' φ' H' x cls dx → W cls dx σ H' := by
  obtain ⟨B, φ, e, st, r, st', re, rs, hc, fin⟩ := h
  unfold Act.bind at hc
  cases ha : c e st with
  | none => rw [ha] at hc; cases hc
  | some p =>
    obtain ⟨q, st1⟩ := p
    rw [ha] at hc
    cases q with
    | error x =>
      simp only [Option.some.injEq, Prod.mk.injEq] at hc
      obtain ⟨rfl, rfl⟩ := hc
      exact ⟨B, φ, e, st, _, _, re, rs, ha, fin⟩
    | ok d =>
      refine ⟨B, φ, e, st, _, _, re, rs, ha, fun v B' φ' H' g rs' rd => ⟨B', φ', e, st1, d, r, st', REnv.go rs g re, rs', rd, hc, ?_⟩⟩
      cases r with
      | ok ds => exact fun J B2 φ2 H2 g2 => fin J B2 φ2 H2 (g.trans g2)
      | error x => exact fun cls dx B2 φ2 H2 g2 => fin cls dx B2 φ2 H2 (g.trans g2)
/-- what a plain walk asks -/
def VI (K : Frag) (mg : Str → Option Value) (g : Store → List D → Option (List D)) : List V → Hp → (It → Hp → Prop) → Prop := fun xs H R =>
  ∃ B φ st ds zs, RS K mg B φ H st ∧ RDs K B φ H xs ds ∧ g st ds = some zs ∧ ∀ J B' φ' H', Go φ B H φ' B' H' → RS K mg B' φ' H' st → ItRel K mg J zs B' φ' H' → R J H'
theorem ri_seq (ha : RE X a ca) : RI X tg a (iSeq ca) := fun W tk => ((pi_tup (ha W tk).know).or ((pi_list (ha W tk).know).or (pi_str (ha W tk).know))).imp fun σ H R ⟨B, φ, e, st, r, st', re, rs, hc, fin⟩ => by
  unfold iSeq Act.bind at hc
  cases ha' : ca e st with
  | none => rw [ha'] at hc; cases hc
  | some p =>
    obtain ⟨q, st1⟩ := p
    rw [ha'] at hc
    cases q with
    | error x =>
      simp only [Option.some.injEq, Prod.mk.injEq] at hc
      obtain ⟨rfl, rfl⟩ := hc
      exact .inl ⟨B, φ, e, st, _, _, re, rs, ha', fin⟩
    | ok d =>
      obtain ⟨ds, rfl, rfl, hd⟩ := look_eq hc
      cases d with
      | tup xs =>
        cases hd
        refine .inl ⟨B, φ, e, st, _, _, re, rs, ha', fun v B' φ' H' g rs' rd => ?_⟩
        cases rd with | tup sq q =>
        rintro ⟨pins, s, I⟩
        obtain ⟨_, _, _, hl⟩ := I.tuple sq
        exact ⟨_, rfl, ⟨_, sq⟩, fin _ _ _ _ g rs' (it_tup rs' sq q) (by rw [← q.length]; exact hl)⟩
      | lst xs =>
        cases hd
        refine .inr (.inl ⟨B, φ, e, st, _, _, re, rs, ha', fun v B' φ' H' g rs' rd => ?_⟩)
        cases rd with | lst sq nb q =>
        rintro ⟨pins, s, I⟩
        obtain ⟨_, _, _, hl⟩ := I.list (SqL.of sq)
        exact ⟨_, rfl, ⟨_, SqL.of sq⟩, fin _ _ _ _ g rs' (it_lst rs' sq nb q) (by rw [← q.length]; exact hl)⟩
      | str x =>
        cases hd
        refine .inr (.inr ⟨B, φ, e, st, _, _, re, rs, ha', fun v B' φ' H' g rs' rd => ?_⟩)
        cases rd with | str _ ok =>
        exact fun _ => ⟨_, rfl, fin _ _ _ _ g rs' (it_str ok) (by rw [List.length_map, Array.length_toList]; exact ok.2)⟩
      | _ => cases hd
theorem args_one {K : Frag} {mg : Str → Option Value} {f : D → Act (List D)} {W : WX} {σ : L2.St} {H : Hp} {R : It → Hp → Prop} {Q : List V → Hp → Prop} (h : TrI K mg (ca.bind f) W σ H R)
    (k : ∀ v H1, (∃ B φ e st d r st', REnv K B φ H1 σ e ∧ RS K mg B φ H1 st ∧ RD K B φ H1 v d ∧ f d e st = some (r, st') ∧ match r with
      | .ok ds => ∀ J B' φ' H', Go φ B H1 φ' B' H' → RS K mg B' φ' H' st' → ItRel K mg J ds B' φ' H' → ds.length ≤ sizeLine → R J H'
      | .error x => ∀ cls dx B' φ' H', Go φ B H1 φ' B' H' → RS K mg B' φ' H' st' → RX K mg B' φ' H' x cls dx → W cls dx σ H') → Q [v] H1) : Tr K mg (RDs K) (aCons ca aNil) W σ H Q := by
  have h1 := TrI.bind (R₁ := RD K) h
  obtain ⟨B, φ, e, st, r, st', re, rs, hc, fin⟩ := h1
  cases r with
  | error x => exact ⟨B, φ, e, st, .error x, st', re, rs, by unfold aCons Act.bind; rw [hc], fin⟩
  | ok d =>
    refine ⟨B, φ, e, st, .ok [d], st', re, rs, by unfold aCons Act.bind aNil Act.pure; rw [hc], fun vs B' φ' H' g rs' rd => ?_⟩
    obtain ⟨v, rfl, rd1⟩ := args1 rd
    exact k v H' (fin v B' φ' H' g rs' rd1)
theorem args_two {K : Frag} {mg : Str → Option Value} {f : D → D → Act (List D)} {W : WX} {σ : L2.St} {H : Hp} {R : It → Hp → Prop} {Q : List V → Hp → Prop} (h : TrI K mg (ca.bind fun d => cb.bind fun d2 => f d d2) W σ H R)
    (k : ∀ v u H1, (∃ B φ e st d d2 r st', REnv K B φ H1 σ e ∧ RS K mg B φ H1 st ∧ RD K B φ H1 v d ∧ RD K B φ H1 u d2 ∧ f d d2 e st = some (r, st') ∧ match r with
      | .ok ds => ∀ J B' φ' H', Go φ B H1 φ' B' H' → RS K mg B' φ' H' st' → ItRel K mg J ds B' φ' H' → ds.length ≤ sizeLine → R J H'
      | .error x => ∀ cls dx B' φ' H', Go φ B H1 φ' B' H' → RS K mg B' φ' H' st' → RX K mg B' φ' H' x cls dx → W cls dx σ H') → Q [v, u] H1) : Tr K mg (RDs K) (aCons ca (aCons cb aNil)) W σ H Q := by
  obtain ⟨B, φ, e, st, r, st', re, rs, hc, fin⟩ := h
  unfold Act.bind at hc
  cases ha' : ca e st with
  | none => rw [ha'] at hc; cases hc
  | some p =>
    obtain ⟨q, st1⟩ := p
    rw [ha'] at hc
    cases q with
    | error x =>
      simp only [Option.some.injEq, Prod.mk.injEq] at hc
      obtain ⟨rfl, rfl⟩ := hc
      exact ⟨B, φ, e, st, .error x, _, re, rs, by unfold aCons Act.bind; rw [ha'], fin⟩
    | ok d =>
      dsimp only at hc
      cases hb' : cb e st1 with
      | none => rw [hb'] at hc; cases hc
      | some p2 =>
        obtain ⟨q2, st2⟩ := p2
        rw [hb'] at hc
        cases q2 with
        | error x =>
          simp only [Option.some.injEq, Prod.mk.injEq] at hc
          obtain ⟨rfl, rfl⟩ := hc
          exact ⟨B, φ, e, st, .error x, _, re, rs, by unfold aCons Act.bind; rw [ha']; dsimp only; rw [hb'], fin⟩
        | ok d2 =>
          refine ⟨B, φ, e, st, .ok [d, d2], st2, re, rs, by unfold aCons Act.bind aNil Act.pure; rw [ha']; dsimp only; rw [hb'], fun v B' φ' H' g rs' rd => ?_⟩
          obtain ⟨v, u, rfl, rd, rd2⟩ := args2 rd
          refine k v u H' ⟨B', φ', e, st2, d, d2, r, st', REnv.go rs g re, rs', rd, rd2, hc, ?_⟩
          cases r with
          | ok ds => exact fun J B2 φ2 H2 g2 => fin J B2 φ2 H2 (g.trans g2)
          | error x => exact fun cls dx B2 φ2 H2 g2 => fin cls dx B2 φ2 H2 (g.trans g2)
theorem ri_range1 (hg : Gl X "range") (hm : X.mg "range" = none) (ha : RA X [a] (aCons ca aNil)) (hs : starEach [a] X.env = [(false, eval a X.env)] := by rfl) : RI X tg (.Call (.Name "range" p) [a] [] pos) (iRange1 ca) := fun W tk =>
  (pi_range1 hg hm (ha W tk) hs).imp fun σ H R h => args_one h fun v H1 ⟨B, φ, e, st, d, r, st', re, rs, rd, hc, fin⟩ => by
    obtain ⟨ds, rfl, rfl, hd⟩ := look_eq hc
    cases d with
    | int j =>
      cases rd
      dsimp only at hd
      split at hd
      · rename_i hj
        cases hd
        have hz : (sizeLine : Int) = 16777216 := by decide
        refine ⟨j, rfl, hj.2, by omega, fin _ _ _ _ (.refl rs) rs ?_ (by unfold rangeL; rw [List.length_map, List.length_range]; omega)⟩
        have := it_range (K := X.K) (mg := X.mg) (lo := 0) (n := j.toNat) (B := B) (φ := φ) (H := H1)
        unfold rangeL
        rw [Int.sub_zero]
        exact this
      · cases hd
    | _ => cases hd
theorem ri_range2 (hg : Gl X "range") (hm : X.mg "range" = none) (ha : RA X [a, b] (aCons ca (aCons cb aNil))) (hs : starEach [a, b] X.env = [(false, eval a X.env), (false, eval b X.env)] := by rfl) (hs2 : starEach [b] X.env = [(false, eval b X.env)] := by rfl) :
    RI X tg (.Call (.Name "range" p) [a, b] [] pos) (iRange2 ca cb) := fun W tk =>
  (pi_range2 hg hm (ha W tk) hs hs2).imp fun σ H R h => args_two h fun v u H1 ⟨B, φ, e, st, d, d2, r, st', re, rs, rd, rd2, hc, fin⟩ => by
    obtain ⟨ds, rfl, rfl, hd⟩ := look_eq hc
    cases d <;> try (cases hd; done)
    cases d2 <;> try (cases hd; done)
    cases rd; cases rd2
    dsimp only at hd
    split at hd
    · rename_i hj
      cases hd
      exact ⟨_, _, rfl, ⟨hj.1, hj.2.1, hj.2.2.1, hj.2.2.2.1⟩, fin _ _ _ _ (.refl rs) rs it_range (by unfold rangeL; rw [List.length_map, List.length_range]; omega)⟩
    · cases hd
/-- enumerate of a list -/
theorem ri_enumL {elts : List Expr} {kk : Nat} {tpos : Pos} (hg : Gl X "enumerate") (hm : X.mg "enumerate" = none) (ha : RA X [a] (aCons ca aNil)) (hs : starEach [a] X.env = [(false, eval a X.env)] := by rfl) :
    RI X (.Tuple elts kk tpos) (.Call (.Name "enumerate" p) [a] [] pos) (iEnumL ca) := fun W tk =>
  (pi_enum hg hm (ha W tk).know hs).imp fun σ H R h => args_one h fun v H1 ⟨B, φ, e, st, d, r, st', re, rs, rd, hc, fin⟩ => by
    obtain ⟨ds, rfl, rfl, hd⟩ := look_eq hc
    cases d with
    | lst xs =>
      cases hd
      cases rd with | lst sq nb q =>
      rintro ⟨pins, s, I⟩
      obtain ⟨_, _, _, hl⟩ := I.list (SqL.of sq)
      exact ⟨_, _, rfl, SqL.of sq, fin _ _ _ _ (.refl rs) rs (it_enumL rs sq nb q) (by unfold enumL; rw [List.length_mapIdx, ← q.length]; exact hl)⟩
    | _ => cases hd
/-- zip of two lists, of two tuples -/
theorem ri_zip {elts : List Expr} {kk : Nat} {tpos : Pos} (hg : Gl X "zip") (hm : X.mg "zip" = none) (ha : RA X [a, b] (aCons ca (aCons cb aNil)))
    (hs : starEach [a, b] X.env = (false, eval a X.env) :: starEach [b] X.env := by rfl) (hpl : (backTo pos (starEach [b] X.env)).any (·.1) = false := by rfl) :
    RI X (.Tuple elts kk tpos) (.Call (.Name "zip" p) [a, b] [] pos) (iZip2 ca cb) := fun W tk =>
  (RZ.pi_zipA hg hm (ha W tk).know hs hpl).imp fun σ H R h => args_two h fun v u H1 ⟨B, φ, e, st, d, d2, r, st', re, rs, rd, rd2, hc, fin⟩ => by
    obtain ⟨ds, rfl, rfl, hd⟩ := look_eq hc
    cases d <;> try (cases hd; done)
    all_goals cases d2 <;> try (cases hd; done)
    · cases hd
      cases rd with | tup s1 q1 => cases rd2 with | tup s2 q2 =>
      rintro ⟨pins, s, I⟩
      obtain ⟨_, _, _, hl⟩ := I.tuple s1
      exact ⟨_, _, _, _, rfl, .inr ⟨s1, s2, fin _ _ _ _ (.refl rs) rs (it_zipT rs s1 q1 s2 q2) (by rw [zipL_len, ← q1.length]; omega)⟩⟩
    · cases hd
      cases rd with | lst s1 n1 q1 => cases rd2 with | lst s2 n2 q2 =>
      rintro ⟨pins, s, I⟩
      obtain ⟨_, _, _, hl⟩ := I.list (SqL.of s1)
      exact ⟨_, _, _, _, rfl, .inl ⟨SqL.of s1, SqL.of s2, fin _ _ _ _ (.refl rs) rs (it_zipL rs s1 n1 q1 s2 n2 q2) (by rw [zipL_len, ← q1.length]; omega)⟩⟩
/-! ### list comprehensions -/
/-- the acc list is written: it is no cell -/
theorem RS.own {K : Frag} {mg : Str → Option Value} {B : Addr → Prop} {φ : List Addr} {H : Hp} {st : Store} (rs : RS K mg B φ H st) {p : Addr} {o o' : HO} (hp : H p = some o) (hb : B p) (hφ : p ∉ φ) (ht : ∀ xs, ¬ Rd H p (.tup xs)) (hz : ∀ q u, ¬ H p = some (.frz q u)) :
    RS K mg B φ (upd H p o') st ∧ ∀ {v d}, RD K B φ H v d → RD K B φ (upd H p o') v d := by
  have f : ∀ {v d}, RD K B φ H v d → RD K B φ (upd H p o') v d := fun r => RD.upd ht (.inr hb) hz r
  refine ⟨⟨rs.len, rs.nd, rs.sub, fun a ha e => ?_, fun n c e => ?_⟩, f⟩
  · by_cases z : a = p
    · subst z; rw [upd_same] at e; cases e
    · rw [upd_ne z] at e; exact rs.there a ha e
  · obtain ⟨a, e1, rc⟩ := rs.at_ n c e
    have : a ≠ p := fun z => hφ (by rw [← z]; exact List.mem_of_getElem? e1)
    exact ⟨a, e1, rc.on f (RDs.map f) (upd_ne this)⟩
end
/-- a target of a comprehension: it stores its own names alone -/
def TrGw (K : Frag) (mg : Str → Option Value) (g : Tg) (vs : List Nat) : TG := fun v σ H Q =>
  ∃ B φ e st d e' st', REnv K B φ H σ e ∧ RS K mg B φ H st ∧ RD K B φ H v d ∧ g d e st = some (e', st') ∧
    ∀ σ' B' φ' H', L2.wipe σ' vs = L2.wipe σ vs → Go φ B H φ' B' H' → RS K mg B' φ' H' st' → REnv K B' φ' H' σ' e' → Q σ' H'
def TrGws (K : Frag) (mg : Str → Option Value) (g : List Tg) (vs : List Nat) : TGs := fun v σ H Q =>
  ∃ B φ e st d e' st', REnv K B φ H σ e ∧ RS K mg B φ H st ∧ RDs K B φ H v d ∧ gTups g d e st = some (e', st') ∧
    ∀ σ' B' φ' H', L2.wipe σ' vs = L2.wipe σ vs → Go φ B H φ' B' H' → RS K mg B' φ' H' st' → REnv K B' φ' H' σ' e' → Q σ' H'
def RGw (X : Cx) (vs : List Nat) (tg : Expr) (g : Tg) : Prop := PG X tg (TrGw X.K X.mg g vs)
def RGws (X : Cx) (vs : List Nat) (tg : List Expr) (g : List Tg) : Prop := PGs X tg (TrGws X.K X.mg g vs)
theorem wipe_get (σ : L2.St) : ∀ (vs : List Nat) (j : Nat), (L2.wipe σ vs)[j]? = if j ∈ vs then (if j < σ.length then some none else none) else σ[j]?
  | [], j => by simp [L2.wipe]
  | v :: vs, j => by
    unfold L2.wipe
    by_cases h : j = v
    · subst h
      by_cases hl : j < σ.length
      · rw [List.getElem?_set_self (by rw [L2.wipe_length]; exact hl)]; simp [hl]
      · rw [List.getElem?_eq_none (by rw [List.length_set, L2.wipe_length]; omega)]; simp [hl]
    · rw [List.getElem?_set_ne (Ne.symm h), wipe_get σ vs j]
      simp [h]
theorem wipe_set {σ : L2.St} {i : Nat} {v : Option V} {vs : List Nat} (h : i ∈ vs) : L2.wipe (σ.set i v) vs = L2.wipe σ vs := by
  apply List.ext_getElem?
  intro j
  rw [wipe_get, wipe_get, List.length_set]
  by_cases hj : j ∈ vs
  · simp [hj]
  · rw [if_neg hj, if_neg hj, List.getElem?_set_ne (fun e => hj (by rw [← e]; exact h))]
theorem wipe_idem (σ : L2.St) (vs : List Nat) : L2.wipe (L2.wipe σ vs) vs = L2.wipe σ vs := by
  apply List.ext_getElem?
  intro j
  rw [wipe_get, wipe_get, L2.wipe_length]
  by_cases hj : j ∈ vs <;> simp [hj]
section
variable {X : Cx} {a b tg it el : Expr} {ca cb cy : Ex} {ct : Tx} {pos p : Pos} {es : List Expr} {vs : List Nat}
theorem rgw_name {i : Nat} {x : Str} (hm : i ∈ vs) (hN : X.N.Nodup) (hi : X.N[i]? = some x) (hx : Loc X.env.scope x) (hf : X.fn x = true ∨ X.env.scope.names.lookup x = some .local := by first | exact .inl rfl | exact .inr rfl | assumption) : RGw X vs (.Name x pos) (gName i) :=
  (pg_name hN hi hx hf).imp fun v σ H Q ⟨B, φ, e, st, d, e', st', re, rs, rd, hc, fin⟩ => by
    unfold Sw.gName at hc
    cases hc
    exact fin _ _ _ _ (wipe_set hm) (.refl rs) rs (re.set rd)
theorem rgws_nil : RGws X vs [] [] := pgs_nil.imp fun v σ H Q ⟨B, φ, e, st, d, e', st', re, rs, rd, hc, fin⟩ => by
  cases d with
  | nil =>
    cases rd
    unfold gTups at hc
    cases hc
    exact ⟨rfl, fin _ _ _ _ rfl (.refl rs) rs re⟩
  | cons _ _ => unfold gTups at hc; cases hc
theorem rgws_cons {g : Tg} {gs : List Tg} (h1 : RGw X vs a g) (h2 : RGws X vs es gs) (hs : (assignEach (a :: es) X.env).map (·.2) = assign a X.env :: (assignEach es X.env).map (·.2) := by rfl) : RGws X vs (a :: es) (g :: gs) :=
  (pgs_cons h1 h2 hs).imp fun v σ H Q ⟨B, φ, e, st, d, e', st', re, rs, rd, hc, fin⟩ => by
    cases d with
    | nil => unfold gTups at hc; cases hc
    | cons d ds =>
      cases rd with | cons r t =>
      unfold gTups at hc
      split at hc
      · rename_i e1 st1 hg
        exact ⟨_, _, rfl, B, φ, e, st, d, e1, st1, re, rs, r, hg, fun σ' B' φ' H' hw g rs' re' => ⟨B', φ', e1, st1, ds, e', st', re', rs', RDs.go rs g t, hc, fun σ2 B2 φ2 H2 hw2 g2 => fin σ2 B2 φ2 H2 (hw2.trans hw) (g.trans g2)⟩⟩
      · cases hc
theorem rgw_tup {k : Nat} {gs : List Tg} (hc : X.calm = true) (h : RGws X vs es gs) (hn : (assignEach es X.env).length = gs.length := by rfl) (hst : (assignEach es X.env).findIdx? (·.1) = none := by rfl) : RGw X vs (.Tuple es k pos) (gTup gs) :=
  ((pg_tup hc h hn hst).or (pg_unl hc h hn hst)).imp fun v σ H Q ⟨B, φ, e, st, d, e', st', re, rs, rd, hc, fin⟩ => by
    unfold Sw.gTup at hc
    cases d with
    | tup ds =>
      cases rd with | tup sq q =>
      exact .inl ⟨_, _, rfl, sq, by rw [q.length]; exact gTups_len hc, B, φ, e, st, ds, e', st', re, rs, q, hc, fin⟩
    | lst ds =>
      cases rd with | lst sq nb q =>
      exact .inr ⟨_, _, rfl, SqL.of sq, by rw [q.length]; exact gTups_len hc, B, φ, e, st, ds, e', st', re, rs, q, hc, fin⟩
    | _ => cases hc
/-- the tests of a clause -/
def RTs (X : Cx) (es : List Expr) (c : Tx) : Prop := ∀ W, Takes X W → PTs X es (Tr X.K X.mg rB c W)
theorem _root_.L2.PTs.imp {X : Cx} {e : List Expr} {t t' : TT} (h : PTs X e t) (f : ∀ σ H Q, t' σ H Q → t σ H Q) : PTs X e t' := ⟨fun pins s σ H Q I q => h.run pins s σ H Q I (f σ H Q q)⟩
theorem rts_nil : RTs X [] Sw.tYes := fun W tk => pts_nil.imp fun σ H Q ⟨B, φ, e, st, r, st', re, rs, hc, fin⟩ => by
  unfold Sw.tYes at hc
  cases hc
  exact fin true _ _ _ (.refl rs) rs rfl
theorem rts_one (h : RT X a ct) : RTs X [a] ct := fun W tk => pts_one (h W tk)
theorem RD.less {K : Frag} {B B' : Addr → Prop} {φ : List Addr} {H : Hp} (hb : ∀ a, B' a → B a) {v : V} {d : D} (r : RD K B φ H v d) : RD K B' φ H v d :=
  RD.on (fun _ _ h => h) (fun _ _ h n => ⟨h, fun q => n (hb _ q)⟩) (fun _ _ _ h => h) (fun _ _ h => h) r
theorem lst_notRd {H : Hp} {p : Addr} {acc : List V} (h : H p = some (.lst acc)) : (∀ xs, ¬ Rd H p (.tup xs)) ∧ ∀ q u, ¬ H p = some (.frz q u) := by
  refine ⟨fun xs z => ?_, fun q u z => ?_⟩
  · rcases z with z | ⟨q, z⟩ <;> (rw [h] at z; cases z)
  · rw [h] at z; cases z
theorem re_lc {g : Tg} {ci : Act (List D)} {scope : Scope} {own : List (Str × Nat)} {ifs : List Expr} (hc : X.calm = true) (hN : X.N.Nodup) (hi : RI X tg it ci) (ok : BlkOk X.N X.env.scope scope own)
    (hg : ∀ (s : Shared) (H : Hp) (C : Addr) (cl : List (Str × Addr)) (fp : List Addr), RGw (X.blk s H scope (compEnvC scope cl C X.env) fp) (own.map (·.2)) tg g)
    (ht : ∀ (s : Shared) (H : Hp) (C : Addr) (cl : List (Str × Addr)) (fp : List Addr), RTs (X.blk s H scope (compEnvC scope cl C X.env) fp) ifs ct)
    (he : ∀ (s : Shared) (H : Hp) (C : Addr) (cl : List (Str × Addr)) (fp : List Addr), RE (X.blk s H scope (compEnvC scope cl C X.env) fp) el cy) (hs : ∀ x, foldedSetIterable it X.env x = pure x := by intro _; rfl) :
    RE X (.ListComp el [⟨tg, it, ifs, 0⟩] scope pos) (eLc ci g (own.map (·.2)) ct cy) := fun W tk =>
  (pe_lc (own := own) (g := TrGw X.K X.mg g (own.map fun y : Str × Nat => y.2)) (tt := Tr X.K X.mg rB ct fun _ _ _ _ => False) (te := Tr X.K X.mg (RD X.K) cy fun _ _ _ _ => False) hc hN (hi W tk) ok (fun s H C cl fp => hg s H C cl fp) (fun s H C cl fp => ht s H C cl fp _ takes0) (fun s H C cl fp => he s H C cl fp _ takes0) hs).imp fun σ H Q ⟨B, φ, e, st, r, st', re, rs, hc', fin⟩ => by
  unfold eLc Act.bind at hc'
  cases ha : ci e st with
  | none => rw [ha] at hc'; cases hc'
  | some pr =>
    obtain ⟨q, st1⟩ := pr
    rw [ha] at hc'
    cases q with
    | error x =>
      simp only [Option.some.injEq, Prod.mk.injEq] at hc'
      obtain ⟨rfl, rfl⟩ := hc'
      exact ⟨B, φ, e, st, _, _, re, rs, ha, fin⟩
    | ok ds =>
      refine ⟨B, φ, e, st, _, _, re, rs, ha, fun J B1 φ1 H1 g1 rs1 it1 hsz p hp => ?_⟩
      dsimp only at hc'
      cases hcl : compL g ct cy ds (Sw.wipe e (own.map (·.2))) st1 with
      | none => rw [hcl] at hc'; cases hc'
      | some pr2 =>
        obtain ⟨ys, st2⟩ := pr2
        rw [hcl] at hc'
        simp only [Option.some.injEq, Prod.mk.injEq] at hc'
        obtain ⟨rfl, rfl⟩ := hc'
        have re1 := (REnv.go rs g1 re).wipe2 (own.map (·.2))
        refine ⟨fun i m H' => m = ds.length - i ∧ i ≤ ds.length ∧ ∃ Bc φc st3 acc accD rest, Go φ1 B1 H1 φc Bc H' ∧ RS X.K X.mg Bc φc H' st3 ∧ Bc p ∧ p ∉ φc ∧ H' p = some (.lst acc) ∧ RDs X.K Bc φc H' acc accD ∧ acc.length ≤ i ∧
            compL g ct cy (ds.drop i) (Sw.wipe e (own.map (·.2))) st3 = some (rest, st2) ∧ ys = accD ++ rest, ⟨ds.length, by simp, Nat.zero_le _, ?_⟩, ?_⟩
        · have npφ : p ∉ φ1 := fun hm => rs1.there p (rs1.sub p hm) hp
          obtain ⟨rs2, g2⟩ := rs1.newThing (o := .lst []) hp
          refine ⟨fun a => B1 a ∨ a = p, φ1, st1, [], [], ys, ⟨rs1.sub, g2.keep, g2.pre, fun _ h => .inl h, fun a h => h.imp id (fun e => by rw [e]; exact hp), g2.inφ⟩, ⟨rs2.len, rs2.nd, fun a h => .inl (rs2.sub a h), fun a h => ?_, fun n c h => ?_⟩, .inr rfl, npφ, upd_same, .nil, Nat.le_refl _, hcl, rfl⟩
          · rcases h with h | h
            · exact rs2.there a h
            · rw [h, upd_same]; intro z; cases z
          · obtain ⟨a, e1, rc⟩ := rs1.at_ n c h
            obtain ⟨o, ho, _⟩ := rc.mut
            have nap : a ≠ p := ne_of_none ho hp
            have f : ∀ {v d}, RD X.K B1 φ1 H1 v d → RD X.K (fun a => B1 a ∨ a = p) φ1 (upd H1 p (.lst [])) v d := fun r => by
              refine RD.on (fun b xs h => ?_) (fun b xs h nb => ?_) (fun b q u h => ?_) (fun _ _ h => h) r
              · exact Rd.go (fun o e => by rw [upd_ne (ne_of_none e hp)]; exact e) h
              · have nbp : b ≠ p := ne_of_none h hp
                exact ⟨by rw [upd_ne nbp]; exact h, fun z => z.elim nb nbp⟩
              · rw [upd_ne (ne_of_none h hp)]; exact h
            exact ⟨a, e1, rc.on f (RDs.map f) (upd_ne nap)⟩
        · rintro i m H' ⟨rfl, hi', Bc, φc, st3, acc, accD, rest, gc, rsc, bp, npφ, hacc, racc, hal, hcl', hys⟩
          obtain ⟨hstop, hgo⟩ := it1 Bc φc H' st3 gc rsc i
          by_cases hlt : i < ds.length
          · have hd : ds[i]? = some ds[i] := List.getElem?_eq_getElem hlt
            obtain ⟨go, yl⟩ := hgo _ hd
            rw [List.drop_eq_getElem_cons hlt] at hcl'
            unfold compL at hcl'
            refine .inr ⟨go, fun H3 => ∃ Bc φc st3 acc accD rest, Go φ1 B1 H1 φc Bc H3 ∧ RS X.K X.mg Bc φc H3 st3 ∧ Bc p ∧ p ∉ φc ∧ H3 p = some (.lst acc) ∧ RDs X.K Bc φc H3 acc accD ∧ acc.length ≤ i + 1 ∧
              compL g ct cy (ds.drop (i + 1)) (Sw.wipe e (own.map (·.2))) st3 = some (rest, st2) ∧ ys = accD ++ rest, ?_, fun x H'' hy => ?_⟩
            · rintro H3 ⟨Bc, φc, st3, acc, accD, rest, gc, rsc, bp, npφ, hacc, racc, hal, hcl', hys⟩
              exact ⟨ds.length - (i + 1), by omega, rfl, hlt, Bc, φc, st3, acc, accD, rest, gc, rsc, bp, npφ, hacc, racc, hal, hcl', hys⟩
            · obtain ⟨B4, g4, rs4, rd4⟩ := yl x H'' hy
              cases hg1 : g ds[i] (Sw.wipe e (own.map (·.2))) st3 with
              | none => rw [hg1] at hcl'; cases hcl'
              | some pr3 =>
                obtain ⟨e5, st5⟩ := pr3
                rw [hg1] at hcl'
                dsimp only at hcl'
                have hne : H1 p = none := hp
                refine ⟨B4, φc, _, st3, ds[i], e5, st5, REnv.go rs4 (.refl rs4) (REnv.go rsc g4 (REnv.go rs1 gc re1)), rs4, rd4, hg1, fun σ6 B6 φ6 H6 hw g6 rs6 re6 => ⟨hw.trans (wipe_idem σ _), ?_⟩⟩
                cases ht1 : ct e5 st5 with
                | none => rw [ht1] at hcl'; cases hcl'
                | some pr4 =>
                  obtain ⟨q7, st7⟩ := pr4
                  rw [ht1] at hcl'
                  cases q7 with
                  | error x7 => cases hcl'
                  | ok k =>
                    refine ⟨B6, φ6, e5, st5, _, st7, re6, rs6, ht1, fun k' B8 φ8 H8 g8 rs8 hk => ?_⟩
                    have hk : k' = k := hk
                    subst hk
                    have gs : Go φc Bc H' φ8 B8 H8 := (g4.trans g6).trans g8
                    have keepP : ∀ {φ9 : List Addr} {B9 : Addr → Prop} {H9 : Hp}, Go φc Bc H' φ9 B9 H9 → H9 p = some (.lst acc) ∧ p ∉ φ9 ∧ B9 p := fun g9 => by
                      refine ⟨g9.keep p _ hacc npφ, fun hm => ?_, g9.mono p bp⟩
                      rcases g9.inφ p hm with z | z
                      · exact npφ z
                      · rw [hacc] at z; cases z
                    cases k' with
                    | false =>
                      refine iteF ?_
                      obtain ⟨a1, a2, a3⟩ := keepP gs
                      exact ⟨B8, φ8, st7, acc, accD, rest, gc.trans gs, rs8, a3, a2, a1, RDs.go rsc gs racc, Nat.le_succ_of_le hal, hcl', hys⟩
                    | true =>
                      refine iteT ?_
                      dsimp only at hcl'
                      cases hy1 : cy e5 st7 with
                      | none => rw [hy1] at hcl'; cases hcl'
                      | some pr5 =>
                        obtain ⟨q9, st9⟩ := pr5
                        rw [hy1] at hcl'
                        cases q9 with
                        | error x9 => cases hcl'
                        | ok y9 =>
                          refine ⟨B8, φ8, e5, st7, _, st9, REnv.go rs6 g8 re6, rs8, hy1, fun v10 B10 φ10 H10 g10 rs10 rd10 => ?_⟩
                          have gt : Go φc Bc H' φ10 B10 H10 := gs.trans g10
                          obtain ⟨a1, a2, a3⟩ := keepP gt
                          refine ⟨acc, a1, ?_, ?_⟩
                          · exact Nat.lt_of_le_of_lt hal (Nat.lt_of_lt_of_le hlt hsz)
                          · dsimp only at hcl'
                            cases hcl2 : compL g ct cy (ds.drop (i + 1)) (Sw.wipe e (own.map (·.2))) st9 with
                            | none => rw [hcl2] at hcl'; cases hcl'
                            | some pr6 =>
                              obtain ⟨zs, st10⟩ := pr6
                              rw [hcl2] at hcl'
                              cases hcl'
                              obtain ⟨n1, n2⟩ := lst_notRd a1
                              obtain ⟨rs11, f11⟩ := rs10.own (o' := .lst (acc ++ [v10])) a1 a3 a2 n1 n2
                              refine ⟨B10, φ10, st9, acc ++ [v10], accD ++ [y9], zs, ?_, rs11, a3, a2, upd_same, RDs.append (RDs.map f11 (RDs.go rsc gt racc)) (.cons (f11 rd10) .nil), by simp; omega, hcl2, by rw [hys]; simp⟩
                              have gg := gc.trans gt
                              exact ⟨gg.sub, fun a o ha hn => by
                                have nap : a ≠ p := ne_of_none ha hp
                                rw [upd_ne nap]; exact gg.keep a o ha hn, gg.pre, gg.mono, gg.fresh, gg.inφ⟩
          · have e0 : ds.drop i = [] := List.drop_eq_nil_of_le (by omega)
            rw [e0] at hcl'
            unfold compL at hcl'
            cases hcl'
            refine .inl ⟨hstop (by omega), ?_⟩
            have npB : ∀ a, B1 a → a ≠ p := fun a ha z => rs1.there a ha (by rw [z]; exact hp)
            have gF : Go φ B H φc (fun a => Bc a ∧ a ≠ p) H' := g1.trans ⟨gc.sub, gc.keep, gc.pre, fun a h => ⟨gc.mono a h, npB a h⟩, fun a h => gc.fresh a h.1, gc.inφ⟩
            have fl : ∀ {v d}, RD X.K Bc φc H' v d → RD X.K (fun a => Bc a ∧ a ≠ p) φc H' v d := fun r => RD.less (fun _ h => h.1) r
            refine fin (.ref p) _ φc H' gF ⟨rsc.len, rsc.nd, fun a h => ⟨rsc.sub a h, fun z => npφ (by rw [← z]; exact h)⟩, fun a h => rsc.there a h.1, fun n c h => ?_⟩ (.lst hacc (fun z => z.2 rfl) ?_)
            · obtain ⟨a, e1, rc⟩ := rsc.at_ n c h
              exact ⟨a, e1, rc.on fl (RDs.map fl) rfl⟩
            · rw [hys, List.append_nil]
              exact RDs.map fl racc
end
end Sw

/-! Rules6: defs and calls. -/
set_option Elab.async false
set_option linter.all false
set_option maxRecDepth 100000
set_option maxHeartbeats 4000000
namespace Sw
open PySem PySem.Spec PyProof.Rows L2
/-- the promise of a def that does what F does -/
def spF (K : Frag) (mg : Str → Option Value) (F : Fn) (n : Nat) : Sp := fun vs H Q E =>
  ∃ B φ ds st r st', vs.length = n ∧ RDs K B φ H vs ds ∧ RS K mg B φ H st ∧ F ds st = some (r, st') ∧ Fin K mg B φ H (RD K) st' Q E r
/-! ### data without cells lie the same wherever cells lie -/
mutual
theorem RD.closed {K : Frag} {B : Addr → Prop} {φ φ2 : List Addr} {H : Hp} : ∀ {n : Nat} {v : V} {d : D}, RD K B φ H v d → okd n d = true → RD K B φ2 H v d
  | _, _, _, .non, _ => .non
  | _, _, _, .bl b, _ => .bl b
  | _, _, _, .int i, _ => .int i
  | _, _, _, .str x h, _ => .str x h
  | 0, _, _, .tup _ _, h => by simp [okd] at h
  | 0, _, _, .lst _ _ _, h => by simp [okd] at h
  | n + 1, _, _, .tup s r, h => by
    simp only [okd] at h
    exact .tup s (RDs.closed (n := n) r h)
  | n + 1, _, _, .lst s nb r, h => by
    simp only [okd] at h
    exact .lst s nb (RDs.closed (n := n) r h)
  | _, _, _, .loc _, h => by simp [okd] at h
  | _, _, _, .scr _, h => by simp [okd] at h
theorem RDs.closed {K : Frag} {B : Addr → Prop} {φ φ2 : List Addr} {H : Hp} : ∀ {n : Nat} {vs : List V} {ds : List D}, RDs K B φ H vs ds → ds.all (okd n) = true → RDs K B φ2 H vs ds
  | _, _, _, .nil, _ => .nil
  | n, _, _, .cons r t, h => by
    simp only [List.all_cons, Bool.and_eq_true] at h
    exact .cons (RD.closed r h.1) (RDs.closed t h.2)
end
section
variable {K : Frag} {mg : Str → Option Value} {B B' : Addr → Prop} {φ φ' φ2 : List Addr} {H H' : Hp} {st st' : Store}
theorem RKv.closed {κ : Type} {kd : κ → D} : ∀ {vs : List (κ × V)} {ds : List (D × D)}, RKv K B φ H kd vs ds → (ds.all fun p => p.1.ok && p.2.ok) = true → RKv K B φ2 H kd vs ds
  | _, _, .nil, _ => .nil
  | _, _, .cons o r t, h => by
    simp only [List.all_cons, Bool.and_eq_true] at h
    exact .cons o (RD.closed r h.1.2) (RKv.closed t (by simpa [List.all_eq_true] using h.2))
theorem RFs.closed : ∀ {vs : List (Str × V)} {ds : List (Str × D)}, RFs K B φ H vs ds → (ds.all fun p => p.2.ok) = true → RFs K B φ2 H vs ds
  | _, _, .nil, _ => .nil
  | _, _, .cons r t, h => by
    simp only [List.all_cons, Bool.and_eq_true] at h
    exact .cons (RD.closed r h.1) (RFs.closed t h.2)
theorem RC.closed {a : Addr} {c : Cell} (h : RC K mg B φ H a c) (ok : c.ok = true) : RC K mg B φ2 H a c := by
  cases c with
  | lst ds => obtain ⟨xs, e, r⟩ := h; exact ⟨xs, e, RDs.closed r ok⟩
  | dct kvs => obtain ⟨ks, e, r⟩ := h; exact ⟨ks, e, r.closed ok⟩
  | dtt kvs => obtain ⟨ks, e, r⟩ := h; exact ⟨ks, e, r.closed ok⟩
  | ins c fs => obtain ⟨C, dx, vs, m, e, r⟩ := h; exact ⟨C, dx, vs, m, e, r.closed ok⟩
theorem RX.closed {x : Exc} {cls : Value} {dx : Option Addr} (h : RX K mg B φ H x cls dx) (ok : x.ok = true) : RX K mg B φ2 H x cls dx := by
  obtain ⟨C, h1, h2, h3⟩ := h
  refine ⟨C, h1, h2, ?_⟩
  rcases h3 with h3 | ⟨d, vs, e1, e2, r⟩
  · exact .inl h3
  · exact .inr ⟨d, vs, e1, e2, r.closed ok⟩
theorem prefix_take (p : φ <+: φ') : φ'.take φ.length = φ := by
  obtain ⟨t, rfl⟩ := p
  simp
/-- the cells made since are let go -/
theorem RS.cutOff (rs0 : RS K mg B φ H st) (g : Go φ B H φ' B' H') (rs : RS K mg B' φ' H' st') (ok : (st'.take st.length).all Cell.ok = true) : RS K mg B' φ H' (st'.take st.length) ∧ Go φ B H φ B' H' := by
  have hl : φ.length = st.length := rs0.len
  have hp := g.pre.length_le
  refine ⟨⟨by rw [List.length_take, ← rs.len]; omega, rs0.nd, fun a h => g.mono a (rs0.sub a h), rs.there, fun n c e => ?_⟩, ⟨g.sub, g.keep, List.prefix_refl _, g.mono, g.fresh, fun a h => .inl h⟩⟩
  have hn : n < st.length := by
    have := (List.getElem?_eq_some_iff.mp e).1
    rw [List.length_take] at this
    omega
  rw [List.getElem?_take_of_lt hn] at e
  obtain ⟨a, e1, rc⟩ := rs.at_ n c e
  have cok : c.ok = true := List.all_eq_true.mp ok c (by
    rw [List.mem_iff_getElem?]
    exact ⟨n, by rw [List.getElem?_take_of_lt hn]; exact e⟩)
  refine ⟨a, ?_, rc.closed cok⟩
  have : φ[n]? = φ'[n]? := by
    obtain ⟨t, rfl⟩ := g.pre
    rw [List.getElem?_append_left (by omega)]
  rw [this]; exact e1
/-- all but one -/
theorem RS.cutOff1 (rs0 : RS K mg B φ H st) (g : Go φ B H φ' B' H') (rs : RS K mg B' φ' H' st') (ok : (st'.take st.length).all Cell.ok = true) {m : Nat} {c : Cell} {a : Addr} (hm : st.length ≤ m) (hc : st'[m]? = some c) (ha : φ'[m]? = some a) (cok : c.ok = true) :
    RS K mg B' (φ ++ [a]) H' (st'.take st.length ++ [c]) ∧ Go φ B H (φ ++ [a]) B' H' := by
  have hl : φ.length = st.length := rs0.len
  have hp := g.pre.length_le
  obtain ⟨r1, g1⟩ := rs0.cutOff g rs ok
  have ma : a ∈ φ' := List.mem_of_getElem? ha
  have na : a ∉ φ := fun h => by
    obtain ⟨j, hj⟩ := List.mem_iff_getElem?.mp h
    have hj' : j < φ.length := (List.getElem?_eq_some_iff.mp hj).1
    have := nodupIx rs.nd (pre_get g.pre hj) ha
    omega
  refine ⟨⟨by rw [List.length_append, List.length_append, r1.len]; rfl, ?_, fun b h => ?_, rs.there, fun n d e => ?_⟩, ⟨g.sub, g.keep, List.prefix_append _ _, g.mono, g.fresh, fun b h => ?_⟩⟩
  · rw [List.nodup_append]
    exact ⟨rs0.nd, by simp, fun x hx y hy e => by
      have : y = a := by simpa using hy
      exact na (by rw [← this, ← e]; exact hx)⟩
  · rcases List.mem_append.mp h with h | h
    · exact g.mono b (rs0.sub b h)
    · have : b = a := by simpa using h
      rw [this]; exact rs.sub a ma
  · by_cases hn : n < (st'.take st.length).length
    · rw [List.getElem?_append_left hn] at e
      obtain ⟨b, e1, rc⟩ := r1.at_ n d e
      have dok : d.ok = true := List.all_eq_true.mp ok d (List.mem_of_getElem? e)
      exact ⟨b, by rw [List.getElem?_append_left (by rw [r1.len]; exact hn)]; exact e1, rc.closed dok⟩
    · rw [List.getElem?_append_right (by omega)] at e
      have hz : n - (st'.take st.length).length = 0 := by
        rcases Nat.eq_zero_or_pos (n - (st'.take st.length).length) with z | z
        · exact z
        · rw [List.getElem?_eq_none (by rw [List.length_singleton]; exact z)] at e; cases e
      rw [hz] at e
      simp at e
      subst e
      obtain ⟨b, e1, rc⟩ := rs.at_ m _ hc
      have : b = a := Option.some.inj (e1.symm.trans ha)
      subst this
      refine ⟨b, ?_, rc.closed cok⟩
      rw [List.getElem?_append_right (by rw [r1.len]; omega), r1.len, hz]
      rfl
  · rcases List.mem_append.mp h with h | h
    · exact .inl h
    · have : b = a := by simpa using h
      subst this
      rcases g.inφ b ma with z | z
      · exact absurd z na
      · exact .inr z
/-- what a def leaves, cleaned -/
theorem clean_fin {r0 r : Except Exc D} {st1 : Store} {Q : VK} {E : XK} (rs0 : RS K mg B φ H st) (hcl : clean st.length r0 st1 = some (r, st')) (fin : Fin K mg B φ H (RD K) st' Q E r) : Fin K mg B φ H (RD K) st1 Q E r0 := by
  unfold clean at hcl
  split at hcl
  · rename_i ok
    cases r0 with
    | error x =>
      dsimp only at hcl
      split at hcl
      · rename_i xok
        cases hcl
        exact fun cls dx B' φ' H' g rs rx => by
          obtain ⟨r1, g1⟩ := rs0.cutOff g rs ok
          exact fin cls dx B' φ H' g1 r1 (rx.closed xok)
      · cases hcl
    | ok d =>
      have plain : ∀ {d : D}, (if d.ok then some ((.ok d : Except Exc D), st1.take st.length) else none) = some (r, st') → Fin K mg B φ H (RD K) st1 Q E (.ok d) := fun {d} hcl => by
        split at hcl
        · rename_i dok
          cases hcl
          exact fun v B' φ' H' g rs rd => by
            obtain ⟨r1, g1⟩ := rs0.cutOff g rs ok
            exact fin v B' φ H' g1 r1 (RD.closed rd dok)
        · cases hcl
      cases d with
      | loc m =>
        dsimp only at hcl
        split at hcl
        · rename_i hm
          cases hcl
          exact fun v B' φ' H' g rs rd => by
            obtain ⟨r1, g1⟩ := rs0.cutOff g rs ok
            cases rd with | loc e =>
            refine fin _ B' φ H' g1 r1 (.loc ?_)
            obtain ⟨t, rfl⟩ := g.pre
            rw [List.getElem?_append_left (by rw [rs0.len]; exact hm)] at e
            exact e
        · rename_i hm
          cases hc : st1[m]? with
          | none => rw [hc] at hcl; cases hcl
          | some c =>
            rw [hc] at hcl
            dsimp only at hcl
            split at hcl
            · rename_i cok
              cases hcl
              exact fun v B' φ' H' g rs rd => by
                cases rd with | loc e =>
                obtain ⟨r1, g1⟩ := rs0.cutOff1 g rs ok (by omega) hc e cok
                refine fin _ B' _ H' g1 r1 (.loc ?_)
                rw [List.getElem?_append_right (by rw [rs0.len]; exact Nat.le_refl _), rs0.len]
                simp
            · cases hcl
      | non => exact plain hcl
      | bl _ => exact plain hcl
      | int _ => exact plain hcl
      | str _ => exact plain hcl
      | tup _ => exact plain hcl
      | lst _ => exact plain hcl
      | scr _ => exact plain hcl
  · cases hcl
theorem REnv.start {N : List Str} {vs : List V} {ds : List D} (r : RDs K B φ H vs ds) (hl : ds.length ≤ N.length) : REnv K B φ H (L2.start N vs) (startE N.length ds) := by
  refine ⟨by simp [L2.start, startE, r.length], fun i d h => ?_⟩
  unfold startE at h
  by_cases hi : i < ds.length
  · rw [List.getElem?_append_left (by simpa using hi), List.getElem?_map] at h
    cases hd : ds[i]? with
    | none => rw [hd] at h; cases h
    | some d' =>
      rw [hd] at h
      cases h
      obtain ⟨v, hv, rv⟩ := r.get hd
      refine ⟨v, ?_, rv⟩
      unfold L2.start
      rw [List.getElem?_append_left (by simp [r.length]; exact hi), List.getElem?_map, hv]
      rfl
  · rw [List.getElem?_append_right (by simpa using hi)] at h
    rw [List.getElem?_replicate] at h
    split at h <;> cases h
end
/-- THE RULE for a def -/
theorem fn_ok {P : Program} {w : World} {K : Frag} {mg : Str → Option Value} {base : Heap} {x qual : Str} {st : Stmt} {f : Addr} {fd : FuncData} {N ps : List Str} {k : Nat} {c : Sx} (F : Fun K x qual st f fd) (S : FnScope N ps (defScope st)) (hn : ps.length ≤ N.length)
    (hb : ∀ (cdv : Value) (A : Around) (outer : List PySem.Env) (s : Shared) (H : Hp) (E : XK), Room k (A.deeper (envOfC qual (defScope st) s.heap.objs.size f cdv)) → RSs (cxOf (L2.CX P w) P w K mg base N qual (defScope st) f cdv A outer s H E) (defBody st) c) :
    FnOk P w K mg base (L2.CX P w) (k + 1) f fd ps (spF K mg (fn ps.length N.length c) ps.length) := by
  refine F.okX S (fun vs H Q E h => ?_) (fun cdv A outer s H vs Q E hr h => ?_)
  · obtain ⟨_, _, _, _, _, _, h, _⟩ := h
    exact h
  · obtain ⟨B, φ, ds, st0, r, st', hl, rd, rs, hF, fin⟩ := h
    refine ⟨_, hb cdv A outer s H E hr _ (takes_of rfl rfl rfl rfl), ?_⟩
    unfold fn at hF
    have hds : ds.length = ps.length := rd.length.symm.trans hl
    rw [if_pos hds] at hF
    refine ⟨B, φ, startE N.length ds, st0, ?_⟩
    cases hc : c (startE N.length ds) st0 with
    | none => rw [hc] at hF; cases hF
    | some p =>
      obtain ⟨q, st1⟩ := p
      rw [hc] at hF
      refine ⟨q, st1, REnv.start rd (by omega), rs, rfl, ?_⟩
      cases q with
      | nx e1 =>
        have cf := clean_fin rs hF fin
        exact fun σ' B' φ' H' g rs' re' => cf .non B' φ' H' g rs' .non
      | rt d => exact clean_fin rs hF fin
      | bk _ => cases hF
      | ct _ => cases hF
      | ex x1 e1 =>
        have cf := clean_fin rs hF fin
        exact fun cls dx σ' B' φ' H' g rs' re' rx => cf cls dx B' φ' H' g rs' rx
/-! ### calls -/
section
variable {K : Frag} {mg : Str → Option Value} {B B' : Addr → Prop} {φ φ' φ2 : List Addr} {H H' : Hp} {st st' : Store}
theorem locIds_mem : ∀ {ds : List D} {n : Nat}, n ∈ locIds ds ↔ D.loc n ∈ ds
  | [], n => by simp [locIds]
  | d :: r, n => by
    cases d with
    | loc m =>
      unfold locIds
      split
      · rename_i h
        rw [locIds_mem]
        constructor
        · exact fun q => List.mem_cons_of_mem _ q
        · intro q
          rcases List.mem_cons.mp q with q | q
          · cases q
            exact locIds_mem.mp (by simpa using h)
          · exact q
      · rw [List.mem_cons, List.mem_cons, locIds_mem]
        constructor
        · rintro (rfl | q)
          · exact .inl rfl
          · exact .inr q
        · rintro (q | q)
          · cases q; exact .inl rfl
          · exact .inr q
    | _ => unfold locIds; rw [locIds_mem]; simp
theorem locIds_nodup : ∀ ds : List D, (locIds ds).Nodup
  | [] => by simp [locIds]
  | d :: r => by
    cases d with
    | loc m =>
      unfold locIds
      split
      · exact locIds_nodup r
      · rename_i h
        exact List.nodup_cons.mpr ⟨by simpa using h, locIds_nodup r⟩
    | _ => unfold locIds; exact locIds_nodup r
theorem mapM_get {st : Store} : ∀ {ids : List Nat} {cs : List Cell}, ids.mapM (fun n => st[n]?) = some cs → cs.length = ids.length ∧ ∀ (j n : Nat), ids[j]? = some n → st[n]? = cs[j]? ∧ n < st.length
  | [], cs, h => by
    simp at h
    subst h
    simp
  | i :: ids, cs, h => by
    rw [List.mapM_cons] at h
    cases h1 : st[i]? with
    | none => rw [h1] at h; cases h
    | some c =>
      rw [h1] at h
      cases h2 : ids.mapM (fun n => st[n]?) with
      | none => rw [h2] at h; cases h
      | some cs' =>
        rw [h2] at h
        cases h
        obtain ⟨e1, e2⟩ := mapM_get h2
        refine ⟨by simp [e1], fun j n hj => ?_⟩
        cases j with
        | zero => simp at hj; subst hj; exact ⟨by simp [h1], (List.getElem?_eq_some_iff.mp h1).1⟩
        | succ j => simpa using e2 j n (by simpa using hj)
theorem putBack_len : ∀ (ids : List Nat) (cs : List Cell) (st : Store), (putBack ids cs st).length = st.length
  | [], _, _ => by simp [putBack]
  | _ :: _, [], _ => by simp [putBack]
  | n :: ids, c :: cs, st => by unfold putBack; rw [putBack_len, List.length_set]
theorem putBack_get : ∀ (ids : List Nat) (cs : List Cell) (st : Store) (n : Nat), ids.Nodup → ids.length ≤ cs.length → n < st.length →
    (putBack ids cs st)[n]? = if n ∈ ids then cs[ids.idxOf n]? else st[n]?
  | [], _, _, _, _, _, _ => by simp [putBack]
  | _ :: _, [], _, _, _, h, _ => by simp at h
  | i :: ids, c :: cs, st, n, nd, hl, hn => by
    unfold putBack
    rw [putBack_get ids cs _ n (List.nodup_cons.mp nd).2 (by simpa using hl) (by rw [List.length_set]; exact hn)]
    by_cases hi : n = i
    · subst hi
      rw [if_neg (List.nodup_cons.mp nd).1, List.getElem?_set_self hn]
      simp
    · by_cases hm : n ∈ ids
      · have : n ∈ i :: ids := List.mem_cons_of_mem _ hm
        rw [if_pos hm, if_pos this, List.idxOf_cons]
        have hb : (i == n) = false := by simpa using Ne.symm hi
        rw [hb]
        simp
      · have : n ∉ i :: ids := fun z => (List.mem_cons.mp z).elim hi hm
        rw [if_neg hm, if_neg this, List.getElem?_set_ne (Ne.symm hi)]
/-- the callee's view: the addresses of the cells handed in -/
def viewAt (φ : List Addr) (ids : List Nat) : List Addr := ids.map fun n => φ.getD n 0
theorem viewAt_get {ids : List Nat} (h : ∀ n ∈ ids, n < φ.length) {j n : Nat} (hj : ids[j]? = some n) : (viewAt φ ids)[j]? = φ[n]? := by
  unfold viewAt
  rw [List.getElem?_map, hj, Option.map_some]
  have := h n (List.mem_of_getElem? hj)
  simp [List.getD, List.getElem?_eq_getElem this]
theorem idx_get {ids : List Nat} {n : Nat} (h : n ∈ ids) : ids[ids.idxOf n]? = some n := by
  have := List.idxOf_lt_length_of_mem h
  rw [List.getElem?_eq_getElem this]
  congr 1
  exact List.getElem_idxOf this
theorem RDs.view {ids : List Nat} {vs : List V} {ds : List D} (hv : ∀ n ∈ ids, n < φ.length) : RDs K B φ H vs ds → (∀ n, D.loc n ∈ ds → n ∈ ids) → ds.all isTop = true → RDs K B (viewAt φ ids) H vs (ds.map (inView ids))
  | .nil, _, _ => .nil
  | .cons r t, hm, ht => by
    simp only [List.all_cons, Bool.and_eq_true] at ht
    refine .cons ?_ (RDs.view hv t (fun n h => hm n (List.mem_cons_of_mem _ h)) ht.2)
    cases r with
    | loc e =>
      rename_i a n
      have hn := hm n (by simp)
      exact .loc ((viewAt_get hv (idx_get hn)).trans e)
    | scr e => exact .scr e
    | non => exact .non
    | bl b => exact .bl b
    | int i => exact .int i
    | str x h => exact .str x h
    | tup s q => exact RD.closed (n := 60) (.tup s q) ht.1
    | lst s n q => exact RD.closed (n := 60) (.lst s n q) ht.1
theorem outOf_old {ids : List Nat} {n m k : Nat} (h : ids[m]? = some k) : outOf ids n (.loc m) = .loc k := by
  show (match ids[m]? with | some n => D.loc n | none => _) = _
  rw [h]
theorem outOf_new {ids : List Nat} {n m : Nat} (h : ids[m]? = none) : outOf ids n (.loc m) = .loc (n + (m - ids.length)) := by
  show (match ids[m]? with | some n => D.loc n | none => _) = _
  rw [h]
/-- a call, from the caller's side -/
theorem view_call {F : Fn} {vs : List V} {ds : List D} {r : Except Exc D} {Q : VK} {E : XK} (rs : RS K mg B φ H st) (rd : RDs K B φ H vs ds) (hc : viewCall F ds st = some (r, st')) (fin : Fin K mg B φ H (RD K) st' Q E r) : spF K mg F vs.length vs H Q E := by
  unfold viewCall at hc
  dsimp only at hc
  cases hm : (locIds ds).mapM (fun n => st[n]?) with
  | none => rw [hm] at hc; cases hc
  | some cs =>
    rw [hm] at hc
    dsimp only at hc
    split at hc
    · rename_i ok1
      rw [Bool.and_eq_true] at ok1
      cases hF : F (ds.map (inView (locIds ds))) cs with
      | none => rw [hF] at hc; cases hc
      | some p =>
        obtain ⟨r0, cs'⟩ := p
        rw [hF] at hc
        dsimp only at hc
        split at hc
        · rename_i ok2
          rw [Bool.and_eq_true, decide_eq_true_eq] at ok2
          obtain ⟨hl, hg⟩ := mapM_get hm
          have hids : ∀ n ∈ locIds ds, n < st.length := fun n hn => (hg _ n (idx_get hn)).2
          have hv : ∀ n ∈ locIds ds, n < φ.length := fun n hn => by rw [rs.len]; exact hids n hn
          have nd := locIds_nodup ds
          have vlen : (viewAt φ (locIds ds)).length = (locIds ds).length := by simp [viewAt]
          have vsub : ∀ a, a ∈ viewAt φ (locIds ds) → a ∈ φ := fun a ha => by
            obtain ⟨j, hj⟩ := List.mem_iff_getElem?.mp ha
            have hj' : j < (locIds ds).length := by rw [← vlen]; exact (List.getElem?_eq_some_iff.mp hj).1
            rw [viewAt_get hv (List.getElem?_eq_getElem hj')] at hj
            exact List.mem_of_getElem? hj
          have vnd : (viewAt φ (locIds ds)).Nodup := by
            unfold viewAt
            rw [List.Nodup, List.pairwise_map]
            refine List.Pairwise.imp_of_mem (fun {x y} hx hy hne e => hne ?_) nd
            have h1 := hv x hx
            have h2 := hv y hy
            simp only [List.getD, List.getElem?_eq_getElem h1, List.getElem?_eq_getElem h2, Option.getD_some] at e
            exact nodupIx rs.nd (List.getElem?_eq_getElem h1) (by rw [e]; exact List.getElem?_eq_getElem h2)
          have rsv : RS K mg B (viewAt φ (locIds ds)) H cs := by
            refine ⟨by rw [vlen, hl], vnd, fun a h => rs.sub a (vsub a h), rs.there, fun j c hj => ?_⟩
            have hj' : j < (locIds ds).length := by rw [← hl]; exact (List.getElem?_eq_some_iff.mp hj).1
            have e := List.getElem?_eq_getElem hj'
            obtain ⟨a, e1, rc⟩ := rs.at_ _ c ((hg j _ e).1.trans hj)
            exact ⟨a, (viewAt_get hv e).trans e1, rc.closed (List.all_eq_true.mp ok1.2 c (List.mem_of_getElem? hj))⟩
          refine ⟨B, viewAt φ (locIds ds), ds.map (inView (locIds ds)), cs, r0, cs', rfl, RDs.view hv rd (fun n h => locIds_mem.mpr h) ok1.1, rsv, hF, ?_⟩
          -- behind the call
          have back : ∀ {B' : Addr → Prop} {φ' : List Addr} {H' : Hp}, Go (viewAt φ (locIds ds)) B H φ' B' H' → RS K mg B' φ' H' cs' →
              Go φ B H (φ ++ φ'.drop (locIds ds).length) B' H' ∧ RS K mg B' (φ ++ φ'.drop (locIds ds).length) H' (putBack (locIds ds) cs' st ++ cs'.drop (locIds ds).length) := fun {B' φ' H'} g rs' => by
            have newφ : ∀ a, a ∈ φ'.drop (locIds ds).length → a ∈ φ' ∧ a ∉ viewAt φ (locIds ds) ∧ H a = none := fun a ha => by
              have h1 := List.mem_of_mem_drop ha
              have h2 : a ∉ viewAt φ (locIds ds) := fun hv' => by
                obtain ⟨i, hi⟩ := List.mem_iff_getElem?.mp hv'
                obtain ⟨j, hj⟩ := List.mem_iff_getElem?.mp ha
                rw [List.getElem?_drop] at hj
                have := nodupIx rs'.nd (pre_get g.pre hi) hj
                have hi' := (List.getElem?_eq_some_iff.mp hi).1
                rw [vlen] at hi'
                omega
              exact ⟨h1, h2, (g.inφ a h1).resolve_left h2⟩
            refine ⟨⟨rs.sub, fun a o h na => g.keep a o h fun hv' => na (vsub a hv'), List.prefix_append _ _, g.mono, g.fresh, fun a h => ?_⟩, ⟨?_, ?_, fun a h => ?_, rs'.there, fun n c e => ?_⟩⟩
            · rcases List.mem_append.mp h with h | h
              · exact .inl h
              · exact .inr (newφ a h).2.2
            · rw [List.length_append, List.length_append, putBack_len, List.length_drop, List.length_drop, rs.len, rs'.len]
            · rw [List.nodup_append]
              refine ⟨rs.nd, rs'.nd.sublist (List.drop_sublist _ _), fun a ha b hb e => ?_⟩
              subst e
              exact rs.there a (rs.sub a ha) (newφ a hb).2.2
            · rcases List.mem_append.mp h with h | h
              · exact g.mono a (rs.sub a h)
              · exact rs'.sub a (newφ a h).1
            · by_cases hn : n < st.length
              · rw [List.getElem?_append_left (by rw [putBack_len]; exact hn), putBack_get _ _ _ _ nd ok2.1 hn] at e
                split at e
                · rename_i hmem
                  obtain ⟨a, e1, rc⟩ := rs'.at_ _ c e
                  have hix := idx_get hmem
                  have e2 : φ'[(locIds ds).idxOf n]? = φ[n]? := by
                    have hlt : (locIds ds).idxOf n < (viewAt φ (locIds ds)).length := by rw [vlen]; exact List.idxOf_lt_length_of_mem hmem
                    obtain ⟨t, ht⟩ := g.pre
                    rw [← ht, List.getElem?_append_left hlt, viewAt_get hv hix]
                  refine ⟨a, ?_, rc.closed (List.all_eq_true.mp ok2.2 c (List.mem_of_getElem? e))⟩
                  rw [List.getElem?_append_left (by rw [rs.len]; exact hn), ← e2]; exact e1
                · rename_i hmem
                  obtain ⟨a, e1, rc⟩ := rs.at_ n c e
                  have nav : a ∉ viewAt φ (locIds ds) := fun hv' => by
                    obtain ⟨j, hj⟩ := List.mem_iff_getElem?.mp hv'
                    have hj' : j < (locIds ds).length := by rw [← vlen]; exact (List.getElem?_eq_some_iff.mp hj).1
                    have ej := List.getElem?_eq_getElem hj'
                    rw [viewAt_get hv ej] at hj
                    have := nodupIx rs.nd hj e1
                    exact hmem (by rw [← this]; exact List.getElem_mem hj')
                  obtain ⟨o, ho, _⟩ := rc.mut
                  have f : ∀ {v d}, RD K B φ H v d → RD K B' (φ ++ φ'.drop (locIds ds).length) H' v d := fun r =>
                    RD.on (g.tupOn rsv) (g.lstOn rsv) (g.frzOn rsv) (fun _ _ h => pre_get (List.prefix_append _ _) h) r
                  exact ⟨a, pre_get (List.prefix_append _ _) e1, rc.on f (RDs.map f) ((g.keep a o ho nav).trans ho.symm)⟩
              · rw [List.getElem?_append_right (by rw [putBack_len]; omega), putBack_len, List.getElem?_drop] at e
                obtain ⟨a, e1, rc⟩ := rs'.at_ _ c e
                refine ⟨a, ?_, rc.closed (List.all_eq_true.mp ok2.2 c (List.mem_of_getElem? e))⟩
                rw [List.getElem?_append_right (by rw [rs.len]; omega), rs.len, List.getElem?_drop]
                exact e1
          cases r0 with
          | error x =>
            dsimp only at hc
            split at hc
            · rename_i xok
              cases hc
              exact fun cls dx B' φ' H' g rs' rx => by
                obtain ⟨g', rs2⟩ := back g rs'
                exact fin cls dx B' _ H' g' rs2 (rx.closed xok)
            · cases hc
          | ok d =>
            dsimp only at hc
            split at hc
            · rename_i dok
              cases hc
              intro v B' φ' H' g rs' rd'
              obtain ⟨g', rs2⟩ := back g rs'
              refine fin v B' _ H' g' rs2 ?_
              cases rd' with
              | loc e =>
                rename_i a m
                by_cases hm' : m < (locIds ds).length
                · have ej := List.getElem?_eq_getElem hm'
                  rw [outOf_old ej]
                  refine .loc ?_
                  have e2 : φ'[m]? = φ[(locIds ds)[m]]? := by
                    obtain ⟨t, ht⟩ := g.pre
                    rw [← ht, List.getElem?_append_left (by rw [vlen]; exact hm'), viewAt_get hv ej]
                  exact pre_get (List.prefix_append _ _) (e2.symm.trans e)
                · rw [outOf_new (List.getElem?_eq_none (Nat.le_of_not_lt hm'))]
                  refine .loc ?_
                  rw [List.getElem?_append_right (by rw [rs.len]; omega), rs.len, List.getElem?_drop]
                  have : (locIds ds).length + (st.length + (m - (locIds ds).length) - st.length) = m := by omega
                  rw [this]; exact e
              | scr e => exact .scr e
              | non => exact .non
              | bl b => exact .bl b
              | int i => exact .int i
              | str x h => exact .str x h
              | tup s q => exact RD.closed (n := 60) (.tup s q) dok
              | lst s n q => exact RD.closed (n := 60) (.lst s n q) dok
            · cases hc
        · cases hc
    · cases hc
end
section
variable {X : Cx} {a o : Expr} {ca co : Ex} {pos p apos : Pos} {es : List Expr} {cs : Ax} {F : Fn} {n k : Nat} {f : Addr} {fd : FuncData} {ps : List Str} {x m : Str}
theorem TrK.call {K : Frag} {mg : Str → Option Value} {W : WX} {σ : L2.St} {H : Hp} {xs : List V} {Q : VK} (h : TrK K mg (RDs K) (RD K) (fun ds => fun _ st => viewCall F ds st) W xs σ H Q) : spF K mg F xs.length xs H Q (fun cls dx H' => W cls dx σ H') := by
  obtain ⟨B, φ, e, st, d, r, st', re, rs, r1, hc, fin⟩ := h
  exact view_call rs r1 hc fin
theorem spF_len {K : Frag} {mg : Str → Option Value} {vs : List V} {H : Hp} {Q : VK} {E : XK} (h : spF K mg F vs.length vs H Q E) (hn : ∀ ds st r, F ds st = some r → ds.length = n) : spF K mg F n vs H Q E := by
  obtain ⟨B, φ, ds, st, r, st', hl, rd, rs, hF, fin⟩ := h
  exact ⟨B, φ, ds, st, r, st', by rw [rd.length]; exact hn _ _ _ hF, rd, rs, hF, fin⟩
/-- F takes n arguments -/
def Takes_ (F : Fn) (n : Nat) : Prop := ∀ ds st r, F ds st = some r → ds.length = n
theorem fn_takes {n N : Nat} {b : Sx} : Takes_ (fn n N b) n := fun ds st r h => by
  unfold fn at h
  split at h
  · assumption
  · cases h
theorem re_call (G : FnOk X.prog X.w X.K X.mg X.base (L2.CX X.prog X.w) k f fd ps (spF X.K X.mg F n)) (hn : Takes_ F n) (hr : Room k X.A) (hg : Gl X x) (hm : X.mg x = some (.ref f)) (hk : PySem.W.keepIn X.K (.ref f) = true) (hb : Binds X.K fd ps []) (ha : RA X (a :: es) cs)
    (hdb : (x == ("__debug__" : Str)) = false := by decide) (he : starEach (a :: es) X.env = (false, eval a X.env) :: starEach es X.env := by rfl) (hpl : (backTo pos (starEach es X.env)).any (·.1) = false := by rfl) :
    RE X (.Call (.Name x p) (a :: es) [] pos) (eCall F cs) := fun W tk =>
  (pe_callSD (dvs := []) (ds := []) (E := fun σ cls d H' => W cls d σ H') G hr hg hm hk hb .nil (fun σ => passAt tk σ) (ha W tk) hdb he hpl).imp fun σ H Q h => (Tr.bind h).mono fun xs H1 h1 => by
    rw [List.append_nil]
    exact spF_len h1.call hn
end
end Sw

/-! Rules7: isinstance, names of the module, places written, methods of lists and dicts. -/
set_option Elab.async false
set_option linter.all false
set_option maxRecDepth 100000
set_option maxHeartbeats 4000000
namespace Sw
open PySem PySem.Spec PyProof.Rows L2
/-! ### isinstance -/
theorem kitB_of : (["NoneType", "bool", "int", "str", "tuple", "list", "dict"].all fun a => ["bool", "int", "str", "tuple", "list", "dict"].all fun b => kitB a b == some (subTy a b)) = true := by decide +kernel
def goodTs (ts : List String) : Bool := ts.all fun b => (["bool", "int", "str", "tuple", "list", "dict"] : List String).contains b
theorem tyN_mem {st : Store} {d : D} {t : String} (h : tyN st d = some t) : t ∈ ["NoneType", "bool", "int", "str", "tuple", "list", "dict"] := by
  unfold tyN at h
  split at h <;> first | (cases h; decide) | skip
  · split at h <;> first | (cases h; decide) | cases h
  all_goals cases h
section
variable {K : Frag} {mg : Str → Option Value} {B : Addr → Prop} {φ : List Addr} {H : Hp} {st : Store}
theorem kit_sub {st : Store} {d : D} {t b : String} (h : tyN st d = some t) (hb : b ∈ ["bool", "int", "str", "tuple", "list", "dict"]) : PySem.W.kitOne K (.type t) (.type b) = some (subTy t b) := by
  refine kit_ty ?_
  have h1 := List.all_eq_true.mp kitB_of t (tyN_mem h)
  have h2 := List.all_eq_true.mp h1 b hb
  exact eq_of_beq h2
theorem kit_any {st : Store} {d : D} {t : String} (h : tyN st d = some t) : ∀ {ts : List String}, goodTs ts = true → PySem.W.kitAny K (.type t) (ts.map Value.type) = some (ts.any fun b => subTy t b)
  | [], _ => kitAny_nil
  | b :: ts, hg => by
    unfold goodTs at hg
    rw [List.all_cons, Bool.and_eq_true] at hg
    rw [List.map_cons, List.any_cons]
    refine kitAny_cons (kit_sub h (by simpa using hg.1)) (fun e => ?_) (fun e => by rw [e, Bool.true_or])
    rw [e, Bool.false_or]
    exact kit_any h hg.2
theorem tyx_of (rs : RS K mg B φ H st) {v : V} {d : D} {t : String} (r : RD K B φ H v d) (h : tyN st d = some t) : TyX K H v (.type t) := by
  cases r with
  | non => cases h; exact .base .non
  | bl b => cases h; exact .base (.bl b)
  | int i => cases h; exact .base (.int i)
  | str x _ => cases h; exact .base (.str x)
  | tup sq q =>
    cases h
    rcases sq with (e | ⟨o, e⟩) | ⟨o, its, n, e, c, _⟩
    · exact .base (.tup e)
    · exact .fTuple e
    · exact .kTuple e c
  | lst e _ _ => cases h; exact .base (.lst e)
  | scr _ => cases h
  | loc e =>
    rename_i a n
    cases hs : st[n]? with
    | none => simp [tyN, hs] at h
    | some c =>
      obtain ⟨b, e', rc⟩ := rs.at_ n _ hs
      rw [e] at e'
      cases e'
      cases c with
      | lst _ => simp only [tyN, hs] at h; cases h; obtain ⟨_, e2, _⟩ := rc; exact .base (.lst e2)
      | dct _ => simp only [tyN, hs] at h; cases h; obtain ⟨_, e2, _⟩ := rc; exact .base (.dK e2)
      | dtt _ => simp only [tyN, hs] at h; cases h; obtain ⟨_, e2, _⟩ := rc; exact .base (.dT e2)
      | ins _ _ => simp [tyN, hs] at h
end
section
variable {X : Cx} {a o i e : Expr} {ca co ci ce : Ex} {pos p p2 p3 p4 : Pos} {es : List Expr} {cs : Ax} {x : Str}
theorem re_isi {b : String} {y : Str} (ha : RE X a ca) (hg : Gl X "isinstance") (hm : X.mg "isinstance" = none) (hg2 : Gl X y) (hm2 : X.mg y = none) (hv : bootBuiltins y = some (.type b)) (hb : b ∈ ["bool", "int", "str", "tuple", "list", "dict"] := by decide)
    (hn : y ≠ "__name__" := by decide) (hdb : (y == ("__debug__" : Str)) = false := by decide)
    (he : starEach [a, .Name y p2] X.env = (false, eval a X.env) :: starEach [.Name y p2] X.env := by rfl) (he2 : starEach [.Name y p2] X.env = (false, eval (.Name y p2) X.env) :: starEach [] X.env := by rfl) (hpl : (backTo pos (starEach [.Name y p2] X.env)).any (·.1) = false := by rfl) :
    RE X (.Call (.Name "isinstance" p) [a, .Name y p2] [] pos) (op1 (vIsi [b]) ca) := fun W tk =>
  (pe_callB call_isi hg hm rfl (pa_cons (ha W tk) (pa_cons (pe_bltn (v := .ty b) hg2 hm2 hv rfl hn hdb) pa_nil he2) he) (by decide) (by decide) he hpl).imp fun σ H Q h => (Tr.bind h).mono fun v H1 h1 => by
    obtain ⟨B, φ, st, d, z, rs, r, hz, fin⟩ := h1.v1
    unfold vIsi at hz
    cases ht : tyN st d with
    | none => rw [ht] at hz; cases hz
    | some t =>
      rw [ht] at hz
      cases hz
      have e1 : ([b].any fun b => subTy t b) = subTy t b := by simp
      have fin1 := fin0 rs fin (.bl _)
      rw [e1] at fin1
      exact ⟨v, .ty b, .type t, .type b, _, rfl, .ty b, tyx_of rs r ht, kit_sub ht hb, fin1⟩
theorem re_isi2 {b c : String} {y z : Str} {k : Nat} (ha : RE X a ca) (hg : Gl X "isinstance") (hm : X.mg "isinstance" = none) (hg2 : Gl X y) (hm2 : X.mg y = none) (hv : bootBuiltins y = some (.type b)) (hg3 : Gl X z) (hm3 : X.mg z = none) (hv3 : bootBuiltins z = some (.type c))
    (hb : goodTs [b, c] = true := by decide) (hn : y ≠ "__name__" := by decide) (hdb : (y == ("__debug__" : Str)) = false := by decide) (hn3 : z ≠ "__name__" := by decide) (hdb3 : (z == ("__debug__" : Str)) = false := by decide)
    (he : starEach [a, .Tuple [.Name y p2, .Name z p3] k p4] X.env = (false, eval a X.env) :: starEach [.Tuple [.Name y p2, .Name z p3] k p4] X.env := by rfl)
    (he2 : starEach [.Tuple [.Name y p2, .Name z p3] k p4] X.env = (false, eval (.Tuple [.Name y p2, .Name z p3] k p4) X.env) :: starEach [] X.env := by rfl)
    (he3 : starEach [.Name y p2, .Name z p3] X.env = (false, eval (.Name y p2) X.env) :: starEach [.Name z p3] X.env := by rfl) (he4 : starEach [.Name z p3] X.env = (false, eval (.Name z p3) X.env) :: starEach [] X.env := by rfl)
    (hpl : (backTo pos (starEach [.Tuple [.Name y p2, .Name z p3] k p4] X.env)).any (·.1) = false := by rfl) :
    RE X (.Call (.Name "isinstance" p) [a, .Tuple [.Name y p2, .Name z p3] k p4] [] pos) (op1 (vIsi [b, c]) ca) := fun W tk =>
  (pe_callB call_isiT hg hm rfl (pa_cons (ha W tk) (pa_cons (pe_tup (pa_cons (pe_bltn (v := .ty b) hg2 hm2 hv rfl hn hdb) (pa_cons (pe_bltn (v := .ty c) hg3 hm3 hv3 rfl hn3 hdb3) pa_nil he4) he3)) pa_nil he2) he) (by decide) (by decide) he hpl).imp fun σ H Q h => (Tr.bind h).mono fun v H1 h1 => by
    obtain ⟨B, φ, st, d, z, rs, r, hz, fin⟩ := h1.v1
    unfold vIsi at hz
    cases ht : tyN st d with
    | none => rw [ht] at hz; cases hz
    | some t =>
      rw [ht] at hz
      cases hz
      refine ⟨by show 2 ≤ sizeLine; decide, fun q hq => ?_⟩
      obtain ⟨rs', g⟩ := rs.newThing (o := .tup [.ty b, .ty c]) hq
      refine ⟨v, q, [.ty b, .ty c], .type t, [.type b, .type c], _, rfl, upd_same, .cons (.ty b) (.cons (.ty c) .nil), tyx_of rs' (RD.go rs g r) ht, kit_any ht hb, fin _ _ _ _ g rs' (.bl _)⟩
/-! ### names of the module -/
def strB (x : Str) : Bool := x.cps.toList.all (fun c => Nat.ble (c + 1) 0x110000) && Nat.ble x.cps.toList.length 1000
theorem strB_ok {x : Str} (h : strB x = true) : strOk x := by
  unfold strB at h
  rw [Bool.and_eq_true] at h
  refine ⟨?_, ?_⟩
  · rw [← Array.all_toList, List.all_eq_true]
    intro c hc
    have := List.all_eq_true.mp h.1 c hc
    have := Nat.le_of_ble_eq_true this
    exact decide_eq_true (by omega)
  · have h2 := Nat.le_of_ble_eq_true h.2
    show x.cps.size ≤ sizeLine
    rw [← Array.length_toList]
    have := line63
    rw [sizeLine_eq]; omega
def kD (K : Frag) : Nat → Value → Option D
  | _, .none => some .non
  | _, .bool b => some (.bl b)
  | _, .int i _ => some (.int i)
  | _, .str x _ => if strB x = true then some (.str x) else none
  | n + 1, .ref a => match K.lookup a with
    | some ⟨.type "tuple", _, .seq its _, _⟩ => if Nat.ble its.toList.length 1000 = true then (its.toList.mapM (kD K n)).map D.tup else none
    | _ => none
  | _, _ => none
theorem mapM_cons_some {α β : Type} {f : α → Option β} {x : α} {xs : List α} {ys : List β} (h : (x :: xs).mapM f = some ys) : ∃ y zs, f x = some y ∧ xs.mapM f = some zs ∧ ys = y :: zs := by
  rw [List.mapM_cons] at h
  cases hx : f x with
  | none => rw [hx] at h; cases h
  | some y =>
    rw [hx] at h
    cases hz : xs.mapM f with
    | none => rw [hz] at h; cases h
    | some zs => rw [hz] at h; cases h; exact ⟨y, zs, rfl, rfl, rfl⟩
theorem kD_ok {K : Frag} : ∀ {n : Nat} {u : Value} {d : D}, kD K n u = some d → ∃ v, RelV v u ∧ ∀ B φ H, RD K B φ H v d := by
  intro n
  induction n with
  | zero =>
    intro u d h
    cases u <;> simp only [kD] at h <;> first | cases h | skip
    · exact ⟨.non, rfl, fun _ _ _ => .non⟩
    · exact ⟨.bl _, rfl, fun _ _ _ => .bl _⟩
    · exact ⟨.int _, ⟨_, rfl⟩, fun _ _ _ => .int _⟩
    · split at h
      · rename_i hs
        cases h
        exact ⟨.str _, ⟨_, rfl⟩, fun _ _ _ => .str _ (strB_ok hs)⟩
      · cases h
  | succ n ih =>
    intro u d h
    cases u <;> simp only [kD] at h <;> first | cases h | skip
    · exact ⟨.non, rfl, fun _ _ _ => .non⟩
    · exact ⟨.bl _, rfl, fun _ _ _ => .bl _⟩
    · exact ⟨.int _, ⟨_, rfl⟩, fun _ _ _ => .int _⟩
    · split at h
      · rename_i hs
        cases h
        exact ⟨.str _, ⟨_, rfl⟩, fun _ _ _ => .str _ (strB_ok hs)⟩
      · cases h
    · rename_i a
      split at h
      · rename_i dd its m sl hk
        split at h
        · rename_i hsz
          cases hm : its.toList.mapM (kD K n) with
          | none => rw [hm] at h; cases h
          | some ds =>
            rw [hm] at h
            cases h
            have go : ∀ (us : List Value) (ds : List D), us.mapM (kD K n) = some ds → ∃ vs, Vals vs us ∧ ∀ B φ H, RDs K B φ H vs ds := by
              intro us
              induction us with
              | nil => intro ds h; simp at h; subst h; exact ⟨[], .nil, fun _ _ _ => .nil⟩
              | cons u us ih2 =>
                intro ds h
                obtain ⟨y, zs, h1, h2, rfl⟩ := mapM_cons_some h
                obtain ⟨v, r1, r2⟩ := ih h1
                obtain ⟨vs, q1, q2⟩ := ih2 _ h2
                exact ⟨v :: vs, .cons r1 q1, fun _ _ _ => .cons (r2 _ _ _) (q2 _ _ _)⟩
            obtain ⟨vs, q1, q2⟩ := go _ _ hm
            have hsz2 : its.size ≤ sizeLine := by
              have h2 := Nat.le_of_ble_eq_true hsz
              rw [Array.length_toList] at h2
              rw [sizeLine_eq]; omega
            exact ⟨.ref a, rfl, fun _ _ _ => .tup (.inr ⟨_, its, m, hk, rfl, rfl, hsz2, q1⟩) (q2 _ _ _)⟩
        · cases h
      · cases h
theorem re_glob {u : Value} {d : D} (hg : Gl X x) (hm : X.mg x = some u) (hd : kD X.K 6 u = some d) (hdb : (x == ("__debug__" : Str)) = false := by decide) : RE X (.Name x pos) (eC d) := by
  obtain ⟨v, r, rd⟩ := kD_ok hd
  exact re_const (pe_glob hg hm r hdb) rd
end
end Sw

/-! Rules8: places written and read, op=, methods of lists. -/
set_option Elab.async false
set_option linter.all false
set_option maxRecDepth 100000
set_option maxHeartbeats 4000000
namespace Sw
open PySem PySem.Spec PyProof.Rows L2
section
variable {K : Frag} {mg : Str → Option Value} {B B' : Addr → Prop} {φ φ' : List Addr} {H H' : Hp} {st st' : Store}
theorem keyD_inj {a b : Key} : keyEq (keyD a) (keyD b) = decide (a = b) := by
  cases a <;> cases b <;> simp [keyD, keyEq] <;> rename_i a b <;> (by_cases h : a = b <;> simp [h])
theorem key_of_isKey {v : V} {k : D} (r : RD K B φ H v k) (h : isKey k = true) : ∃ κ : Key, v = kV κ ∧ k = keyD κ ∧ okKD (keyD κ) := by
  cases r with
  | int i => exact ⟨.inl _, rfl, rfl, trivial⟩
  | str x hx => exact ⟨.inr _, rfl, rfl, hx⟩
  | _ => simp [isKey] at h
theorem RKv.any {κ : Key} : ∀ {vs : List (Key × V)} {ds : List (D × D)}, RKv K B φ H keyD vs ds → (vs.any fun kv => decide (kv.1 = κ)) = ds.any fun p => keyEq p.1 (keyD κ)
  | _, _, .nil => rfl
  | _, _, .cons _ r t => by rw [List.any_cons, List.any_cons, RKv.any t, keyD_inj]
theorem RKv.repl {κ : Key} {v : V} {d : D} (rd : RD K B φ H v d) : ∀ {vs : List (Key × V)} {ds : List (D × D)}, RKv K B φ H keyD vs ds →
    RKv K B φ H keyD (vs.map fun kv => if kv.1 = κ then (kv.1, v) else kv) (ds.map fun p => if keyEq p.1 (keyD κ) = true then (p.1, d) else p)
  | _, _, .nil => .nil
  | _, _, .cons (k := k) o r t => by
    rw [List.map_cons, List.map_cons]
    by_cases h : k = κ
    · have h2 : keyEq (keyD k) (keyD κ) = true := by rw [keyD_inj]; simpa using h
      simp only [h, if_true, keyD_inj, decide_true]
      rw [h] at o
      exact .cons o rd (RKv.repl rd t)
    · have h2 : ¬ keyEq (keyD k) (keyD κ) = true := by rw [keyD_inj]; simpa using h
      simp only [h, if_false, h2]
      exact .cons o r (RKv.repl rd t)
theorem RKv.snoc {κ : Key} {v : V} {d : D} (ok : okKD (keyD κ)) (rd : RD K B φ H v d) : ∀ {vs : List (Key × V)} {ds : List (D × D)}, RKv K B φ H keyD vs ds → RKv K B φ H keyD (vs ++ [(κ, v)]) (ds ++ [(keyD κ, d)])
  | _, _, .nil => .cons ok rd .nil
  | _, _, .cons o r t => .cons o r (RKv.snoc ok rd t)
theorem RKv.put {κ : Key} {v : V} {d : D} {vs : List (Key × V)} {ds : List (D × D)} (q : RKv K B φ H keyD vs ds) (ok : okKD (keyD κ)) (rd : RD K B φ H v d) : RKv K B φ H keyD (putK vs κ v) (putKv ds (keyD κ) d) := by
  unfold putK putKv
  rw [q.any (κ := κ)]
  split
  · exact q.repl rd
  · exact q.snoc ok rd
theorem RKv.get {κ : Key} : ∀ {vs : List (Key × V)} {ds : List (D × D)}, RKv K B φ H keyD vs ds → (∀ d, getKv ds (keyD κ) = some d → ∃ v, valV vs κ = some v ∧ RD K B φ H v d) ∧ (getKv ds (keyD κ) = none → valV vs κ = none)
  | _, _, .nil => ⟨fun d h => by simp [getKv] at h, fun _ => rfl⟩
  | _, _, .cons (k := k) (v := v) (vs := vs) (ds := ds) _ r t => by
    obtain ⟨i1, i2⟩ := RKv.get (κ := κ) t
    by_cases h : k = κ
    · have h2 : keyEq (keyD k) (keyD κ) = true := by rw [keyD_inj]; simpa using h
      refine ⟨fun d hd => ?_, fun hd => ?_⟩
      · unfold getKv at hd
        rw [List.find?_cons_of_pos (p := fun p : D × D => keyEq p.1 (keyD κ)) h2] at hd
        cases hd
        exact ⟨v, valV_pos (p := (k, v)) h, r⟩
      · unfold getKv at hd
        rw [List.find?_cons_of_pos (p := fun p : D × D => keyEq p.1 (keyD κ)) h2] at hd
        cases hd
    · have h2 : ¬ keyEq (keyD k) (keyD κ) = true := by rw [keyD_inj]; simpa using h
      have e : valV ((k, v) :: vs) κ = valV vs κ := valV_neg (p := (k, v)) h
      refine ⟨fun d hd => ?_, fun hd => ?_⟩
      · unfold getKv at hd
        rw [List.find?_cons_of_neg (p := fun p : D × D => keyEq p.1 (keyD κ)) h2] at hd
        rw [e]; exact i1 d hd
      · unfold getKv at hd
        rw [List.find?_cons_of_neg (p := fun p : D × D => keyEq p.1 (keyD κ)) h2] at hd
        rw [e]; exact i2 hd
theorem putKv_len (kvs : List (D × D)) (k v : D) : (putKv kvs k v).length ≤ kvs.length + 1 := by
  unfold putKv
  split <;> simp
/-- a cell's things -/
theorem loc_lst (rs : RS K mg B φ H st) {n : Nat} {xs : List D} {v : V} (r : RD K B φ H v (.loc n)) (hs : st[n]? = some (.lst xs)) : ∃ a vs, v = .ref a ∧ φ[n]? = some a ∧ H a = some (.lst vs) ∧ RDs K B φ H vs xs := by
  cases r with | loc e =>
  obtain ⟨b, e', vs, hv, rv⟩ := rs.at_ n _ hs
  rw [e] at e'
  cases e'
  exact ⟨_, vs, rfl, e, hv, rv⟩
theorem loc_dct (rs : RS K mg B φ H st) {n : Nat} {xs : List (D × D)} {v : V} (r : RD K B φ H v (.loc n)) (hs : st[n]? = some (.dct xs)) : ∃ a vs, v = .ref a ∧ φ[n]? = some a ∧ H a = some (.dK vs) ∧ RKv K B φ H keyD vs xs := by
  cases r with | loc e =>
  obtain ⟨b, e', vs, hv, rv⟩ := rs.at_ n _ hs
  rw [e] at e'
  cases e'
  exact ⟨_, vs, rfl, e, hv, rv⟩
theorem RS.setLst (rs : RS K mg B φ H st) {n : Nat} {a : Addr} {vs : List V} {xs : List D} (hn : φ[n]? = some a) (r : RDs K B φ H vs xs) : RS K mg B φ (L2.upd H a (.lst vs)) (st.set n (.lst xs)) ∧ Go φ B H φ B (L2.upd H a (.lst vs)) :=
  rs.write hn trivial fun H1 f e => ⟨vs, e, RDs.map f r⟩
theorem RS.setDct (rs : RS K mg B φ H st) {n : Nat} {a : Addr} {vs : List (Key × V)} {xs : List (D × D)} (hn : φ[n]? = some a) (r : RKv K B φ H keyD vs xs) : RS K mg B φ (L2.upd H a (.dK vs)) (st.set n (.dct xs)) ∧ Go φ B H φ B (L2.upd H a (.dK vs)) :=
  rs.write hn trivial fun H1 f e => ⟨vs, e, r.on f⟩
end
def tSetAny (K : Frag) (mg : Str → Option Value) : TSet := fun o i v H Q => ∃ B φ st d k z st', RS K mg B φ H st ∧ RD K B φ H o d ∧ RD K B φ H i k ∧ RD K B φ H v z ∧ setIx st d k z = some st' ∧ ∀ B' φ' H', Go φ B H φ' B' H' → RS K mg B' φ' H' st' → Q H'
def tGetAny (K : Frag) (mg : Str → Option Value) : V → V → Hp → VK → Prop := fun o i H Q => ∃ B φ st d k z, RS K mg B φ H st ∧ RD K B φ H o d ∧ RD K B φ H i k ∧ getIx st d k = some z ∧ ∀ v, RD K B φ H v z → Q v H
section
variable {X : Cx}
theorem set_any (hu : X.A.units + 1 < cLine) : PSet X (tSetAny X.K X.mg) := by
  intro pins s σ H o i v ov iv u Q I ro ri rv ⟨B, φ, st, d, k, z, st', rs, r1, r2, r3, hz, fin⟩
  unfold setIx at hz
  split at hz
  · rename_i n
    split at hz
    · rename_i xs hs
      split at hz
      · rename_i j
        cases r2
        obtain ⟨a, vs, rfl, e, hH, q⟩ := loc_lst rs r1 hs
        cases hj : ix? xs.length j with
        | none => rw [hj] at hz; cases hz
        | some m =>
          rw [hj] at hz
          cases hz
          obtain ⟨rs', g⟩ := rs.setLst e (q.set r3 m)
          exact set_list pins s σ H _ _ v ov iv u Q I ro ri rv ⟨a, vs, j, m, rfl, rfl, hH, by rw [ix_eq, q.length]; exact hj, fin _ _ _ g rs'⟩
      · cases hz
    · rename_i kvs hs
      split at hz
      · rename_i hk
        cases hz
        obtain ⟨a, vs, rfl, e, hH, q⟩ := loc_dct rs r1 hs
        obtain ⟨κ, rfl, rfl, okk⟩ := key_of_isKey r2 hk.1
        obtain ⟨rs', g⟩ := rs.setDct e (q.put okk r3)
        exact set_dict hu pins s σ H _ _ v ov iv u Q I ro ri rv ⟨a, _, rfl, DPut.k hH (by rw [q.length]; exact hk.2), fin _ _ _ g rs'⟩
      · cases hz
    · cases hz
  · cases hz
theorem get_any (hu : X.A.units + 1 < cLine) : PGet X (tGetAny X.K X.mg) := by
  intro pins s σ H o i ov iv Q I ro ri ⟨B, φ, st, d, k, z, rs, r1, r2, hz, fin⟩
  unfold getIx at hz
  split at hz
  · rename_i n
    split at hz
    · rename_i xs hs
      split at hz
      · rename_i j
        cases r2
        obtain ⟨a, vs, rfl, e, hH, q⟩ := loc_lst rs r1 hs
        cases hj : ix? xs.length j with
        | none => rw [hj] at hz; cases hz
        | some m =>
          rw [hj, Option.bind_some] at hz
          obtain ⟨v, hv, rv⟩ := q.get hz
          have hat : atI vs j = some v := by
            unfold atI
            rw [ix_eq, q.length, hj, Option.bind_some, hv]
          cases ro
          obtain ⟨t, rfl⟩ := ri
          obtain ⟨its, r, pl, hz⟩ := I.list (SqL.of hH)
          obtain ⟨j', h1, h2, h3, h4, h5⟩ := atI_get hat
          obtain ⟨w, ew, rw'⟩ := r.get h2
          have hl := r.length
          have hn := line63
          have fin' : EP X pins σ Q w s := ⟨v, H, I, rw', fin v rv⟩
          by_cases h0 : 0 ≤ j
          · have hj : j.toNat = j' := by
              rw [seqIndex_of h0 h5] at h1
              exact Option.some.inj h1
            exact wpAny_getItem_list pl.isList h0 (by omega) (by rw [hj]; simpa using ew) fin'
          · have hj : (j + (its.toArray.size : Int)).toNat = j' := by
              rw [seqIndex_neg (by omega) h4] at h1
              rw [List.size_toArray, ← hl]
              exact Option.some.inj h1
            exact wpAny_getItem_list_neg pl.isList (by omega) (by rw [List.size_toArray] <;> omega) (by omega) (by rw [hj]; simpa using ew) fin'
      · cases hz
    · rename_i kvs hs
      obtain ⟨a, vs, rfl, e, hH, q⟩ := loc_dct rs r1 hs
      have hk : isKey k = true := by
        unfold getKv at hz
        cases hf : kvs.find? (fun p => keyEq p.1 k) with
        | none => rw [hf] at hz; cases hz
        | some p =>
          have := List.find?_some hf
          cases k <;> simp [keyEq] at this <;> rfl
      obtain ⟨κ, rfl, rfl, okk⟩ := key_of_isKey r2 hk
      obtain ⟨v, hv, rv⟩ := (q.get (κ := κ)).1 z hz
      cases ro
      refine d_getItem hu I (v := v) (by rw [← hv]; exact DGet.k hH) ri fun w' s' I' rw' => ⟨v, H, I', rw', fin v rv⟩
    · cases hz
  · cases hz
variable {a o i : Expr} {ca co ci : Ex} {pos p p2 tpos : Pos} {es : List Expr} {cs : Ax} {x : Str}
theorem Tr.noX {K : Frag} {mg : Str → Option Value} {α β : Type} {R : Rl α β} {c : Act α} {W : WX} {σ : L2.St} {H : Hp} {Q : β → Hp → Prop} {B : Addr → Prop} {φ : List Addr} {e : Env} {st st' : Store} {d : α} (re : REnv K B φ H σ e) (rs : RS K mg B φ H st) (h : c e st = some (.ok d, st'))
    (fin : ∀ v B' φ' H', Go φ B H φ' B' H' → RS K mg B' φ' H' st' → R B' φ' H' v d → Q v H') : Tr K mg R c W σ H Q := ⟨B, φ, e, st, _, _, re, rs, h, fin⟩
theorem rg_sub (hu : X.A.units + 1 < cLine) (ho : RE X o co) (hi : RE X i ci)
    (ha : ∀ v, assign (.Subscript o i pos) X.env v = (do
      let ov ← holding [v] (eval o X.env)
      let iv ← holding [v, ov] (eval i X.env)
      standAt pos
      holding [v, ov, iv] (setItem ov iv v)
      release [v, ov, iv] []) := by intro _; rfl) : RG X (.Subscript o i pos) (Sw.gSet co ci) := fun W tk =>
  (pg_sub (ho W tk) (hi W tk) (set_any hu) ha).imp fun v σ H Q ⟨B, φ, e, st, d, e', st', re, rs, rd, hc, fin⟩ => by
    unfold Sw.gSet at hc
    cases h1 : co e st with
    | none => rw [h1] at hc; cases hc
    | some p1 =>
      obtain ⟨q1, st1⟩ := p1
      rw [h1] at hc
      cases q1 with
      | error x => cases hc
      | ok x =>
        dsimp only at hc
        cases h2 : ci e st1 with
        | none => rw [h2] at hc; cases hc
        | some p2 =>
          obtain ⟨q2, st2⟩ := p2
          rw [h2] at hc
          cases q2 with
          | error y => cases hc
          | ok y =>
            dsimp only at hc
            cases h3 : setIx st2 x y d with
            | none => rw [h3] at hc; cases hc
            | some st3 =>
              rw [h3] at hc
              obtain ⟨rfl, rfl⟩ : e = e' ∧ st3 = st' := by cases hc; exact ⟨rfl, rfl⟩
              refine Tr.noX re rs h1 fun u B1 φ1 H1 g1 rs1 r1 => Tr.noX (REnv.go rs g1 re) rs1 h2 fun w B2 φ2 H2 g2 rs2 r2 => ?_
              have g12 := g1.trans g2
              exact ⟨B2, φ2, st2, x, y, d, st3, rs2, RD.go rs1 g2 r1, r2, RD.go rs g12 rd, h3, fun B3 φ3 H3 g3 rs3 => fin σ B3 φ3 H3 (g12.trans g3) rs3 (REnv.go rs (g12.trans g3) re)⟩
/-- x op= e, ints -/
def tIpI (K : Frag) (mg : Str → Option Value) (f : Store → D → D → Option D) : TIp := fun x y H Q => ∃ B φ st d e z, RS K mg B φ H st ∧ RD K B φ H x d ∧ RD K B φ H y e ∧ f st d e = some z ∧ ∀ v B' φ' H', Go φ B H φ' B' H' → RS K mg B' φ' H' st → RD K B' φ' H' v z → Q v H'
theorem ip_aAdd : PIp X .Add (tIpI X.K X.mg aAdd) := by
  intro pins s σ H x y v u Q I r1 r2 ⟨B, φ, st, d, e, z, rs, q1, q2, hz, fin⟩
  unfold aAdd at hz
  split at hz
  · cases hz; cases q1; cases q2
    exact ip_add pins s σ H _ _ v u Q I r1 r2 ⟨_, _, rfl, rfl, fin0 rs fin (.int _)⟩
  · cases hz
theorem ip_aSub : PIp X .Sub (tIpI X.K X.mg aSub) := by
  intro pins s σ H x y v u Q I r1 r2 ⟨B, φ, st, d, e, z, rs, q1, q2, hz, fin⟩
  unfold aSub at hz
  split at hz
  · cases hz; cases q1; cases q2
    exact ip_sub pins s σ H _ _ v u Q I r1 r2 ⟨_, _, rfl, rfl, fin0 rs fin (.int _)⟩
  · cases hz
theorem rs_aug {j : Nat} {op : Operator} {f : Store → D → D → Option D} {p' : Pos} (hN : X.N.Nodup) (hi : X.N[j]? = some x) (hx : Loc X.env.scope x) (ha : RE X a ca) (ho : PIp X op (tIpI X.K X.mg f))
    (hf : X.fn x = true ∨ X.env.scope.names.lookup x = some .local := by first | exact .inl rfl | exact .inr rfl | assumption) : RSt X (.AugAssign (.Name x p') op a pos) (sAug j f ca) := fun W tk =>
  (ps_aug hN hi hx (ha W tk) ho hf).imp fun D σ H ⟨B, φ, e, st, r, st', re, rs, hc, fin⟩ => by
    unfold sAug at hc
    split at hc
    · rename_i d0 hd0
      obtain ⟨v0, hv0, rv0⟩ := re.2 j d0 hd0
      refine ⟨v0, hv0, ?_⟩
      cases h1 : ca e st with
      | none => rw [h1] at hc; cases hc
      | some p1 =>
        obtain ⟨q1, st1⟩ := p1
        rw [h1] at hc
        cases q1 with
        | error y =>
          cases hc
          exact ⟨B, φ, e, st, _, _, re, rs, h1, fun cls dx B' φ' H' g rs' rx => fin cls dx σ B' φ' H' g rs' (REnv.go rs g re) rx⟩
        | ok d =>
          dsimp only at hc
          cases hf : f st1 d0 d with
          | none => rw [hf] at hc; cases hc
          | some z =>
            rw [hf] at hc
            cases hc
            exact Tr.noX re rs h1 fun u B1 φ1 H1 g1 rs1 r1 => ⟨B1, φ1, _, d0, d, z, rs1, RD.go rs g1 rv0, r1, hf, fun v B2 φ2 H2 g2 rs2 r2 => fin _ B2 φ2 H2 (g1.trans g2) rs2 ((REnv.go rs (g1.trans g2) re).set r2)⟩
    · cases hc
theorem rs_augS {op : Operator} {f : Store → D → D → Option D} (hu : X.A.units + 1 < cLine) (ho : RE X o co) (hi : RE X i ci) (he : RE X a ca) (hp : PIp X op (tIpI X.K X.mg f))
    (ha : ∀ ov iv new, augStore i ov iv new = (do holding [new, ov, iv] (setItem ov iv new); release [new, ov, iv] []; pure .next) := by intros; rfl) : RSt X (.AugAssign (.Subscript o i tpos) op a pos) (sAugS f co ci ca) := fun W tk =>
  (ps_augS (ho W tk) (hi W tk) (get_any hu) (he W tk) hp (set_any hu) ha).imp fun D σ H ⟨B, φ, e, st, r, st', re, rs, hc, fin⟩ => by
    unfold sAugS at hc
    cases h1 : co e st with
    | none => rw [h1] at hc; cases hc
    | some p1 =>
      obtain ⟨q1, st1⟩ := p1
      rw [h1] at hc
      cases q1 with
      | error x => cases hc
      | ok x =>
        dsimp only at hc
        cases h2 : ci e st1 with
        | none => rw [h2] at hc; cases hc
        | some p2 =>
          obtain ⟨q2, st2⟩ := p2
          rw [h2] at hc
          cases q2 with
          | error y => cases hc
          | ok y =>
            dsimp only at hc
            cases h3 : getIx st2 x y with
            | none => rw [h3] at hc; cases hc
            | some w =>
              rw [h3] at hc
              dsimp only at hc
              cases h4 : ca e st2 with
              | none => rw [h4] at hc; cases hc
              | some p4 =>
                obtain ⟨q4, st3⟩ := p4
                rw [h4] at hc
                cases q4 with
                | error y => cases hc
                | ok d =>
                  dsimp only at hc
                  cases h5 : f st3 w d with
                  | none => rw [h5] at hc; cases hc
                  | some z =>
                    rw [h5] at hc
                    dsimp only at hc
                    cases h6 : setIx st3 x y z with
                    | none => rw [h6] at hc; cases hc
                    | some st4 =>
                      rw [h6] at hc
                      cases hc
                      refine Tr.noX re rs h1 fun u B1 φ1 H1 g1 rs1 r1 => Tr.noX (REnv.go rs g1 re) rs1 h2 fun k B2 φ2 H2 g2 rs2 r2 => ?_
                      refine ⟨B2, φ2, st2, x, y, w, rs2, RD.go rs1 g2 r1, r2, h3, fun v3 r3 => ?_⟩
                      refine Tr.noX (REnv.go rs (g1.trans g2) re) rs2 h4 fun v4 B4 φ4 H4 g4 rs4 r4 => ?_
                      refine ⟨B4, φ4, st3, w, d, z, rs4, RD.go rs2 g4 r3, r4, h5, fun v5 B5 φ5 H5 g5 rs5 r5 => ?_⟩
                      have g24 := g4.trans g5
                      have gA := (g1.trans g2).trans g24
                      exact ⟨B5, φ5, st3, x, y, z, _, rs5, RD.go rs1 (g2.trans g24) r1, RD.go rs2 g24 r2, r5, h6, fun B6 φ6 H6 g6 rs6 => fin σ B6 φ6 H6 (gA.trans g6) rs6 (REnv.go rs (gA.trans g6) re)⟩
/-! ### methods -/
def VM (K : Frag) (mg : Str → Option Value) (g : Store → D → List D → Option (D × Store)) : V → List V → Hp → VK → Prop := fun x xs H Q =>
  ∃ B φ st d ds z st', RS K mg B φ H st ∧ RD K B φ H x d ∧ RDs K B φ H xs ds ∧ g st d ds = some (z, st') ∧ ∀ v B' φ' H', Go φ B H φ' B' H' → RS K mg B' φ' H' st' → RD K B' φ' H' v z → Q v H'
theorem tyV_of {K : Frag} {mg : Str → Option Value} {B : Addr → Prop} {φ : List Addr} {H : Hp} {st : Store} (rs : RS K mg B φ H st) {v : V} {d : D} {T : String} (r : RD K B φ H v d) (h : tyN st d = some T) (hT : T ∈ ["str", "list", "dict"]) : tyV K T v H := by
  cases r with
  | non => cases h; simp at hT
  | bl b => cases h; simp at hT
  | int i => cases h; simp at hT
  | str x _ => cases h; exact rfl
  | tup sq q => cases h; simp at hT
  | lst e _ _ => cases h; exact .inl ⟨rfl, _, SqL.of e⟩
  | scr _ => cases h
  | loc e =>
    rename_i a n
    cases hs : st[n]? with
    | none => simp [tyN, hs] at h
    | some c =>
      obtain ⟨b, e', rc⟩ := rs.at_ n _ hs
      rw [e] at e'
      cases e'
      cases c with
      | lst _ => simp only [tyN, hs] at h; cases h; obtain ⟨_, e2, _⟩ := rc; exact .inl ⟨rfl, _, SqL.of e2⟩
      | dct _ => simp only [tyN, hs] at h; cases h; obtain ⟨_, e2, _⟩ := rc; exact .inr (.inr (.inl ⟨rfl, .inl ⟨_, e2⟩⟩))
      | dtt _ => simp only [tyN, hs] at h; cases h; obtain ⟨_, e2, _⟩ := rc; exact .inr (.inr (.inl ⟨rfl, .inr ⟨_, e2⟩⟩))
      | ins _ _ => simp [tyN, hs] at h
theorem TrK.meth {K : Frag} {mg : Str → Option Value} {W : WX} {σ : L2.St} {H : Hp} {v : V} {T : String} {g : Store → D → List D → Option (D × Store)} {Q : VK} (hT : T ∈ ["str", "list", "dict"])
    (h : TrK K mg (RD K) (RD K) (fun x => (look fun st => if tyN st x = some T then some () else none : Act Unit).bind fun _ => cs.bind fun xs => fun _ st => (g st x xs).map fun p => (.ok p.1, p.2)) W v σ H Q) :
    tyV K T v H ∧ Tr K mg (RDs K) cs W σ H fun xs H2 => VM K mg g v xs H2 Q := by
  obtain ⟨B, φ, e, st, d, r, st', re, rs, r1, hc, fin⟩ := h
  unfold Act.bind at hc
  dsimp only at hc
  cases hl : (look fun st => if tyN st d = some T then some () else none : Act Unit) e st with
  | none => rw [hl] at hc; cases hc
  | some p =>
    obtain ⟨q, st1⟩ := p
    obtain ⟨z, rfl, rfl, hz⟩ := look_eq hl
    rw [hl] at hc
    dsimp only at hc
    have ty : tyN st1 d = some T := by
      by_cases h : tyN st1 d = some T
      · exact h
      · rw [if_neg h] at hz; cases hz
    refine ⟨tyV_of rs r1 ty hT, ?_⟩
    cases ha : cs e st1 with
    | none => rw [ha] at hc; cases hc
    | some p2 =>
      obtain ⟨q2, st2⟩ := p2
      rw [ha] at hc
      cases q2 with
      | error x =>
        cases hc
        exact ⟨B, φ, e, _, _, _, re, rs, ha, fin⟩
      | ok xs =>
        dsimp only at hc
        cases hg : g st2 d xs with
        | none => rw [hg] at hc; cases hc
        | some pz =>
          obtain ⟨z2, st3⟩ := pz
          rw [hg] at hc
          cases hc
          exact Tr.noX re rs ha fun ws B' φ' H' g' rs' rw' => ⟨B', φ', st2, d, xs, z2, st3, rs', RD.go rs g' r1, rw', hg, fun v B2 φ2 H2 g2 rs2 r2 => fin v B2 φ2 H2 (g'.trans g2) rs2 r2⟩
variable {T id : String} {name : Str} {apos cpos : Pos} {g : Store → D → List D → Option (D × Store)} {e : Expr}
theorem re_bm (pa : PlainAttrs T) (slot : Slot T name id) (hty : typeOf (.builtin id) = pure (.type "method_descriptor")) (hT : T ∈ ["str", "list", "dict"]) (hm : MtR X id (VM X.K X.mg g)) (ho : RE X o co) (ha : RA X (e :: es) cs)
    (hbase : attributeBase o name X.env (eval o X.env) = eval o X.env := by rfl)
    (hfew : ((backTo cpos (starEach (e :: es) X.env)).all (fun x => !x.1) && (backToKw cpos (keywordEach [] X.env)).all (fun x => x.1.isSome)
      && decide ((e :: es).length + ([] : List Keyword).length + (if ([] : List Keyword).isEmpty then 0 else 1) < 30)) = true := by rfl)
    (hline : (apos.endLine == cpos.line) = true := by rfl) (hs : starEach (e :: es) X.env = (false, eval e X.env) :: starEach es X.env := by rfl) (hplain : (backTo cpos (starEach es X.env)).any (·.1) = false := by rfl) :
    RE X (.Call (.Attribute o name apos) (e :: es) [] cpos) (eMeth T g co cs) := fun W tk =>
  (pe_bm pa slot hty hm (ho W tk) (ha W tk) hbase hfew hline hs hplain).imp fun σ H Q h => (Tr.bind h).mono fun v H1 h1 => h1.meth hT
theorem re_bm0 (pa : PlainAttrs T) (slot : Slot T name id) (hty : typeOf (.builtin id) = pure (.type "method_descriptor")) (hT : T ∈ ["str", "list", "dict"]) (hm : MtR X id (VM X.K X.mg g)) (ho : RE X o co)
    (hbase : attributeBase o name X.env (eval o X.env) = eval o X.env := by rfl) (hline : (apos.endLine == cpos.line) = true := by rfl) : RE X (.Call (.Attribute o name apos) [] [] cpos) (eMeth T g co aNil) := fun W tk =>
  (pe_bm0 pa slot hty hm (ho W tk) hbase hline).imp fun σ H Q h => (Tr.bind h).mono fun v H1 h1 => by
    obtain ⟨t, q⟩ := h1.meth hT
    refine ⟨t, ?_⟩
    obtain ⟨B, φ, e, st, r, st', re, rs, hc, fin⟩ := q
    unfold aNil at hc
    cases hc
    exact fin [] _ _ _ (.refl rs) rs .nil
theorem m_append : MtR X "list.append" (VM X.K X.mg mAppend) := by
  intro pins s σ H x xs v us Q I rx rxs ⟨B, φ, st, d, ds, z, st', rs, r, rr, hz, fin⟩
  unfold mAppend at hz
  split at hz
  · rename_i n y
    split at hz
    · rename_i ys hs
      split at hz
      · rename_i hl
        cases hz
        obtain ⟨a, vs, rfl, e, hH, q⟩ := loc_lst rs r hs
        obtain ⟨w, rfl, rw'⟩ := args1 rr
        obtain ⟨rs', g⟩ := rs.setLst e (q.append (.cons rw' .nil))
        exact mt_append pins s σ H _ _ v us Q I rx rxs ⟨a, vs, w, rfl, rfl, hH, by rw [q.length]; exact hl, fin _ _ _ _ g rs' .non⟩
      · cases hz
    · cases hz
  · cases hz
theorem m_extend : MtR X "list.extend" (VM X.K X.mg mExtend) := by
  intro pins s σ H x xs v us Q I rx rxs ⟨B, φ, st, d, ds, z, st', rs, r, rr, hz, fin⟩
  unfold mExtend at hz
  split at hz
  · rename_i n y
    split at hz
    · rename_i ys zs hs hy
      split at hz
      · rename_i hl
        cases hz
        obtain ⟨a, vs, rfl, e, hH, q⟩ := loc_lst rs r hs
        obtain ⟨w, rfl, rw'⟩ := args1 rr
        obtain ⟨b, ws, rfl, q2, hb⟩ := lst_cases rs rw' hy
        obtain ⟨rs', g⟩ := rs.setLst e (q.append q2)
        exact mt_extend pins s σ H _ _ v us Q I rx rxs ⟨a, b, vs, ws, rfl, rfl, hH, hb, by rw [q.length, q2.length]; exact hl, fin _ _ _ _ g rs' .non⟩
      · cases hz
    · cases hz
  · cases hz
theorem ix_bounds {n : Nat} {i : Int} {j : Nat} (h : ix? n i = some j) : seqIndex? i n = some j ∧ j < n ∧ -(n : Int) ≤ i ∧ i < n := ixN_seq h
theorem m_pop : MtR X "list.pop" (VM X.K X.mg mPop) := by
  intro pins s σ H x xs v us Q I rx rxs ⟨B, φ, st, d, ds, z, st', rs, r, rr, hz, fin⟩
  unfold mPop at hz
  split at hz
  · rename_i n
    split at hz
    · rename_i ys hs
      obtain ⟨a, vs, rfl, e, hH, q⟩ := loc_lst rs r hs
      cases rr
      cases hy : ys[ys.length - 1]? with
      | none => rw [hy] at hz; cases hz
      | some y =>
        rw [hy] at hz
        cases hz
        obtain ⟨w, hw, rw'⟩ := q.get hy
        obtain ⟨rs', g⟩ := rs.setLst e q.dropLast
        exact mt_pop pins s σ H _ _ v us Q I rx rxs ⟨a, vs, w, rfl, rfl, hH, by rw [q.length]; exact hw, fin _ _ _ _ g rs' (RD.go rs g rw')⟩
    · cases hz
  · rename_i n i
    split at hz
    · rename_i ys hs
      obtain ⟨a, vs, rfl, e, hH, q⟩ := loc_lst rs r hs
      obtain ⟨u1, rfl, ri⟩ := args1 rr
      cases ri
      cases hj : ix? ys.length i with
      | none => rw [hj] at hz; cases hz
      | some j =>
        rw [hj, Option.bind_some] at hz
        cases hy : ys[j]? with
        | none => rw [hy] at hz; cases hz
        | some y =>
          rw [hy] at hz
          cases hz
          obtain ⟨w, hw, rw'⟩ := q.get hy
          obtain ⟨rs', g⟩ := rs.setLst e (q.eraseIdx j)
          obtain ⟨h1, h2, h3, h4⟩ := ix_bounds hj
          have hl : vs.length ≤ sizeLine := (I.lstM hH).1
          have hn := line63
          have ql := q.length
          exact mt_popAt pins s σ H _ _ v us Q I rx rxs ⟨a, vs, i, j, w, rfl, rfl, hH, by omega, by omega, by rw [q.length]; exact h1, hw, fin _ _ _ _ g rs' (RD.go rs g rw')⟩
    · cases hz
  · cases hz
end
end Sw

/-! ListZip: list(zip(x, y)): the pairs that are given out stay. -/
set_option Elab.async false
set_option linter.all false
set_option maxRecDepth 100000
set_option maxHeartbeats 4000000
namespace Sw.LZ
open PySem PySem.Spec PyProof.Rows
theorem nolen_zip : typeLookup (.type "zip") "__len__" = pure none := by rw [typeLookup_type, builtinLookup_eq_fast]; kernel_rfl
theorem nohint_zip : typeLookup (.type "zip") "__length_hint__" = pure none := by rw [typeLookup_type, builtinLookup_eq_fast]; kernel_rfl
section
variable {prog : Program} {w : World} {A : Around} {E : Value → Shared → Prop} {s : Shared} {z TI TO i1 i2 T : Addr} {fp1 fp2 : List Addr} {n1 n2 i : Nat} {P1 P2 : Nat → Value → Prop} {St1 St2 : Nat → Heap → Prop} {f : Bool} {oT : Obj}
/-- next, while a pair is out -/
theorem held_item {Q : Value → Shared → Prop} (S : ZipSep2 z TI TO i1 i2 fp1 fp2) (D1 : Draws prog w A i1 fp1 n1 P1 St1) (D2 : Draws prog w A i2 fp2 n2 P2 St2)
    (hz : IsZipHeld s.heap z TI TO T f) (hT : s.heap.get? T = some oT) (hTI : IsTupOf2 s.heap TI (.ref i1) (.ref i2)) (st1 : St1 i s.heap) (st2 : St2 i s.heap) (hlt1 : i < n1) (hlt2 : i < n2)
    (hQ : ∀ x1 x2 h' tk, P1 i x1 → P2 i x2 → IsZipHeld h' z TI TO T true → St1 (i + 1) h' → St2 (i + 1) h' → IsTupOf2 h' s.heap.objs.size x1 x2 → h'.objs.size = s.heap.objs.size + 1 →
      (∀ c o, c ≠ z → c ≠ i1 → c ≠ i2 → s.heap.get? c = some o → h'.get? c = some o) → Q (.ref s.heap.objs.size) { s with heap := h', toks := tk }) :
    wpAny (model prog w) A (Builtin.«zip.__next__» ⟨[.ref z], []⟩) (fun fin s' => ∃ v, fin = .done (.ret v) ∧ Q v s') E s := by
  obtain ⟨hp, g, d, tk0, os⟩ := s
  show wpAny _ _ (field (.ref z) 2 >>= _) _ _ _
  refine wpAny_bind (wpAny_field hz rfl (x := .bool false) rfl ?_)
  show wpAny _ _ (field (.ref z) 3 >>= _) _ _ _
  refine wpAny_bind (wpAny_field hz rfl (x := .ref TI) rfl ?_)
  refine wpAny_bind (wpAny_seqItems hTI rfl ?_)
  show wpAny _ _ (Builtin.SmallTypes.ownedTupleIsFree (.ref z) >>= _) _ _ _
  refine wpAny_bind (wpAny_tupleHeld_zip hz hT fun g0 hz0 hs0 => ?_)
  replace hs0 : Heap.SameBut z hp g0 := hs0
  simp only [Bool.false_eq_true, if_false]
  refine wpAny_bind ?_
  rw [← Array.forIn_toList]
  simp only [List.forIn_cons, List.forIn_nil]
  refine wpAny_bind (wpAny_bind (wpAny_holding ?_))
  show wpAny _ _ (Builtin.SmallTypes.nextOf (.ref i1) >>= _) _ _ ⟨g0, g, d, tk0, os⟩
  refine wpAny_bind (D1.item i _ _ _ hlt1 (D1.over st1 hs0 S.zf1) fun x1 p1 tk1 hx1 sn1 hp1 => wpAny_pure ?_)
  replace hp1 : Heap.SameBut i1 g0 p1 := hp1
  refine wpAny_pure ?_
  refine wpAny_bind (wpAny_bind (wpAny_holding ?_))
  show wpAny _ _ (Builtin.SmallTypes.nextOf (.ref i2) >>= _) _ _ ⟨p1, g, d, tk1, os⟩
  refine wpAny_bind (D2.item i _ _ _ hlt2 (D2.over (D2.over st2 hs0 S.zf2) hp1 S.sep1_2) fun x2 p2 tk2 hx2 sn2 hp2 => wpAny_pure ?_)
  replace hp2 : Heap.SameBut i2 p1 p2 := hp2
  refine wpAny_pure (wpAny_pure ?_)
  show wpAny _ _ (newTuple [x1, x2] >>= _) _ _ ⟨p2, g, d, tk2, os⟩
  refine wpAny_bind (wpAny_newTuple ?_)
  have hsz : p2.objs.size = hp.objs.size := by rw [hp2.1, hp1.1, hs0.1]
  have hzz : IsZipHeld p2 z TI TO T true := hp2.extBut _ _ S.zi2 (hp1.extBut _ _ S.zi1 hz0)
  have hkk : ∀ c o, c ≠ z → c ≠ i1 → c ≠ i2 → hp.get? c = some o → p2.get? c = some o := fun c o cz c1 c2 e => hp2.extBut _ _ c2 (hp1.extBut _ _ c1 (hs0.extBut _ _ cz e))
  have hj1 : St1 (i + 1) p2 := D1.over sn1 hp2 S.sep2_1
  refine wpAny_pure ⟨_, rfl, ?_⟩
  show Q (.ref p2.objs.size) _
  have hpr : IsTupOf2 (p2.push { cls := .type "tuple", data := .seq #[x1, x2] }) p2.objs.size x1 x2 := Heap.get?_push_size _ rfl
  have hz4 : (p2.push { cls := .type "tuple", data := .seq #[x1, x2] }).objs.size = p2.objs.size + 1 := Heap.size_push ..
  rw [hsz] at hpr hz4 ⊢
  exact hQ x1 x2 _ tk2 hx1 hx2 (Heap.get?_push_of_some _ hzz) (D1.frame _ _ _ hj1 fun b _ o e => Heap.get?_push_of_some _ e) (D2.frame _ _ _ sn2 fun b _ o e => Heap.get?_push_of_some _ e) hpr hz4 fun c o c1 c2 c3 e => Heap.get?_push_of_some _ (hkk c o c1 c2 c3 e)
theorem held_end {Q : PySem.Fin → Shared → Prop} (S : ZipSep2 z TI TO i1 i2 fp1 fp2) (D1 : Draws prog w A i1 fp1 n1 P1 St1) (D2 : Draws prog w A i2 fp2 n2 P2 St2)
    (hz : IsZipHeld s.heap z TI TO T f) (hT : s.heap.get? T = some oT) (hTI : IsTupOf2 s.heap TI (.ref i1) (.ref i2)) (st1 : St1 i s.heap) (st2 : St2 i s.heap) (hle1 : i ≤ n1) (hle2 : i ≤ n2) (hend : i = n1 ∨ i = n2)
    (hE : ∀ h' tk e, (∀ c o, c ≠ z → c ≠ i1 → c ≠ i2 → s.heap.get? c = some o → h'.get? c = some o) → (∃ o, h'.get? e = some o ∧ o.cls = .type "StopIteration") → E (.ref e) { s with heap := h', toks := tk }) :
    wpAny (model prog w) A (Builtin.«zip.__next__» ⟨[.ref z], []⟩) Q E s := by
  obtain ⟨hp, g, d, tk0, os⟩ := s
  show wpAny _ _ (field (.ref z) 2 >>= _) _ _ _
  refine wpAny_bind (wpAny_field hz rfl (x := .bool false) rfl ?_)
  show wpAny _ _ (field (.ref z) 3 >>= _) _ _ _
  refine wpAny_bind (wpAny_field hz rfl (x := .ref TI) rfl ?_)
  refine wpAny_bind (wpAny_seqItems hTI rfl ?_)
  show wpAny _ _ (Builtin.SmallTypes.ownedTupleIsFree (.ref z) >>= _) _ _ _
  refine wpAny_bind (wpAny_tupleHeld_zip hz hT fun g0 hz0 hs0 => ?_)
  replace hs0 : Heap.SameBut z hp g0 := hs0
  simp only [Bool.false_eq_true, if_false]
  refine wpAny_bind ?_
  rw [← Array.forIn_toList]
  simp only [List.forIn_cons, List.forIn_nil]
  refine wpAny_bind (wpAny_bind (wpAny_holding ?_))
  show wpAny _ _ (Builtin.SmallTypes.nextOf (.ref i1) >>= _) _ _ ⟨g0, g, d, tk0, os⟩
  have t1 := D1.over st1 hs0 S.zf1
  have t2 := D2.over st2 hs0 S.zf2
  by_cases h1 : i = n1
  · subst h1
    refine wpAny_bind (D1.done _ _ _ t1 fun h2 e hx he => ?_)
    exact hE h2 tk0 e (fun c o c1 c2 _ x => hx _ _ c2 (hs0.extBut _ _ c1 x)) he
  · have h2 : i = n2 := hend.resolve_left h1
    subst h2
    refine wpAny_bind (D1.item i _ _ _ (by omega) t1 fun x1 p1 tk1 hx1 sn1 hp1 => wpAny_pure ?_)
    replace hp1 : Heap.SameBut i1 g0 p1 := hp1
    refine wpAny_pure ?_
    refine wpAny_bind (wpAny_bind (wpAny_holding ?_))
    show wpAny _ _ (Builtin.SmallTypes.nextOf (.ref i2) >>= _) _ _ ⟨p1, g, d, tk1, os⟩
    refine wpAny_bind (D2.done _ _ _ (D2.over t2 hp1 S.sep1_2) fun h3 e hx he => ?_)
    exact hE h3 tk1 e (fun c o c1 c2 c3 x => hx _ _ c3 (hp1.extBut _ _ c2 (hs0.extBut _ _ c1 x))) he
theorem pyNext_held_item {Q : Option Value → Shared → Prop} (S : ZipSep2 z TI TO i1 i2 fp1 fp2) (D1 : Draws prog w A.in1 i1 fp1 n1 P1 St1) (D2 : Draws prog w A.in1 i2 fp2 n2 P2 St2)
    (hz : IsZipHeld s.heap z TI TO T f) (hT : s.heap.get? T = some oT) (hTI : IsTupOf2 s.heap TI (.ref i1) (.ref i2)) (st1 : St1 i s.heap) (st2 : St2 i s.heap) (hlt1 : i < n1) (hlt2 : i < n2)
    (hQ : ∀ x1 x2 h' tk, P1 i x1 → P2 i x2 → IsZipHeld h' z TI TO T true → St1 (i + 1) h' → St2 (i + 1) h' → IsTupOf2 h' s.heap.objs.size x1 x2 → h'.objs.size = s.heap.objs.size + 1 →
      (∀ c o, c ≠ z → c ≠ i1 → c ≠ i2 → s.heap.get? c = some o → h'.get? c = some o) → Q (some (.ref s.heap.objs.size)) { s with heap := h', toks := tk }) :
    wpAny (model prog w) A (pyNext (.ref z)) Q E s := by
  have hTy : s.TypeIs (.ref z) "zip" := ⟨_, hz, rfl⟩
  unfold pyNext
  exact wpAny_bind (wpAny_attempt (wpAny_callSpecial?_slot (name := Str.ofString "__next__") hTy PySem.F.slot_zip_next
    (wpAny_call_entry PySem.F.slot_zip_next hTy PySem.F.entry_zip_next
      (held_item S D1 D2 hz hT hTI st1 st2 hlt1 hlt2 fun x1 x2 h' tk a1 a2 a3 a4 a5 a6 a7 a8 => wpAny_pure (hQ x1 x2 h' tk a1 a2 a3 a4 a5 a6 a7 a8)) (PySem.F.args_zip_next_1 _))))
theorem pyNext_held_end {Q : Option Value → Shared → Prop} (S : ZipSep2 z TI TO i1 i2 fp1 fp2) (D1 : Draws prog w A.in1 i1 fp1 n1 P1 St1) (D2 : Draws prog w A.in1 i2 fp2 n2 P2 St2)
    (hz : IsZipHeld s.heap z TI TO T f) (hT : s.heap.get? T = some oT) (hTI : IsTupOf2 s.heap TI (.ref i1) (.ref i2)) (st1 : St1 i s.heap) (st2 : St2 i s.heap) (hle1 : i ≤ n1) (hle2 : i ≤ n2) (hend : i = n1 ∨ i = n2)
    (hQ : ∀ h' tk, (∀ c o, c ≠ z → c ≠ i1 → c ≠ i2 → s.heap.get? c = some o → h'.get? c = some o) → Q none { s with heap := h', toks := tk }) : wpAny (model prog w) A (pyNext (.ref z)) Q E s := by
  have hTy : s.TypeIs (.ref z) "zip" := ⟨_, hz, rfl⟩
  unfold pyNext
  refine wpAny_bind (wpAny_attempt (wpAny_callSpecial?_slot (name := Str.ofString "__next__") hTy PySem.F.slot_zip_next
    (wpAny_call_entry PySem.F.slot_zip_next hTy PySem.F.entry_zip_next (held_end S D1 D2 hz hT hTI st1 st2 hle1 hle2 hend fun h' tk e hk he => ?_) (PySem.F.args_zip_next_1 _))))
  obtain ⟨o, ho, hc⟩ := he
  refine wpAny_bind (wpAny_isInstance (T := "StopIteration") (b := true) ⟨o, ho, hc⟩ isSubtype_stop ?_)
  exact wpAny_pure (hQ _ _ hk)
end
/-- how the zip stands behind i pairs; b: what was made since the walk began stands at b or above -/
def ZS (z TI TO i1 i2 : Addr) (St1 St2 : Nat → Heap → Prop) (b : Addr) (i : Nat) (h : Heap) : Prop :=
  IsTupOf2 h TI (.ref i1) (.ref i2) ∧ St1 i h ∧ St2 i h ∧ ((IsZip h z TI TO .none ∧ ∃ a1 a2, IsTupOf2 h TO a1 a2) ∨ ∃ T f oT, IsZipHeld h z TI TO T f ∧ h.get? T = some oT ∧ b ≤ T)
def Prs (P1 P2 : Nat → Value → Prop) (Ts : List Addr) (h : Heap) : Prop := ∀ (j : Nat) (T : Addr), Ts[j]? = some T → ∃ x y, P1 j x ∧ P2 j y ∧ IsTupOf2 h T x y
theorem geNe {b c T : Addr} (h1 : b ≤ T) (h2 : c < b) : T ≠ c := fun e => Nat.lt_irrefl c (Nat.lt_of_lt_of_le h2 (e ▸ h1))
abbrev lstO (xs : Array Value) (c : Nat) : Obj := { cls := .type "list", dict := none, data := .seq xs c, slots := #[] }
section
variable {prog : Program} {w : World} {A : Around} {R : Result → Shared → Prop} {z TI TO i1 i2 : Addr} {fp1 fp2 : List Addr} {n1 n2 : Nat} {P1 P2 : Nat → Value → Prop} {St1 St2 : Nat → Heap → Prop}
theorem zip_loop (S : ZipSep2 z TI TO i1 i2 fp1 fp2) (D1 : Draws prog w A.in1.in1 i1 fp1 n1 P1 St1) (D2 : Draws prog w A.in1.in1 i2 fp2 n2 P2 St2) (L : Addr) (res : Value) (b : Addr)
    (hb : z < b ∧ TI < b ∧ TO < b ∧ L < b) (hb1 : ∀ c ∈ fp1, c < b) (hb2 : ∀ c ∈ fp2, c < b) (hL : L ≠ z ∧ L ≠ TI ∧ L ≠ TO ∧ L ∉ fp1 ∧ L ∉ fp2) (hn : min n1 n2 ≤ sizeLine) :
    ∀ (k i : Nat) (s : Shared) (acc : Array Value) (c : Nat) (Ts : List Addr), min n1 n2 - i = k → i ≤ min n1 n2 → ZS z TI TO i1 i2 St1 St2 b i s.heap → s.heap.get? L = some (lstO acc c) → acc.toList = Ts.map Value.ref → Ts.length = i →
      (∀ T ∈ Ts, b ≤ T) → Prs P1 P2 Ts s.heap → b ≤ s.heap.objs.size → Ts.Nodup →
      (∀ h' tk acc' c' Ts', h'.get? L = some (lstO acc' c') → acc'.toList = Ts'.map Value.ref → Ts'.length = min n1 n2 → (∀ T ∈ Ts', b ≤ T) → Ts'.Nodup → Prs P1 P2 Ts' h' → (∀ d o, d < b → d ≠ L → d ≠ z → d ≠ TO → d ≠ i1 → d ≠ i2 → s.heap.get? d = some o → h'.get? d = some o) →
        R (.ok (.ret res)) { s with heap := h', toks := tk }) →
      codeAny (model prog w) A (.builtin "list.extend.loop" ⟨[.ref L, .ref z, res], []⟩) R s := by
  have i1b : i1 < b := hb1 _ S.mem1
  have i2b : i2 < b := hb2 _ S.mem2
  have Li1 : L ≠ i1 := fun e => hL.2.2.2.1 (e ▸ S.mem1)
  have Li2 : L ≠ i2 := fun e => hL.2.2.2.2 (e ▸ S.mem2)
  intro k
  induction k with
  | zero =>
    intro i s acc c Ts hk hi zs hLs hacc hlen hTb hP hsz hnd hR
    have hin : i = min n1 n2 := by omega
    refine codeAny_builtin PySem.F.entry_extend_loop ?_
    rw [Around.under_plainId PySem.F.plain_extend_loop _]
    show wpAny _ A.in1 (pyNext (.ref z) >>= _) _ _ s
    obtain ⟨hTI, t1, t2, hz⟩ := zs
    have hend : i = n1 ∨ i = n2 := by omega
    rcases hz with ⟨hz, a1, a2, hTO⟩ | ⟨T, f, oT, hz, hT, hTb'⟩
    · refine wpAny_bind (wpAny_pyNext_zipD2_end S D1 D2 hz hTI hTO t1 t2 (by omega) (by omega) hend fun h' tk hkp => ?_)
      refine wpAny_pure (hR h' tk acc c Ts (hkp _ _ hL.1 hL.2.2.1 Li1 Li2 hLs) hacc (by omega) hTb hnd (fun j T hj => ?_) fun d o hd d0 d1 d2 d3 d4 e => hkp _ _ d1 d2 d3 d4 e)
      obtain ⟨x, y, p1, p2, e⟩ := hP j T hj
      have := hTb T (List.mem_of_getElem? hj)
      exact ⟨x, y, p1, p2, hkp _ _ (geNe this hb.1) (geNe this hb.2.2.1) (geNe this i1b) (geNe this i2b) e⟩
    · refine wpAny_bind (pyNext_held_end S D1 D2 hz hT hTI t1 t2 (by omega) (by omega) hend fun h' tk hkp => ?_)
      refine wpAny_pure (hR h' tk acc c Ts (hkp _ _ hL.1 Li1 Li2 hLs) hacc (by omega) hTb hnd (fun j T hj => ?_) fun d o hd d0 d1 d2 d3 d4 e => hkp _ _ d1 d3 d4 e)
      obtain ⟨x, y, p1, p2, e⟩ := hP j T hj
      have := hTb T (List.mem_of_getElem? hj)
      exact ⟨x, y, p1, p2, hkp _ _ (geNe this hb.1) (geNe this i1b) (geNe this i2b) e⟩
  | succ k ih =>
    intro i s acc c Ts hk hi zs hLs hacc hlen hTb hP hsz hnd hR
    have hlt : i < min n1 n2 := by omega
    refine codeAny_builtin PySem.F.entry_extend_loop ?_
    rw [Around.under_plainId PySem.F.plain_extend_loop _]
    show wpAny _ A.in1 (pyNext (.ref z) >>= _) _ _ s
    obtain ⟨hTI, t1, t2, hz⟩ := zs
    have asz : acc.size = i := by rw [← Array.length_toList, hacc, List.length_map, hlen]
    -- behind the pair
    have go : ∀ x1 x2 h1 tk, P1 i x1 → P2 i x2 → (∃ T f oT, IsZipHeld h1 z TI TO T f ∧ h1.get? T = some oT ∧ b ≤ T) → St1 (i + 1) h1 → St2 (i + 1) h1 → IsTupOf2 h1 s.heap.objs.size x1 x2 → h1.objs.size = s.heap.objs.size + 1 →
        (∀ d o, d ≠ z → d ≠ TO → d ≠ i1 → d ≠ i2 → s.heap.get? d = some o → h1.get? d = some o) →
        wpAny (model prog w) A.in1 (updateSeq L (·.push (.ref s.heap.objs.size)) >>= fun _ => again (.builtin "list.extend.loop" ⟨[.ref L, .ref z, res], []⟩)) (fun fin s' => match fin with | .done f => R (.ok f) s' | .again c' => c'.quiet = true ∧ codeAny (model prog w) A c' R s') (fun e s' => R (.error e) s') { s with heap := h1, toks := tk } := by
      intro x1 x2 h1 tk hx1 hx2 ⟨T, f, oT, hz1, hT1, hTb1⟩ u1 u2 hpr hz4 hkp
      have hL1 := hkp _ _ hL.1 hL.2.2.1 Li1 Li2 hLs
      refine wpAny_bind (wpAny_updateSeq (s := { s with heap := h1, toks := tk }) hL1 rfl (wpAny_pure ⟨plainId_quiet PySem.F.plain_extend_loop _, ?_⟩) (by rw [asz]; omega) (by show (acc.push _).size ≤ sizeLine + 1; rw [Array.size_push, asz]; omega))
      have oth : ∀ d o, d ≠ L → h1.get? d = some o → (h1.update L (Obj.mapSeq (·.push (Value.ref s.heap.objs.size)))).get? d = some o := fun d o hd e => (Heap.get?_update_other _ _ (Ne.symm hd)).trans e
      have TL : T ≠ L := geNe hTb1 hb.2.2.2
      have big : ∀ {T : Addr}, b ≤ T → T ≠ L ∧ T ≠ z ∧ T ≠ TO ∧ T ≠ i1 ∧ T ≠ i2 := fun {T} h => ⟨geNe h hb.2.2.2, geNe h hb.1, geNe h hb.2.2.1, geNe h i1b, geNe h i2b⟩
      refine ih (i + 1) _ (acc.push (.ref s.heap.objs.size)) _ (Ts ++ [s.heap.objs.size]) (by omega) (by omega)
        ⟨oth _ _ hL.2.1.symm (hkp _ _ S.TIz S.TITO S.TIi1 S.TIi2 hTI), D1.frame _ _ _ u1 fun d hd o e => oth d o (fun q => hL.2.2.2.1 (q ▸ hd)) e, D2.frame _ _ _ u2 fun d hd o e => oth d o (fun q => hL.2.2.2.2 (q ▸ hd)) e, .inr ⟨T, f, oT, oth _ _ hL.1.symm hz1, oth _ _ TL hT1, hTb1⟩⟩
        (Heap.get?_update_self _ hL1 rfl) (by simp [hacc]) (by simp [hlen]) (fun T' hT' => ?_) (fun j T' hj => ?_) (by rw [Heap.size_update]; exact Nat.le_trans hsz (by rw [hz4]; exact Nat.le_succ _)) (by
          rw [List.nodup_append]
          refine ⟨hnd, by simp, fun a ha b' hb' e => ?_⟩
          have : b' = s.heap.objs.size := by simpa using hb'
          obtain ⟨j, hj⟩ := List.mem_iff_getElem?.mp ha
          obtain ⟨_, _, _, _, e1⟩ := hP j a hj
          exact Nat.ne_of_lt (Heap.lt_size e1) (e.trans this))
        fun h' tk' acc' c' Ts' q1 q2 q3 q4 q4n q5 q6 => hR h' tk' acc' c' Ts' q1 q2 q3 q4 q4n q5 fun d o hd d0 d1 d2 d3 d4 e => q6 d o hd d0 d1 d2 d3 d4 (oth d o d0 (hkp d o d1 d2 d3 d4 e))
      · rcases List.mem_append.mp hT' with h | h
        · exact hTb T' h
        · have : T' = s.heap.objs.size := by simpa using h
          rw [this]; exact hsz
      · by_cases hjl : j < Ts.length
        · rw [List.getElem?_append_left hjl] at hj
          obtain ⟨x, y, p1, p2, e⟩ := hP j T' hj
          obtain ⟨b1, b2, b3, b4, b5⟩ := big (hTb T' (List.mem_of_getElem? hj))
          exact ⟨x, y, p1, p2, oth _ _ b1 (hkp _ _ b2 b3 b4 b5 e)⟩
        · rw [List.getElem?_append_right (by omega)] at hj
          have j0 : j - Ts.length = 0 := by
            rcases Nat.eq_zero_or_pos (j - Ts.length) with h | h
            · exact h
            · rw [List.getElem?_eq_none (by simp; omega)] at hj; cases hj
          rw [j0] at hj
          have eT : T' = s.heap.objs.size := by simpa using hj.symm
          have ej : j = i := by omega
          subst eT ej
          exact ⟨x1, x2, hx1, hx2, oth _ _ (big hsz).1 hpr⟩
    rcases hz with ⟨hz, a1, a2, hTO⟩ | ⟨T, f, oT, hz, hT, hTb'⟩
    · refine wpAny_bind (wpAny_pyNext_zipD2_item S D1 D2 hz hTI hTO t1 t2 (by omega) (by omega) fun x1 x2 h1 tk q1 q2 q3 q4 q5 q6 q7 q8 q9 => ?_)
      exact go x1 x2 h1 tk q1 q2 ⟨_, false, _, q3, q7, hsz⟩ q5 q6 q7 q8 q9
    · refine wpAny_bind (pyNext_held_item S D1 D2 hz hT hTI t1 t2 (by omega) (by omega) fun x1 x2 h1 tk q1 q2 q3 q5 q6 q7 q8 q9 => ?_)
      have nT : ∀ c, c < b → T ≠ c := fun c hc => geNe hTb' hc
      exact go x1 x2 h1 tk q1 q2 ⟨T, true, _, q3, q9 _ _ (nT _ hb.1) (nT _ i1b) (nT _ i2b) hT, hTb'⟩ q5 q6 q7 q8 fun d o d1 d2 d3 d4 e => q9 d o d1 d3 d4 e
/-- list(zip) -/
theorem call_list_zip {E : Value → Shared → Prop} {s : Shared} {Q : Value → Shared → Prop} (S : ZipSep2 z TI TO i1 i2 fp1 fp2) (D1 : ∀ A' : Around, A'.handled = none → Draws prog w A' i1 fp1 n1 P1 St1) (D2 : ∀ A' : Around, A'.handled = none → Draws prog w A' i2 fp2 n2 P2 St2) (hh : A.handled = none)
    (hz : IsZip s.heap z TI TO .none) (hTI : IsTupOf2 s.heap TI (.ref i1) (.ref i2)) (hTO : ∃ a1 a2, IsTupOf2 s.heap TO a1 a2) (st1 : St1 0 s.heap) (st2 : St2 0 s.heap)
    (hb1 : ∀ c ∈ fp1, c < s.heap.objs.size) (hb2 : ∀ c ∈ fp2, c < s.heap.objs.size) (hn : min n1 n2 ≤ sizeLine)
    (hQ : ∀ h' tk acc c Ts, h'.get? s.heap.objs.size = some (lstO acc c) → acc.toList = Ts.map Value.ref → Ts.length = min n1 n2 → (∀ T ∈ Ts, s.heap.objs.size < T) → Ts.Nodup → Prs P1 P2 Ts h' →
      (∀ d o, d ≠ z → d ≠ TO → d ≠ i1 → d ≠ i2 → s.heap.get? d = some o → h'.get? d = some o) → Q (.ref s.heap.objs.size) { s with heap := h', toks := tk }) :
    wpAny (model prog w) A (call (.type "list") [.ref z]) Q E s := by
  have zl : z < s.heap.objs.size := Heap.lt_size hz
  have TIl : TI < s.heap.objs.size := Heap.lt_size hTI
  have TOl : TO < s.heap.objs.size := by obtain ⟨_, _, e⟩ := hTO; exact Heap.lt_size e
  have i1l := hb1 _ S.mem1
  have i2l := hb2 _ S.mem2
  refine callType_codes (Q₁ := fun obj s₁ => obj = .ref s.heap.objs.size ∧ s₁ = { s with heap := s.heap.push { cls := .type "list", data := .seq #[] } }) PySem.F.called_list (PySem.F.typeCall_list_1 _) PySem.F.entry_list_init
    (code_list_new _ ⟨rfl, rfl⟩) fun obj s₁ h₁ => ?_
  obtain ⟨rfl, rfl⟩ := h₁
  have hS : (s.heap.push { cls := .type "list", data := .seq #[] }).get? s.heap.objs.size = some { cls := .type "list", data := .seq #[] } := Heap.get?_push_size _ rfl
  have hzs : (s.heap.push { cls := .type "list", data := .seq #[] }).objs.size = s.heap.objs.size + 1 := Heap.size_push ..
  refine ⟨⟨_, hS, rfl⟩, PySem.F.args_list_init_2 _ _, ?_⟩
  have Sz : (s.heap.objs.size : Addr) ≠ z := Nat.ne_of_gt zl
  show wpAny _ A.in1.in1 (do let old ← Builtin.List.listItems (.ref s.heap.objs.size); Builtin.List.listUpdate (.ref s.heap.objs.size) (fun _ => #[]); letGo old.toList.reverse; Builtin.List.listExtendWith (.ref s.heap.objs.size) (.ref z) .none) _ _ _
  refine wpAny_bind ?_
  unfold Builtin.List.listItems
  refine wpAny_bind (wpAny_seqItems hS rfl (wpAny_pure ?_))
  show wpAny _ A.in1.in1 (updateSeq s.heap.objs.size (fun _ => #[]) >>= fun _ => letGo (#[] : Array Value).toList.reverse >>= fun _ => Builtin.List.listExtendWith (.ref s.heap.objs.size) (.ref z) .none) _ _ _
  refine wpAny_bind (wpAny_updateSeq hS rfl ?_)
  have hS₂ := Heap.get?_update_self (Obj.mapSeq (fun _ => (#[] : Array Value))) hS rfl
  generalize hg2 : (s.heap.push { cls := .type "list", data := .seq #[] }).update s.heap.objs.size (Obj.mapSeq (fun _ => (#[] : Array Value))) = g2 at hS₂
  have oth : ∀ d o, d ≠ s.heap.objs.size → s.heap.get? d = some o → g2.get? d = some o := fun d o hd e => by
    rw [← hg2]; exact (Heap.get?_update_other _ _ (Ne.symm hd)).trans (Heap.get?_push_of_some _ e)
  have g2s : g2.objs.size = s.heap.objs.size + 1 := by rw [← hg2, Heap.size_update, hzs]
  refine wpAny_bind (wpAny_letGo ?_)
  show wpAny _ A.in1.in1 (Builtin.List.listExtendWith (.ref s.heap.objs.size) (.ref z) .none) _ _ { s with heap := g2 }
  have hz2 : IsZip g2 z TI TO .none := oth _ _ (Ne.symm Sz) hz
  have hTy : ({ s with heap := g2 } : Shared).TypeIs (.ref z) "zip" := ⟨_, hz2, rfl⟩
  unfold Builtin.List.listExtendWith
  refine wpAny_bind (wpAny_typeOf hTy ?_)
  have h1 : Builtin.List.listSameRef (.ref s.heap.objs.size) (.ref z) = false := by simp [Builtin.List.listSameRef, Sz]
  have h2 : (Value.type "zip" == Value.type "list") = false := by decide
  have h3 : (Value.type "zip" == Value.type "tuple") = false := by decide
  simp only [h1, h2, h3, Bool.or_false, Bool.false_eq_true, if_false]
  refine wpAny_bind (wpAny_pyIter_zip (s := { s with heap := g2 }) hz2 ?_)
  refine wpAny_bind (wpAny_holding ?_)
  unfold Builtin.List.listLengthHint
  refine wpAny_bind (wpAny_specialOf hTy nolen_zip ?_)
  show wpAny _ A.in1.in1 (specialOf (Value.ref z) (Str.ofString "__length_hint__") >>= _) _ _ _
  refine wpAny_bind (wpAny_specialOf hTy nohint_zip ?_)
  refine wpAny_pure ?_
  show wpAny _ A.in1.in1 (rule "list.extend.makes-room" >>= fun _ => Builtin.List.listTouch (.ref s.heap.objs.size) >>= fun _ =>
    again (.builtin "list.extend.loop" ⟨[.ref s.heap.objs.size, .ref z, .none], []⟩)) _ _ _
  refine wpAny_bind (wpAny_rule ?_)
  refine wpAny_bind ?_
  show wpAny _ A.in1.in1 (updateSeq s.heap.objs.size (·.push .none) >>= fun _ => updateSeq s.heap.objs.size (·.pop)) _ _ { s with heap := g2 }
  refine wpAny_bind (wpAny_updateSeq (s := { s with heap := g2 }) hS₂ rfl ?_)
  have hS₃ := Heap.get?_update_self (Obj.mapSeq (·.push Value.none)) hS₂ rfl
  refine wpAny_updateSeq (hz := by seq_fits) hS₃ rfl ?_
  have hS₄ := Heap.get?_update_self (Obj.mapSeq (·.pop)) hS₃ rfl
  generalize hg3 : (g2.update s.heap.objs.size (Obj.mapSeq (·.push Value.none))).update s.heap.objs.size (Obj.mapSeq (·.pop)) = g3 at hS₄
  have oth3 : ∀ d o, d ≠ s.heap.objs.size → s.heap.get? d = some o → g3.get? d = some o := fun d o hd e => by
    rw [← hg3]; exact (Heap.get?_update_other _ _ (Ne.symm hd)).trans ((Heap.get?_update_other _ _ (Ne.symm hd)).trans (oth d o hd e))
  have g3s : g3.objs.size = s.heap.objs.size + 1 := by rw [← hg3, Heap.size_update, Heap.size_update, g2s]
  have lt_ne : ∀ {d : Addr}, d < s.heap.objs.size → d ≠ s.heap.objs.size := fun h => Nat.ne_of_lt h
  have f1 : ∀ c ∈ fp1, ∀ o, s.heap.get? c = some o → g3.get? c = some o := fun c hc o e => oth3 c o (lt_ne (hb1 c hc)) e
  have f2 : ∀ c ∈ fp2, ∀ o, s.heap.get? c = some o → g3.get? c = some o := fun c hc o e => oth3 c o (lt_ne (hb2 c hc)) e
  refine wpAny_pure ⟨plainId_quiet PySem.F.plain_extend_loop _, zip_loop (A := A.in1) S (D1 _ hh) (D2 _ hh) s.heap.objs.size .none (s.heap.objs.size + 1)
    ⟨Nat.lt_succ_of_lt zl, Nat.lt_succ_of_lt TIl, Nat.lt_succ_of_lt TOl, Nat.lt_succ_self _⟩ (fun c hc => Nat.lt_succ_of_lt (hb1 c hc)) (fun c hc => Nat.lt_succ_of_lt (hb2 c hc))
    ⟨Sz, Nat.ne_of_gt TIl, Nat.ne_of_gt TOl, fun h => Nat.lt_irrefl _ (hb1 _ h), fun h => Nat.lt_irrefl _ (hb2 _ h)⟩ hn _ 0 { s with heap := g3 } #[] _ [] rfl (Nat.zero_le _)
    ⟨oth3 _ _ (lt_ne TIl) hTI, (D1 A hh).frame _ _ _ st1 f1, (D2 A hh).frame _ _ _ st2 f2, .inl ⟨oth3 _ _ (lt_ne zl) hz, by obtain ⟨a1, a2, e⟩ := hTO; exact ⟨a1, a2, oth3 _ _ (lt_ne TOl) e⟩⟩⟩
    hS₄ rfl rfl (fun T h => by simp at h) (fun j T h => by simp at h) (by show _ ≤ g3.objs.size; omega) (by simp) fun h' tk acc c Ts q1 q2 q3 q4 q4n q5 q6 => ?_⟩
  exact ⟨rfl, hQ h' tk acc c Ts q1 q2 q3 (fun T hT => q4 T hT) q4n q5 fun d o d1 d2 d3 d4 e => q6 d o (Nat.lt_succ_of_lt (Heap.lt_size e)) (lt_ne (Heap.lt_size e)) d1 d2 d3 d4 (oth3 d o (lt_ne (Heap.lt_size e)) e)⟩
end
end Sw.LZ

/-! Rules9: list(zip(x, y)), backwards, sorted. -/
set_option Elab.async false
set_option linter.all false
set_option maxRecDepth 100000
set_option maxHeartbeats 4000000
namespace Sw
open PySem PySem.Spec PyProof.Rows L2
/-- many things are laid at once -/
theorem inv_many {X : Cx} {pins : List (Addr × Obj)} {σ : L2.St} {H H' : Hp} {s : Shared} {h' : Heap} {tk : Nat} (I : Inv X pins σ H s) (hk : ∀ b o, s.heap.get? b = some o → h'.get? b = some o) (kp : ∀ b u, H b = some u → H' b = some u)
    (low : ∀ b, b < s.heap.objs.size → H' b = H b) (new : ∀ b u, H b = none → H' b = some u → ObjOk X.prog X.w H' h' b u) : Inv X pins σ H' { s with heap := h', toks := tk } := by
  refine I.call' (ch := []) rfl ⟨fun b o q _ _ _ => hk b o q, fun b o q _ _ _ => ⟨o.slots, hk b o q⟩, fun b o q n _ => ?_, fun b o q _ => ⟨o, hk b o q⟩, fun b xs q => kp b _ q, fun b o u q => kp b _ q, fun b ps q => ⟨#[], by rw [kp b _ q]; simp⟩⟩ (fun b u q => ?_) I.bare fun b z => by simp at z
  · rw [low b (Heap.lt_size q)]; exact n
  · cases hb : H b with
    | none => exact new b u hb q
    | some v =>
      have := kp b v hb
      rw [q] at this
      cases this
      exact (I.hok b u hb).stay (fun d v _ y => hk d v y) (fun d y => kp d _ y) fun d xs y => kp d _ y
/-- the heap with a list of pairs -/
def zipH (H : Hp) (L : Addr) (Ts : List Addr) (xs ys : List V) : Hp := fun b => if b = L then some (.lst (Ts.map V.ref)) else if b ∈ Ts then ((xs.zip ys)[Ts.idxOf b]?).map fun p => HO.tup [p.1, p.2] else H b
theorem idxOf_nodup {l : List Addr} (nd : l.Nodup) {j : Nat} {a : Addr} (h : l[j]? = some a) : l.idxOf a = j := nodupIx nd (idx_get (List.mem_of_getElem? h)) h
def rListZip (K : Frag) : List V → Hp → VK → Prop := fun vs H Q => ∃ (a b : Addr) (xs ys : List V), vs = [.ref a, .ref b] ∧ ((SqL K H a xs ∧ SqL K H b ys) ∨ (SqT K H a xs ∧ SqT K H b ys)) ∧
  ∀ (L : Addr) (Ts : List Addr), H L = none → (∀ T ∈ Ts, H T = none) → L ∉ Ts → Ts.Nodup → Ts.length = min xs.length ys.length → Q (.ref L) (zipH H L Ts xs ys)
theorem paired_back {α β : Type} {F : α → β → Prop} : ∀ {xs : List α} {us : List β} {i : Nat} {u : β}, Paired F xs us → us[i]? = some u → ∃ x, xs[i]? = some x ∧ F x u
  | _, _, _, _, .nil, e => by simp at e
  | _, _, 0, _, .cons r _, e => by simp at e; subst e; exact ⟨_, rfl, r⟩
  | _, _, i + 1, u, .cons _ t, e => by
    obtain ⟨x, h1, h2⟩ := paired_back (i := i) (u := u) t (by simpa using e)
    exact ⟨x, by simpa using h1, h2⟩
theorem vals_ref_map : ∀ as : List Addr, Vals (as.map V.ref) (as.map Value.ref)
  | [] => .nil
  | _ :: as => .cons rfl (vals_ref_map as)
section
variable {X : Cx} {a b c o : Expr} {ca cb cc : Ex} {ta : TA} {pos p p2 q : Pos}
theorem zip_laid {pins : List (Addr × Obj)} {σ : L2.St} {H : Hp} {s : Shared} {h' : Heap} {tk c : Nat} {L : Addr} {Ts : List Addr} {xs ys : List V} {us ws : List Value} {acc : Array Value} (I : Inv X pins σ H s) (rx : Vals xs us) (ry : Vals ys ws) (hx : xs.length ≤ sizeLine)
    (hk : ∀ b o, s.heap.get? b = some o → h'.get? b = some o) (hL : s.heap.objs.size ≤ L) (hT : ∀ T ∈ Ts, L < T) (nd : Ts.Nodup) (hl : Ts.length = min xs.length ys.length) (hS : h'.get? L = some (LZ.lstO acc c)) (hacc : acc.toList = Ts.map Value.ref)
    (hP : LZ.Prs (fun i v => us.toArray[i]? = some v) (fun i v => ws.toArray[i]? = some v) Ts h') : Inv X pins σ (zipH H L Ts xs ys) { s with heap := h', toks := tk } := by
  have hTs : ∀ T ∈ Ts, s.heap.objs.size ≤ T := fun T h => Nat.le_trans hL (Nat.le_of_lt (hT T h))
  refine inv_many I hk (fun b u e => ?_) (fun b hb => ?_) (fun b u e0 e => ?_)
  · have h1 : b ≠ L := fun z => by rw [z, I.hok.fresh hL] at e; cases e
    have h2 : b ∉ Ts := fun z => by rw [I.hok.fresh (hTs b z)] at e; cases e
    unfold zipH
    rw [if_neg h1, if_neg h2]; exact e
  · have h1 : b ≠ L := fun z => Nat.lt_irrefl _ (Nat.lt_of_lt_of_le (z ▸ hb) hL)
    have h2 : b ∉ Ts := fun z => Nat.lt_irrefl _ (Nat.lt_of_lt_of_le hb (hTs b z))
    unfold zipH
    rw [if_neg h1, if_neg h2]
  · unfold zipH at e
    by_cases h1 : b = L
    · rw [if_pos h1] at e
      cases e
      rw [h1]
      refine ⟨by rw [List.length_map, hl]; exact Nat.le_trans (Nat.min_le_left _ _) hx, acc.toList, c, by rw [hacc]; exact vals_ref_map Ts, ?_⟩
      rw [Array.toArray_toList]
      exact hS
    · rw [if_neg h1] at e
      by_cases h2 : b ∈ Ts
      · rw [if_pos h2] at e
        have hj := idx_get h2
        obtain ⟨u1, u2, p1, p2, e3⟩ := hP _ _ hj
        obtain ⟨x, hx1, r1⟩ := paired_back rx (by simpa using p1)
        obtain ⟨y, hy1, r2⟩ := paired_back ry (by simpa using p2)
        have hz : (xs.zip ys)[Ts.idxOf b]? = some (x, y) := by rw [List.getElem?_zip_eq_some]; exact ⟨hx1, hy1⟩
        rw [hz] at e
        cases e
        exact ⟨by show 2 ≤ sizeLine; decide, [u1, u2], .cons r1 (.cons r2 .nil), ⟨_, e3, rfl, _, rfl⟩⟩
      · rw [if_neg h2, e0] at e
        cases e
theorem pe_listzip (hc : X.calm = true) (hg : Gl X "list") (hm : X.mg "list" = none) (hg2 : Gl X "zip") (hm2 : X.mg "zip" = none) (ha : PA X [a, b] ta)
    (hs : starEach [a, b] X.env = (false, eval a X.env) :: starEach [b] X.env := by rfl) (hpl : (backTo q (starEach [b] X.env)).any (·.1) = false := by rfl)
    (hs2 : starEach [.Call (.Name "zip" p2) [a, b] [] q] X.env = (false, eval (.Call (.Name "zip" p2) [a, b] [] q) X.env) :: starEach [] X.env := by rfl) :
    PE X (.Call (.Name "list" p) [.Call (.Name "zip" p2) [a, b] [] q] [] pos) (fun σ H Q => ta σ H fun vs H1 => rListZip X.K vs H1 Q) := by
  refine ⟨fun pins s σ H Q I h => ?_⟩
  refine Call_ (ld_blt I hg hm PyProof.Rows.boot_list ?_)
  refine PyProof.Rows.callWith_type1 (PyProof.Rows.args_cons ?_ hs2) hs2 rfl
  refine Call_ (ld_blt I hg2 hm2 PyProof.Rows.boot_zip (PyProof.Rows.callWith_type1 (thn (ha.run q pins s σ H _ I h) fun us s1 ⟨vs, H1, I1, r1, q1⟩ => ?_) hs hpl))
  obtain ⟨a, b, xs, ys, ex, alt, q1⟩ := q1
  subst ex
  have hh := I1.ok.hd hc
  cases r1 with
  | cons r rr =>
    cases rr with
    | cons r' rr =>
      cases rr
      cases r
      cases r'
      have nz : s1.heap.objs.size + 4 ∉ [s1.heap.objs.size] := by simp
      rcases alt with ⟨ha1, hb1⟩ | ⟨ha1, hb1⟩
      · obtain ⟨its, rv, p1, hz1⟩ := I1.list ha1
        obtain ⟨its2, rv2, p2, hz2⟩ := I1.list hb1
        have l1 : a < s1.heap.objs.size := p1.lt
        have l2 : b < s1.heap.objs.size := p2.lt
        refine call_zip_2 p1.isList p2.isList fun h' hz hTI hTO h1 h2 hsz hk => PyProof.Rows.args_nil ?_
        have S := zip_sep2 (N := s1.heap.objs.size) (fp1 := [a]) (fp2 := [b]) (fun c hc => (List.mem_singleton.mp hc).symm ▸ l1) (fun c hc => (List.mem_singleton.mp hc).symm ▸ l2)
        refine LZ.call_list_zip (s := { s1 with heap := h' }) S (fun A' hA' => Draws.list hA' _ a (Nat.ne_of_lt l1) its.toArray) (fun A' hA' => Draws.list hA' _ b (Nat.ne_of_lt (Nat.lt_succ_of_lt l2)) its2.toArray) hh hz hTI ⟨_, _, hTO⟩ ⟨h1, p1.isList.at fun o e => hk _ o e⟩ ⟨h2, p2.isList.at fun o e => hk _ o e⟩
          (fun c hc => ?_) (fun c hc => ?_) ?_ fun h2' tk acc c Ts e1 e2 e3 e4 e5 e6 e7 => ?_
        · show c < h'.objs.size
          rw [hsz]
          rcases List.mem_cons.mp hc with z | z
          · rw [z]; exact Nat.lt_add_of_pos_right (by decide)
          · have : c = a := by simpa using z
            rw [this]; exact Nat.lt_of_lt_of_le l1 (Nat.le_add_right _ _)
        · show c < h'.objs.size
          rw [hsz]
          rcases List.mem_cons.mp hc with z | z
          · rw [z]; exact Nat.add_lt_add_left (by decide) _
          · have : c = b := by simpa using z
            rw [this]; exact Nat.lt_of_lt_of_le l2 (Nat.le_add_right _ _)
        · rw [List.size_toArray, ← rv.length]; exact Nat.le_trans (Nat.min_le_left _ _) hz1
        · have hk2 : ∀ d o, s1.heap.get? d = some o → h2'.get? d = some o := fun d o e => by
            have hd := Heap.lt_size e
            exact e7 d o (Nat.ne_of_lt (Nat.lt_of_lt_of_le hd (Nat.le_add_right _ _))) (Nat.ne_of_lt (Nat.lt_of_lt_of_le hd (Nat.le_add_right _ _))) (Nat.ne_of_lt hd) (Nat.ne_of_lt (Nat.lt_succ_of_lt hd)) (hk d o e)
          have hL : s1.heap.objs.size ≤ h'.objs.size := by rw [hsz]; exact Nat.le_add_right _ _
          have hlen : Ts.length = min xs.length ys.length := by rw [e3, List.size_toArray, List.size_toArray, ← rv.length, ← rv2.length]
          exact ⟨.ref h'.objs.size, _, zip_laid (s := s1) I1 rv rv2 hz1 hk2 hL e4 e5 hlen e1 e2 e6, rfl, q1 _ Ts (I1.hok.fresh hL) (fun T hT => I1.hok.fresh (Nat.le_trans hL (Nat.le_of_lt (e4 T hT)))) (fun hT => Nat.lt_irrefl _ (e4 _ hT)) e5 hlen⟩
      · obtain ⟨its, rv, p1, hz1⟩ := I1.tuple ha1
        obtain ⟨its2, rv2, p2, hz2⟩ := I1.tuple hb1
        obtain ⟨o1, ho1, _⟩ := id p1
        obtain ⟨o2, ho2, _⟩ := id p2
        have l1 : a < s1.heap.objs.size := Heap.lt_size ho1
        have l2 : b < s1.heap.objs.size := Heap.lt_size ho2
        refine RZ.call_zipT (show s1.heap.IsTuple a its.toArray from p1) (show s1.heap.IsTuple b its2.toArray from p2) fun h' hz hTI hTO h1 h2 hsz hk => PyProof.Rows.args_nil ?_
        have S := zip_sep2 (N := s1.heap.objs.size) (fp1 := [a]) (fp2 := [b]) (fun c hc => (List.mem_singleton.mp hc).symm ▸ l1) (fun c hc => (List.mem_singleton.mp hc).symm ▸ l2)
        refine LZ.call_list_zip (s := { s1 with heap := h' }) S (fun A' hA' => Draws.tuple hA' _ a (Nat.ne_of_lt l1) its.toArray) (fun A' hA' => Draws.tuple hA' _ b (Nat.ne_of_lt (Nat.lt_succ_of_lt l2)) its2.toArray) hh hz hTI ⟨_, _, hTO⟩
          ⟨h1, (show s1.heap.IsTuple a its.toArray from p1).at fun o e => hk _ o e⟩ ⟨h2, (show s1.heap.IsTuple b its2.toArray from p2).at fun o e => hk _ o e⟩
          (fun c hc => ?_) (fun c hc => ?_) ?_ fun h2' tk acc c Ts e1 e2 e3 e4 e5 e6 e7 => ?_
        · show c < h'.objs.size
          rw [hsz]
          rcases List.mem_cons.mp hc with z | z
          · rw [z]; exact Nat.lt_add_of_pos_right (by decide)
          · have : c = a := by simpa using z
            rw [this]; exact Nat.lt_of_lt_of_le l1 (Nat.le_add_right _ _)
        · show c < h'.objs.size
          rw [hsz]
          rcases List.mem_cons.mp hc with z | z
          · rw [z]; exact Nat.add_lt_add_left (by decide) _
          · have : c = b := by simpa using z
            rw [this]; exact Nat.lt_of_lt_of_le l2 (Nat.le_add_right _ _)
        · rw [List.size_toArray, ← rv.length]; exact Nat.le_trans (Nat.min_le_left _ _) hz1
        · have hk2 : ∀ d o, s1.heap.get? d = some o → h2'.get? d = some o := fun d o e => by
            have hd := Heap.lt_size e
            exact e7 d o (Nat.ne_of_lt (Nat.lt_of_lt_of_le hd (Nat.le_add_right _ _))) (Nat.ne_of_lt (Nat.lt_of_lt_of_le hd (Nat.le_add_right _ _))) (Nat.ne_of_lt hd) (Nat.ne_of_lt (Nat.lt_succ_of_lt hd)) (hk d o e)
          have hL : s1.heap.objs.size ≤ h'.objs.size := by rw [hsz]; exact Nat.le_add_right _ _
          have hlen : Ts.length = min xs.length ys.length := by rw [e3, List.size_toArray, List.size_toArray, ← rv.length, ← rv2.length]
          exact ⟨.ref h'.objs.size, _, zip_laid (s := s1) I1 rv rv2 hz1 hk2 hL e4 e5 hlen e1 e2 e6, rfl, q1 _ Ts (I1.hok.fresh hL) (fun T hT => I1.hok.fresh (Nat.le_trans hL (Nat.le_of_lt (e4 T hT)))) (fun hT => Nat.lt_irrefl _ (e4 _ hT)) e5 hlen⟩
end
end Sw

/-! Rules10: list(zip), backwards, sorted, dict comprehensions. -/
set_option Elab.async false
set_option linter.all false
set_option maxRecDepth 100000
set_option maxHeartbeats 4000000
namespace Sw
open PySem PySem.Spec PyProof.Rows L2
/-! ### more of the state -/
section
variable {K : Frag} {mg : Str → Option Value} {B B' : Addr → Prop} {φ φ' : List Addr} {H H' : Hp} {st st' : Store}
theorem RS.more (rs : RS K mg B φ H st) (kp : ∀ b u, H b = some u → H' b = some u) : RS K mg B φ H' st ∧ Go φ B H φ B H' := by
  have g : Go φ B H φ B H' := ⟨rs.sub, fun a o e _ => kp a o e, List.prefix_refl _, fun _ h => h, fun _ h => .inl h, fun _ h => .inl h⟩
  refine ⟨⟨rs.len, rs.nd, rs.sub, fun a ha e => ?_, fun n c e => ?_⟩, g⟩
  · cases h : H a with
    | none => exact rs.there a ha h
    | some u => rw [kp a u h] at e; cases e
  · obtain ⟨a, e1, rc⟩ := rs.at_ n c e
    obtain ⟨o, ho, _⟩ := rc.mut
    exact ⟨a, e1, rc.on (RD.go rs g) (RDs.go rs g) ((kp a o ho).trans ho.symm)⟩
theorem RDs.ofGet : ∀ {vs : List V} {ds : List D}, vs.length = ds.length → (∀ (j : Nat) (v : V) (d : D), vs[j]? = some v → ds[j]? = some d → RD K B φ H v d) → RDs K B φ H vs ds
  | [], [], _, _ => .nil
  | [], _ :: _, h, _ => by cases h
  | _ :: _, [], h, _ => by cases h
  | v :: vs, d :: ds, h, f => .cons (f 0 v d rfl rfl) (RDs.ofGet (by simpa using h) fun j v' d' h1 h2 => f (j + 1) v' d' (by simpa using h1) (by simpa using h2))
theorem zip_fin (rs : RS K mg B φ H st) {xs ys : List D} {vs ws : List V} {L : Addr} {Ts : List Addr} {Q : VK} (rx : RDs K B φ H vs xs) (ry : RDs K B φ H ws ys) (hL : H L = none) (hT : ∀ T ∈ Ts, H T = none) (nL : L ∉ Ts) (nd : Ts.Nodup) (hl : Ts.length = min vs.length ws.length)
    (fin : ∀ v B' φ' H', Go φ B H φ' B' H' → RS K mg B' φ' H' st → RD K B' φ' H' v (.lst (zipL xs ys)) → Q v H') : Q (.ref L) (zipH H L Ts vs ws) := by
  have kp : ∀ b u, H b = some u → zipH H L Ts vs ws b = some u := fun b u e => by
    unfold zipH
    rw [if_neg (fun z => by rw [z, hL] at e; cases e), if_neg (fun z => by rw [hT b z] at e; cases e)]; exact e
  obtain ⟨rs', g⟩ := rs.more kp
  have eL : zipH H L Ts vs ws L = some (.lst (Ts.map V.ref)) := by unfold zipH; rw [if_pos rfl]
  refine fin _ B φ _ g rs' (.lst eL (fun hb => rs.there L hb hL) (RDs.ofGet ?_ fun j v d h1 h2 => ?_))
  · rw [List.length_map, zipL_len, hl, rx.length, ry.length]
  · rw [List.getElem?_map] at h1
    cases hj : Ts[j]? with
    | none => rw [hj] at h1; cases h1
    | some T =>
      rw [hj] at h1
      cases h1
      obtain ⟨x, y, hx, hy, rfl⟩ := zipL_get h2
      obtain ⟨v, hv, rv⟩ := rx.get hx
      obtain ⟨w, hw, rw_⟩ := ry.get hy
      have eT : zipH H L Ts vs ws T = some (.tup [v, w]) := by
        unfold zipH
        rw [if_neg (fun z : T = L => nL (z ▸ List.mem_of_getElem? hj)), if_pos (List.mem_of_getElem? hj), idxOf_nodup nd hj]
        have hz : (vs.zip ws)[j]? = some (v, w) := by rw [List.getElem?_zip_eq_some]; exact ⟨hv, hw⟩
        rw [hz]; rfl
      exact .tup (SqT.of eT) (.cons (RD.go rs g rv) (.cons (RD.go rs g rw_) .nil))
end
section
variable {X : Cx} {a b c o : Expr} {ca cb cc : Ex} {ta : TA} {pos p p2 p3 q : Pos} {es : List Expr} {cs : Ax}
theorem re_listzip (hc : X.calm = true) (hg : Gl X "list") (hm : X.mg "list" = none) (hg2 : Gl X "zip") (hm2 : X.mg "zip" = none) (ha : RE X a ca) (hb : RE X b cb)
    (hs : starEach [a, b] X.env = (false, eval a X.env) :: starEach [b] X.env := by rfl) (hsb : starEach [b] X.env = (false, eval b X.env) :: starEach [] X.env := by rfl) (hpl : (backTo q (starEach [b] X.env)).any (·.1) = false := by rfl)
    (hs2 : starEach [.Call (.Name "zip" p2) [a, b] [] q] X.env = (false, eval (.Call (.Name "zip" p2) [a, b] [] q) X.env) :: starEach [] X.env := by rfl) :
    RE X (.Call (.Name "list" p) [.Call (.Name "zip" p2) [a, b] [] q] [] pos) (op2 vZipL ca cb) := fun W tk =>
  (pe_listzip hc hg hm hg2 hm2 (pa_cons (ha W tk) (pa_cons (hb W tk) pa_nil hsb) hs) hs hpl hs2).imp fun σ H Q h => (Tr.bind h).mono fun x H1 h1 => (TrK.bind mono_d h1).mono fun y H2 h2 => by
    obtain ⟨B, φ, st, d, e, z, rs, r1, r2, hz, fin⟩ := h2.v2
    unfold vZipL at hz
    have lists : (lstOf st d).bind (fun xs => (lstOf st e).map fun ys => D.lst (zipL xs ys)) = some z → rListZip X.K [x, y] H2 Q := fun hz => by
      cases hx : lstOf st d with
      | none => rw [hx] at hz; cases hz
      | some xs =>
        rw [hx, Option.bind_some] at hz
        cases hy : lstOf st e with
        | none => rw [hy] at hz; cases hz
        | some ys =>
          rw [hy] at hz
          cases hz
          obtain ⟨p, vs, rfl, q1, s1⟩ := lst_cases rs r1 hx
          obtain ⟨p', ws, rfl, q2, s2⟩ := lst_cases rs r2 hy
          exact ⟨p, p', vs, ws, rfl, .inl ⟨SqL.of s1, SqL.of s2⟩, fun L Ts e1 e2 e3 e4 e5 => zip_fin rs q1 q2 e1 e2 e3 e4 e5 fin⟩
    split at hz
    · cases hz
      cases r1 with | tup s1 q1 =>
      cases r2 with | tup s2 q2 =>
      exact ⟨_, _, _, _, rfl, .inr ⟨s1, s2⟩, fun L Ts e1 e2 e3 e4 e5 => zip_fin rs q1 q2 e1 e2 e3 e4 e5 fin⟩
    · exact lists hz
/-! ### sorted -/
theorem leS_iff (x y : Str) : leS x y = true ↔ x.cps.toList ≤ y.cps.toList := by
  unfold leS
  rw [ltCps_eq]
  simp
theorem leS_trans {x y z : Str} (h : leS x y = true) (h' : leS y z = true) : leS x z = true := by
  rw [leS_iff] at *
  exact List.le_trans h h'
theorem leS_total (x y : Str) : leS x y = true ∨ leS y x = true := by
  rw [leS_iff, leS_iff]
  exact List.le_total _ _
theorem str_ext {x y : Str} (h : x.cps.toList = y.cps.toList) : x = y := by
  obtain ⟨a⟩ := x
  obtain ⟨b⟩ := y
  exact congrArg Str.mk (Array.toList_inj.mp h)
theorem leS_anti {x y : Str} (h : leS x y = true) (h' : leS y x = true) : x = y := by
  rw [leS_iff] at *
  exact str_ext (List.le_antisymm h h')
theorem insS_perm (i : Str) : ∀ l : List Str, (insS i l).Perm (i :: l)
  | [] => .refl _
  | j :: r => by
    unfold insS
    split
    · exact .refl _
    · exact ((insS_perm i r).cons j).trans (.swap i j r)
theorem sortS_perm : ∀ l : List Str, (sortS l).Perm l
  | [] => .refl _
  | i :: r => (insS_perm i _).trans ((sortS_perm r).cons i)
theorem insS_sorted (i : Str) : ∀ {l : List Str}, l.Pairwise (fun a b => leS a b = true) → (insS i l).Pairwise (fun a b => leS a b = true)
  | [], _ => by simp [insS]
  | j :: r, h => by
    obtain ⟨h1, h2⟩ := List.pairwise_cons.mp h
    unfold insS
    split
    · rename_i hij
      exact List.pairwise_cons.mpr ⟨fun y hy => by
        rcases List.mem_cons.mp hy with e | e
        · rw [e]; exact hij
        · exact leS_trans hij (h1 y e), h⟩
    · rename_i hij
      refine List.pairwise_cons.mpr ⟨fun y hy => ?_, insS_sorted i h2⟩
      rcases List.mem_cons.mp ((insS_perm i r).mem_iff.mp hy) with e | e
      · rw [e]; exact (leS_total i j).resolve_left hij
      · exact h1 y e
theorem sortS_sorted : ∀ l : List Str, (sortS l).Pairwise (fun a b => leS a b = true)
  | [] => .nil
  | i :: r => insS_sorted i (sortS_sorted r)
theorem rising_pair : ∀ {l : List Str} {x : Str}, risingS x l = true → (x :: l).Pairwise (fun a b => leS a b = true)
  | [], x, _ => by simp
  | y :: r, x, h => by
    unfold risingS at h
    rw [Bool.and_eq_true] at h
    have ih := rising_pair h.2
    have hxy : leS x y = true := h.1
    refine List.pairwise_cons.mpr ⟨fun z hz => ?_, ih⟩
    rcases List.mem_cons.mp hz with e | e
    · rw [e]; exact hxy
    · exact leS_trans hxy ((List.pairwise_cons.mp ih).1 z e)
theorem sortedS_pair {l : List Str} (h : sortedS l = true) : l.Pairwise (fun a b => leS a b = true) := by
  cases l with
  | nil => exact .nil
  | cons x r => exact rising_pair h
theorem sortS_eq {l m : List Str} (h : m.Perm l) (hs : sortedS m = true) : m = sortS l :=
  List.Perm.eq_of_pairwise (le := fun a b => leS a b = true) (fun a b _ _ h1 h2 => leS_anti h1 h2) (sortedS_pair hs) (sortS_sorted l) (h.trans (sortS_perm l).symm)
theorem RDs.strs {K : Frag} {B : Addr → Prop} {φ : List Addr} {H : Hp} : ∀ {vs : List V} {ns : List Str}, RDs K B φ H vs (ns.map D.str) → vs = ns.map V.str ∧ ∀ x ∈ ns, strOk x
  | _, [], h => by cases h; exact ⟨rfl, by simp⟩
  | _, n :: ns, h => by
    cases h with
    | cons r t =>
      cases r with | str _ ok =>
      obtain ⟨e, f⟩ := RDs.strs t
      exact ⟨by rw [e]; rfl, fun x hx => by
        rcases List.mem_cons.mp hx with z | z
        · rw [z]; exact ok
        · exact f x z⟩
theorem rds_strs {K : Frag} {B : Addr → Prop} {φ : List Addr} {H : Hp} : ∀ {ns : List Str}, (∀ x ∈ ns, strOk x) → RDs K B φ H (ns.map V.str) (ns.map D.str)
  | [], _ => .nil
  | n :: ns, h => .cons (.str n (h n (by simp))) (rds_strs fun x hx => h x (List.mem_cons_of_mem _ hx))
theorem RKv.ints {K : Frag} {B : Addr → Prop} {φ : List Addr} {H : Hp} : ∀ {vs : List (Key × V)} {ds : List (D × D)} {ns : List Int}, RKv K B φ H keyD vs ds → ds.map (·.1) = ns.map D.int → vs.map (·.1) = ns.map Sum.inl
  | _, _, [], .nil, _ => rfl
  | _, _, _ :: _, .nil, h => by cases h
  | _, _, [], .cons _ _ _, h => by cases h
  | _, _, n :: ns, .cons (k := k) ok r t, h => by
    rw [List.map_cons, List.map_cons] at h
    injection h with h1 h2
    rw [List.map_cons, List.map_cons, RKv.ints t h2]
    cases k with
    | inl i => simp only [keyD] at h1; cases h1; rfl
    | inr x => simp only [keyD] at h1; cases h1
theorem RKv.strs {K : Frag} {B : Addr → Prop} {φ : List Addr} {H : Hp} : ∀ {vs : List (Key × V)} {ds : List (D × D)} {ns : List Str}, RKv K B φ H keyD vs ds → ds.map (·.1) = ns.map D.str → vs.map (·.1) = ns.map Sum.inr ∧ ∀ x ∈ ns, strOk x
  | _, _, [], .nil, _ => ⟨rfl, by simp⟩
  | _, _, _ :: _, .nil, h => by cases h
  | _, _, [], .cons _ _ _, h => by cases h
  | _, _, n :: ns, .cons (k := k) ok r t, h => by
    rw [List.map_cons, List.map_cons] at h
    injection h with h1 h2
    obtain ⟨e1, e2⟩ := RKv.strs t h2
    rw [List.map_cons, List.map_cons, e1]
    cases k with
    | inl i => simp only [keyD] at h1; cases h1
    | inr x =>
      simp only [keyD] at h1
      cases h1
      refine ⟨rfl, fun y hy => ?_⟩
      rcases List.mem_cons.mp hy with z | z
      · rw [z]; exact ok
      · exact e2 y z
theorem sortD_cases {xs : List D} {z : D} (h : sortD xs = some z) : (∃ ns, xs = ns.map D.int ∧ ns.length < 64 ∧ z = .lst ((sortI ns).map D.int)) ∨ ∃ ns, xs = ns.map D.str ∧ ns.length < 64 ∧ z = .lst ((sortS ns).map D.str) := by
  unfold sortD at h
  split at h
  · rename_i ns hn
    split at h
    · cases h; exact .inl ⟨ns, ints_eq hn, by assumption, rfl⟩
    · cases h
  · split at h
    · rename_i ns hn
      split at h
      · cases h; exact .inr ⟨ns, strs_eq hn, by assumption, rfl⟩
      · cases h
    · cases h
theorem c_sorted (hc : X.calm = true) : CallR X (.builtin "sorted") (VA X.K X.mg gSorted) := by
  intro pins s σ H xs us Q I rv ⟨B, φ, st, ds, z, rs, r, hz, fin⟩
  have lists : ∀ (d : D) (ys : List D), ds = [d] → lstOf st d = some ys → sortD ys = some z → wpAny (model X.prog X.w) X.A (call (.builtin "sorted") us) (EP X pins σ Q) X.xe s := fun d ys ed hs hzz => by
    subst ed
    obtain ⟨v, rfl, rd⟩ := args1 r
    obtain ⟨p, vs, rfl, q, sq⟩ := lst_cases rs rd hs
    rcases sortD_cases hzz with ⟨ns, rfl, hl, rfl⟩ | ⟨ns, rfl, hl, rfl⟩
    · have := q.ints
      subst this
      exact cr_sorted pins s σ H _ us Q I rv ⟨p, ns, rfl, SqL.of sq, hl, fun ns' p' pm pw hp => by
        rw [sortI_eq pm pw]; exact finL rs fin (rds_ints _) hp⟩
    · obtain ⟨rfl, ok⟩ := q.strs
      exact cr_sortedS pins s σ H _ us Q I rv ⟨p, ns, rfl, SqL.of sq, hl, fun ns' p' pm pw hp => by
        rw [sortS_eq pm pw]; exact finL rs fin (rds_strs fun x hx => ok x ((sortS_perm ns).mem_iff.mp hx)) hp⟩
  unfold gSorted at hz
  split at hz
  · rename_i n
    cases hs : st[n]? with
    | none => rw [hs] at hz; cases hz
    | some cell =>
      rw [hs] at hz
      cases cell with
      | lst ys => exact lists _ ys rfl (by simp [lstOf, hs]) hz
      | dct kvs =>
        obtain ⟨v, rfl, rd⟩ := args1 r
        obtain ⟨a, vs, rfl, e, hH, q⟩ := loc_dct rs rd hs
        rcases sortD_cases hz with ⟨ns, e1, hl, rfl⟩ | ⟨ns, e1, hl, rfl⟩
        · exact call_sortedDI hc pins s σ H _ us Q I rv ⟨a, vs, ns, rfl, .inl hH, q.ints e1, hl, fun ns' p' pm pw hp => by
            rw [sortI_eq pm pw]; exact finL rs fin (rds_ints _) hp⟩
        · obtain ⟨e2, ok⟩ := q.strs e1
          exact call_sortedD hc pins s σ H _ us Q I rv ⟨a, vs, ns, rfl, .inl hH, e2, hl, fun ns' p' pm pw hp => by
            rw [sortS_eq pm pw]; exact finL rs fin (rds_strs fun x hx => ok x ((sortS_perm ns).mem_iff.mp hx)) hp⟩
      | dtt _ => cases hz
      | ins _ _ => cases hz
  · rename_i ys
    exact lists _ ys rfl rfl hz
  · cases hz
/-! ### a list that may change, by list(..) -/
def VAS (K : Frag) (mg : Str → Option Value) (g : Store → List D → Option (D × Store)) : List V → Hp → VK → Prop := fun xs H Q =>
  ∃ B φ st ds z st', RS K mg B φ H st ∧ RDs K B φ H xs ds ∧ g st ds = some (z, st') ∧ ∀ v B' φ' H', Go φ B H φ' B' H' → RS K mg B' φ' H' st' → RD K B' φ' H' v z → Q v H'
theorem finC {K : Frag} {mg : Str → Option Value} {B : Addr → Prop} {φ : List Addr} {H : Hp} {st : Store} {vs : List V} {ds : List D} {Q : VK} {p : Addr} (rs : RS K mg B φ H st)
    (fin : ∀ v B' φ' H', Go φ B H φ' B' H' → RS K mg B' φ' H' (st ++ [.lst ds]) → RD K B' φ' H' v (.loc st.length) → Q v H') (r : RDs K B φ H vs ds) (hp : H p = none) : Q (.ref p) (upd H p (.lst vs)) := by
  obtain ⟨rs', g⟩ := rs.newCell (c := .lst ds) (o := .lst vs) hp trivial fun H1 f e1 => ⟨vs, e1, RDs.map f r⟩
  refine fin _ _ _ _ g rs' (.loc ?_)
  rw [List.getElem?_append_right (by rw [rs.len]; exact Nat.le_refl _), rs.len]
  simp
theorem c_listC : CallR X (.type "list") (VAS X.K X.mg gListC) := by
  intro pins s σ H xs us Q I rv ⟨B, φ, st, ds, z, st', rs, r, hz, fin⟩
  unfold gListC at hz
  split at hz
  · obtain ⟨v, rfl, rd⟩ := args1 r
    rename_i d
    cases hs : seq? st d with
    | none => rw [hs] at hz; cases hz
    | some ys =>
      rw [hs] at hz
      cases hz
      obtain ⟨p, vs, rfl, q, alt⟩ := seq_cases rs rd hs
      refine call_list_of pins s σ H _ us Q I rv ⟨p, vs, rfl, ?_, fun l hl => finC rs fin q hl⟩
      rcases alt with ⟨sq, _⟩ | ⟨sq, _⟩
      · exact .inr sq
      · exact .inl (SqL.of sq)
  · cases hz
theorem TrK.vAS {K : Frag} {mg : Str → Option Value} {W : WX} {σ : L2.St} {H : Hp} {g : Store → List D → Option (D × Store)} {xs : List V} {Q : VK} (h : TrK K mg (RDs K) (RD K) (fun d => fun _ st => (g st d).map fun p => (.ok p.1, p.2)) W xs σ H Q) : VAS K mg g xs H Q := by
  obtain ⟨B, φ, e, st, d, r, st', re, rs, r1, hc, fin⟩ := h
  dsimp only at hc
  cases hg : g st d with
  | none => rw [hg] at hc; cases hc
  | some p =>
    rw [hg] at hc
    cases hc
    exact ⟨B, φ, _, d, p.1, p.2, rs, r1, hg, fin⟩
theorem re_tyS {T : String} {x : Str} {g : Store → List D → Option (D × Store)} (hc : CallR X (.type T) (VAS X.K X.mg g)) (hg : Gl X x) (hm : X.mg x = none) (hv : bootBuiltins x = some (.type T)) (ha : RA X (a :: es) cs) (hn : x ≠ "__name__" := by decide) (hdb : (x == ("__debug__" : Str)) = false := by decide)
    (he : starEach (a :: es) X.env = (false, eval a X.env) :: starEach es X.env := by rfl) (hpl : (backTo pos (starEach es X.env)).any (·.1) = false := by rfl) : RE X (.Call (.Name x p) (a :: es) [] pos) (opAS g cs) := fun W tk =>
  (pe_callTy hc hg hm hv (ha W tk) hn hdb he hpl).imp fun σ H Q h => (Tr.bind h).mono fun xs H1 h1 => h1.vAS
end
end Sw

/-! Rules11: backwards, dict comprehensions, sorted(set(..)). -/
set_option Elab.async false
set_option linter.all false
set_option maxRecDepth 100000
set_option maxHeartbeats 4000000
namespace Sw
open PySem PySem.Spec PyProof.Rows L2
/-! ### x[::-1] -/
theorem filterMap_some {α β : Type} {f : α → Option β} {g : α → β} : ∀ {l : List α}, (∀ x ∈ l, f x = some (g x)) → l.filterMap f = l.map g
  | [], _ => rfl
  | x :: l, h => by
    rw [List.filterMap_cons, h x (by simp), List.map_cons, filterMap_some fun y hy => h y (List.mem_cons_of_mem _ hy)]
theorem pick_rev (xs : Array Value) : ((List.range xs.size).filterMap fun (k : Nat) => xs[(((xs.size : Int) - 1) + (k : Int) * (-1)).toNat]?).toArray = xs.toList.reverse.toArray := by
  congr 1
  rw [filterMap_some (g := fun k => xs.toList.reverse.getD k .none)]
  · apply List.ext_getElem?
    intro j
    rw [List.getElem?_map]
    by_cases hj : j < xs.size
    · rw [List.getElem?_range hj, Option.map_some, List.getD_eq_getElem?_getD, List.getElem?_eq_getElem (by simpa using hj), Option.getD_some]
    · rw [List.getElem?_eq_none (by simpa using hj), List.getElem?_eq_none (by simpa using hj)]; rfl
  · intro k hk
    have hk : k < xs.size := by simpa using hk
    have e : (((xs.size : Int) - 1) + (k : Int) * (-1)).toNat = xs.size - 1 - k := by omega
    rw [e, List.getD_eq_getElem?_getD, List.getElem?_reverse (by simpa using hk)]
    have h2 : xs.size - 1 - k < xs.size := by omega
    rw [Array.getElem?_eq_getElem h2]
    simp [h2]
section
variable {prog : Program} {w : World} {A : Around} {E : Value → Shared → Prop} {s : Shared}
theorem getItem_tuple_rev {t sl : Addr} {items : Array Value} {vl vu vs : Value} {Q : Value → Shared → Prop} (ht : IsTup s.heap t items) (hs : s.heap.IsSliceOf sl vl vu vs) (pl : IsPart vl none) (pu : IsPart vu none) (ps : IsPart vs (some (-1)))
    (h : Q (.ref s.heap.objs.size) { s with heap := s.heap.push { cls := .type "tuple", data := .seq items.toList.reverse.toArray } }) (hsz : items.size ≤ sizeLine) : wpAny (model prog w) A (getItem (.ref t) (.ref sl)) Q E s := by
  have hz : sizeOk (.seq items.toList.reverse.toArray) := by
    show items.toList.reverse.toArray.size ≤ sizeLine
    rw [List.size_toArray, List.length_reverse, Array.length_toList]; exact hsz
  obtain ⟨os, hos, hcs, hds⟩ := id hs
  have hTs : s.TypeIs (.ref sl) "slice" := ⟨os, hos, hcs⟩
  unfold getItem
  refine wpAny_holding ?_
  first | refine wpAny_bind (wpAny_pure ?_) | skip
  refine wpAny_bind (wpAny_sequenceKey ht.typeIs (by decide) ?_)
  refine wpAny_bind (wpAny_callSpecial?_slot (name := Str.ofString "__getitem__") ht.typeIs PyProof.Rows.slot_tuple_getitem
    (wpAny_call_entry PyProof.Rows.slot_tuple_getitem ht.typeIs entry_tuple_getitem ?_ (args_tuple_getitem _ _)))
  show wpAny _ _ (Builtin.Tuple.tupleItemsOf (.ref t) >>= _) _ _ s
  refine wpAny_bind (tupleItemsOf_ ht ?_)
  refine wpAny_bind (wpAny_typeOf hTs ?_)
  rw [if_pos (by decide)]
  refine wpAny_bind (m := Builtin.Slice.sliceApplied _ _) (Q := _) ?_
  have ap : ∀ {Q' : Int × Int × Nat → Shared → Prop} {A' : Around} {E' : Value → Shared → Prop}, Q' ((items.size : Int) - 1, -1, items.size) s → wpAny (model prog w) A' (Builtin.Slice.sliceApplied (.ref sl) (pure (items.size : Int))) Q' E' s := by
    intro Q' A' E' hq
    unfold Builtin.Slice.sliceApplied Builtin.Slice.sliceFields
    refine wpAny_bind (wpAny_bind (wpAny_field hos hds (x := vl) rfl (wpAny_bind (wpAny_field hos hds (x := vu) rfl (wpAny_bind (wpAny_field hos hds (x := vs) rfl (wpAny_pure ?_)))))))
    refine wpAny_bind (HT.slicePart_ ps ?_)
    show wpAny _ _ (if ((-1 : Int) == 0) = true then _ else _) _ _ s
    rw [if_neg (by decide)]
    refine wpAny_bind (HT.slicePart_ pl (wpAny_bind (HT.slicePart_ pu (wpAny_bind (wpAny_pure ?_)))))
    have e1 : Builtin.Slice.sliceAdjust none none (-1) (items.size : Int) = ((items.size : Int) - 1, -1) := by
      unfold Builtin.Slice.sliceAdjust
      simp
    show wpAny _ _ (match Builtin.Slice.sliceAdjust none none (-1) (items.size : Int) with | (lo, hi) => pure (lo, (-1 : Int), Builtin.Slice.slicePlaces lo hi (-1))) _ _ s
    rw [e1]
    have e2 : Builtin.Slice.slicePlaces ((items.size : Int) - 1) (-1) (-1) = items.size := by
      unfold Builtin.Slice.slicePlaces
      have h1 : ¬ ((-1 : Int) > 0) := by omega
      simp only [h1, if_false]
      by_cases hn : items.size = 0
      · rw [hn]; rfl
      · rw [if_pos (by omega)]
        have e3 : (-(-1 : Int)) = 1 := by decide
        rw [e3, Int.ediv_one]
        omega
    show wpAny _ _ (pure ((items.size : Int) - 1, (-1 : Int), Builtin.Slice.slicePlaces ((items.size : Int) - 1) (-1) (-1))) _ _ s
    rw [e2]
    exact wpAny_pure hq
  refine ap ?_
  show wpAny _ _ (if (((items.size : Int) - 1) == 0 && (-1 : Int) == 1 && items.size == items.size) = true then _ else _) _ _ s
  rw [if_neg (by simp), pick_rev]
  first
    | exact wpAny_bind (m := Builtin.Tuple.tupleExact _) (wpAny_newObj_type (wpAny_pure ⟨_, rfl, wpAny_pure h⟩) hz)
    | exact wpAny_bind (m := Builtin.Tuple.tupleExact _) (wpAny_newObj_type (wpAny_bind (wpAny_pure (wpAny_pure ⟨_, rfl, wpAny_pure h⟩))) hz)
    | exact wpAny_bind (wpAny_bind (m := Builtin.Tuple.tupleExact _) (wpAny_newObj_type (wpAny_pure (wpAny_pure ⟨_, rfl, wpAny_pure h⟩)) hz))
    | exact wpAny_bind (wpAny_bind (m := Builtin.Tuple.tupleExact _) (wpAny_newObj_type (wpAny_pure ⟨_, rfl, wpAny_pure h⟩) hz))
end
section
variable {X : Cx} {a b c o e : Expr} {ca cb cc : Ex} {ta : TE} {pos p p2 p3 q p1 : Pos} {es : List Expr} {cs : Ax}
def tRevA (K : Frag) (te : TE) : TE := fun σ H Q => te σ H fun x H1 => ∃ a xs, x = .ref a ∧ ((SqL K H1 a xs ∧ ∀ p, H1 p = none → Q (.ref p) (upd H1 p (.lst xs.reverse))) ∨ (SqT K H1 a xs ∧ ∀ p, H1 p = none → Q (.ref p) (upd H1 p (.tup xs.reverse))))
theorem pe_revA {k : Nat} (he : PE X e ta) : PE X (.Subscript e (.Slice none none (some (.UnaryOp .USub (.Constant (.int 1) k p1) p2)) p3) pos) (tRevA X.K ta) := by
  refine ⟨fun pins s σ H Q I h => ?_⟩
  refine Subscript_ (thn (he.run pins s σ H _ I h) fun v s1 ⟨x, H1, I1, r1, q1⟩ => ?_)
  obtain ⟨a, xs, ex, alt⟩ := q1
  subst ex
  cases r1
  have hst : PO X (some (.UnaryOp .USub (.Constant (.int 1) k p1) p2)) (tPart (tUn (rU fun i => .int (-i)) (tC (.int 1)))) := po_some (pe_un un_neg pe_int)
  refine wpAny_Slice (thn (po_none.run pins s1 σ H1 (fun o H2 => o = none ∧ H2 = H1) I1 ⟨rfl, rfl⟩) fun vl s2 ⟨l, H2, I2, pl, el, e2⟩ => ?_)
  subst el e2
  refine thn (po_none.run pins s2 σ H2 (fun o H3 => o = none ∧ H3 = H2) I2 ⟨rfl, rfl⟩) fun vu s3 ⟨u, H3, I3, pu, eu, e3⟩ => ?_
  subst eu e3
  refine thn (hst.run pins s3 σ H3 (fun o H4 => o = some (-1) ∧ H4 = H3) I3 ⟨1, rfl, -1, rfl, rfl, rfl⟩) fun vs s4 ⟨o, H4, I4, ps, eo, e4⟩ => ?_
  subst eo e4
  have I5 : Inv X pins σ H4 { s4 with heap := s4.heap.push { cls := .type "slice", data := .fields #[vl, vu, vs] } } := I4.kept (t' := s4.toks) fun b ob q => Heap.get?_push_of_some _ q
  show wpAny (model X.prog X.w) X.A (subscriptTail e (.Slice none none (some (.UnaryOp .USub (.Constant (.int 1) k p1) p2)) p3) (.ref a) (.ref s4.heap.objs.size)) (EP X pins σ Q) X.xe { s4 with heap := s4.heap.push { cls := .type "slice", data := .fields #[vl, vu, vs] } }
  rcases alt with ⟨hx, q⟩ | ⟨hx, q⟩
  · obtain ⟨its, r, ht, hz⟩ := I5.list hx
    have hlen := r.length
    refine tail_any (ops := [.ref a, .ref s4.heap.objs.size]) ht.isList.typeIs (PySem.slot_list_getitem.lookup) ?_ (by with_unfolding_all rfl)
    refine wpAny_getItem_list_slice ht.isList (Heap.IsSliceOf.new _ vl vu vs) pl pu ps (by decide) ?_ (by rw [List.size_toArray]; omega)
    rw [PySem.W.krv_pick]
    refine ⟨.ref _, _, I5.laid (t' := s4.toks) (o := .lst xs.reverse) (fun b ob q => Heap.get?_push_of_some _ q) (Nat.le_refl _) ?_, rfl, q _ (I5.hok.fresh (Nat.le_refl _))⟩
    exact ⟨by rw [List.length_reverse]; exact hz, _, 0, r.reverse, Heap.get?_push_size _ rfl⟩
  · obtain ⟨its, r, ht, hz⟩ := I5.tuple hx
    have hlen := r.length
    refine tail_any (ops := [.ref a, .ref s4.heap.objs.size]) ht.typeIs (PyProof.Rows.slot_tuple_getitem.lookup) ?_ (by with_unfolding_all rfl)
    refine getItem_tuple_rev ht (Heap.IsSliceOf.new _ vl vu vs) pl pu ps ?_ (by rw [List.size_toArray]; omega)
    refine ⟨.ref _, _, I5.laid (t' := s4.toks) (o := .tup xs.reverse) (fun b ob q => Heap.get?_push_of_some _ q) (Nat.le_refl _) ?_, rfl, q _ (I5.hok.fresh (Nat.le_refl _))⟩
    exact ⟨by rw [List.length_reverse]; exact hz, _, r.reverse, ⟨_, Heap.get?_push_size _ rfl, rfl, _, rfl⟩⟩
theorem re_rev {k : Nat} (ha : RE X a ca) : RE X (.Subscript a (.Slice none none (some (.UnaryOp .USub (.Constant (.int 1) k p1) p2)) p3) pos) (op1 vRevA ca) := fun W tk =>
  (pe_revA (ha W tk)).imp fun σ H Q h => (Tr.bind h).mono fun x H1 h1 => by
    obtain ⟨B, φ, st, d, z, rs, r, hz, fin⟩ := h1.v1
    unfold vRevA at hz
    split at hz
    · cases hz
      cases r with | tup sq q =>
      exact ⟨_, _, rfl, .inr ⟨sq, fun p hp => finT rs fin q.reverse hp⟩⟩
    · cases hs : lstOf st d with
      | none => rw [hs] at hz; cases hz
      | some xs =>
        rw [hs] at hz
        cases hz
        obtain ⟨p, vs, rfl, q, sq⟩ := lst_cases rs r hs
        exact ⟨p, vs, rfl, .inl ⟨SqL.of sq, fun p hp => finL rs fin q.reverse hp⟩⟩
end
end Sw

/-! Rules12: dict comprehensions. -/
set_option Elab.async false
set_option linter.all false
set_option maxRecDepth 100000
set_option maxHeartbeats 4000000
namespace Sw
open PySem PySem.Spec PyProof.Rows L2
section
variable {K : Frag} {mg : Str → Option Value} {B : Addr → Prop} {φ : List Addr} {H : Hp} {st : Store}
theorem RD.ext {p : Addr} {v : V} {d : D} (r : RD K B φ H v d) : RD K B (φ ++ [p]) H v d :=
  RD.on (fun _ _ h => h) (fun _ _ h n => ⟨h, n⟩) (fun _ _ _ h => h) (fun _ _ h => pre_get (List.prefix_append _ _) h) r
theorem dK_notRd {p : Addr} {acc : List (Key × V)} (h : H p = some (.dK acc)) : (∀ xs, ¬ Rd H p (.tup xs)) ∧ ∀ q u, ¬ H p = some (.frz q u) := by
  refine ⟨fun xs z => ?_, fun q u z => ?_⟩
  · rcases z with z | ⟨q, z⟩ <;> (rw [h] at z; cases z)
  · rw [h] at z; cases z
/-- what was made aside becomes a cell -/
theorem RS.addCell (rs : RS K mg B φ H st) {p : Addr} {c : Cell} (bp : B p) (np : p ∉ φ) (rc : RC K mg B (φ ++ [p]) H p c) : RS K mg B (φ ++ [p]) H (st ++ [c]) := by
  have f : ∀ {v d}, RD K B φ H v d → RD K B (φ ++ [p]) H v d := fun r => r.ext
  refine ⟨by simp [rs.len], ?_, fun a h => ?_, rs.there, fun n d e => ?_⟩
  · rw [List.nodup_append]
    exact ⟨rs.nd, by simp, fun a ha b hb e => by
      have : b = p := by simpa using hb
      exact np (by rw [← this, ← e]; exact ha)⟩
  · rcases List.mem_append.mp h with z | z
    · exact rs.sub a z
    · have : a = p := by simpa using z
      rw [this]; exact bp
  · by_cases hn : n < st.length
    · rw [List.getElem?_append_left hn] at e
      obtain ⟨a, e1, rc'⟩ := rs.at_ n d e
      exact ⟨a, pre_get (List.prefix_append _ _) e1, rc'.on f (RDs.map f) rfl⟩
    · rw [List.getElem?_append_right (by omega)] at e
      have hz : n - st.length = 0 := by
        rcases Nat.eq_zero_or_pos (n - st.length) with z | z
        · exact z
        · rw [List.getElem?_eq_none (by simp; omega)] at e; cases e
      rw [hz] at e
      simp at e
      subst e
      refine ⟨p, ?_, rc⟩
      rw [List.getElem?_append_right (by rw [rs.len]; omega), rs.len, hz]
      rfl
end
section
variable {X : Cx} {a b tg it kx vx : Expr} {ca cb ck cy : Ex} {ct : Tx} {pos p : Pos} {es : List Expr} {vs : List Nat}
theorem re_dc {g : Tg} {ci : Act (List D)} {scope : Scope} {own : List (Str × Nat)} {ifs : List Expr} (hc : X.calm = true) (hN : X.N.Nodup) (hi : RI X tg it ci) (ok : BlkOk X.N X.env.scope scope own)
    (hg : ∀ (s : Shared) (H : Hp) (C : Addr) (cl : List (Str × Addr)) (fp : List Addr), RGw (X.blk s H scope (compEnvC scope cl C X.env) fp) (own.map (·.2)) tg g)
    (ht : ∀ (s : Shared) (H : Hp) (C : Addr) (cl : List (Str × Addr)) (fp : List Addr), RTs (X.blk s H scope (compEnvC scope cl C X.env) fp) ifs ct)
    (hk : ∀ (s : Shared) (H : Hp) (C : Addr) (cl : List (Str × Addr)) (fp : List Addr), RE (X.blk s H scope (compEnvC scope cl C X.env) fp) kx ck)
    (he : ∀ (s : Shared) (H : Hp) (C : Addr) (cl : List (Str × Addr)) (fp : List Addr), RE (X.blk s H scope (compEnvC scope cl C X.env) fp) vx cy) (hs : ∀ x, foldedSetIterable it X.env x = pure x := by intro _; rfl) :
    RE X (.DictComp kx vx [⟨tg, it, ifs, 0⟩] scope pos) (eDc ci g (own.map (·.2)) ct ck cy) := fun W tk =>
  (pe_dc (own := own) (g := TrGw X.K X.mg g (own.map fun y : Str × Nat => y.2)) (tt := Tr X.K X.mg rB ct fun _ _ _ _ => False) (tk := Tr X.K X.mg (RD X.K) ck fun _ _ _ _ => False) (tv := Tr X.K X.mg (RD X.K) cy fun _ _ _ _ => False) hc hN (hi W tk) ok
    (fun s H C cl fp => hg s H C cl fp) (fun s H C cl fp => ht s H C cl fp _ takes0) (fun s H C cl fp => hk s H C cl fp _ takes0) (fun s H C cl fp => he s H C cl fp _ takes0) hs).imp fun σ H Q ⟨B, φ, e, st, r, st', re, rs, hc', fin⟩ => by
  unfold eDc Act.bind at hc'
  cases ha : ci e st with
  | none => rw [ha] at hc'; cases hc'
  | some pr =>
    obtain ⟨q, st1⟩ := pr
    rw [ha] at hc'
    cases q with
    | error x =>
      simp only [Option.some.injEq, Prod.mk.injEq] at hc'
      obtain ⟨rfl, rfl⟩ := hc'
      exact ⟨B, φ, e, st, _, _, re, rs, ha, fin⟩
    | ok ds =>
      refine ⟨B, φ, e, st, _, _, re, rs, ha, fun J B1 φ1 H1 g1 rs1 it1 hsz p hp => ?_⟩
      dsimp only at hc'
      cases hcl : compD g ct ck cy ds (Sw.wipe e (own.map (·.2))) st1 [] with
      | none => rw [hcl] at hc'; cases hc'
      | some pr2 =>
        obtain ⟨ys, st2⟩ := pr2
        rw [hcl] at hc'
        simp only [Option.some.injEq, Prod.mk.injEq] at hc'
        obtain ⟨rfl, rfl⟩ := hc'
        have re1 := (REnv.go rs g1 re).wipe2 (own.map (·.2))
        refine ⟨fun i m H' => m = ds.length - i ∧ i ≤ ds.length ∧ ∃ Bc φc st3 acc accD, Go φ1 B1 H1 φc Bc H' ∧ RS X.K X.mg Bc φc H' st3 ∧ Bc p ∧ p ∉ φc ∧ H' p = some (.dK acc) ∧ RKv X.K Bc φc H' keyD acc accD ∧ acc.length ≤ i ∧
            compD g ct ck cy (ds.drop i) (Sw.wipe e (own.map (·.2))) st3 accD = some (ys, st2), ⟨ds.length, by simp, Nat.zero_le _, ?_⟩, ?_⟩
        · have npφ : p ∉ φ1 := fun hm => rs1.there p (rs1.sub p hm) hp
          obtain ⟨rs2, g2⟩ := rs1.newThing (o := .dK []) hp
          refine ⟨fun a => B1 a ∨ a = p, φ1, st1, [], [], ⟨rs1.sub, g2.keep, g2.pre, fun _ h => .inl h, fun a h => h.imp id (fun e => by rw [e]; exact hp), g2.inφ⟩, ⟨rs2.len, rs2.nd, fun a h => .inl (rs2.sub a h), fun a h => ?_, fun n c h => ?_⟩, .inr rfl, npφ, upd_same, .nil, Nat.le_refl _, hcl⟩
          · rcases h with h | h
            · exact rs2.there a h
            · rw [h, upd_same]; intro z; cases z
          · obtain ⟨a, e1, rc⟩ := rs1.at_ n c h
            obtain ⟨o, ho, _⟩ := rc.mut
            have nap : a ≠ p := ne_of_none ho hp
            have f : ∀ {v d}, RD X.K B1 φ1 H1 v d → RD X.K (fun a => B1 a ∨ a = p) φ1 (upd H1 p (.dK [])) v d := fun r => by
              refine RD.on (fun b xs h => ?_) (fun b xs h nb => ?_) (fun b q u h => ?_) (fun _ _ h => h) r
              · exact Rd.go (fun o e => by rw [upd_ne (ne_of_none e hp)]; exact e) h
              · have nbp : b ≠ p := ne_of_none h hp
                exact ⟨by rw [upd_ne nbp]; exact h, fun z => z.elim nb nbp⟩
              · rw [upd_ne (ne_of_none h hp)]; exact h
            exact ⟨a, e1, rc.on f (RDs.map f) (upd_ne nap)⟩
        · rintro i m H' ⟨rfl, hi', Bc, φc, st3, acc, accD, gc, rsc, bp, npφ, hacc, racc, hal, hcl'⟩
          obtain ⟨hstop, hgo⟩ := it1 Bc φc H' st3 gc rsc i
          by_cases hlt : i < ds.length
          · have hd : ds[i]? = some ds[i] := List.getElem?_eq_getElem hlt
            obtain ⟨go, yl⟩ := hgo _ hd
            rw [List.drop_eq_getElem_cons hlt] at hcl'
            unfold compD at hcl'
            refine .inr ⟨go, fun H3 => ∃ Bc φc st3 acc accD, Go φ1 B1 H1 φc Bc H3 ∧ RS X.K X.mg Bc φc H3 st3 ∧ Bc p ∧ p ∉ φc ∧ H3 p = some (.dK acc) ∧ RKv X.K Bc φc H3 keyD acc accD ∧ acc.length ≤ i + 1 ∧
              compD g ct ck cy (ds.drop (i + 1)) (Sw.wipe e (own.map (·.2))) st3 accD = some (ys, st2), ?_, fun x H'' hy => ?_⟩
            · rintro H3 ⟨Bc, φc, st3, acc, accD, gc, rsc, bp, npφ, hacc, racc, hal, hcl'⟩
              exact ⟨ds.length - (i + 1), by omega, rfl, hlt, Bc, φc, st3, acc, accD, gc, rsc, bp, npφ, hacc, racc, hal, hcl'⟩
            · obtain ⟨B4, g4, rs4, rd4⟩ := yl x H'' hy
              cases hg1 : g ds[i] (Sw.wipe e (own.map (·.2))) st3 with
              | none => rw [hg1] at hcl'; cases hcl'
              | some pr3 =>
                obtain ⟨e5, st5⟩ := pr3
                rw [hg1] at hcl'
                dsimp only at hcl'
                refine ⟨B4, φc, _, st3, ds[i], e5, st5, REnv.go rs4 (.refl rs4) (REnv.go rsc g4 (REnv.go rs1 gc re1)), rs4, rd4, hg1, fun σ6 B6 φ6 H6 hw g6 rs6 re6 => ⟨hw.trans (wipe_idem σ _), ?_⟩⟩
                cases ht1 : ct e5 st5 with
                | none => rw [ht1] at hcl'; cases hcl'
                | some pr4 =>
                  obtain ⟨q7, st7⟩ := pr4
                  rw [ht1] at hcl'
                  cases q7 with
                  | error x7 => cases hcl'
                  | ok k =>
                    refine ⟨B6, φ6, e5, st5, _, st7, re6, rs6, ht1, fun k' B8 φ8 H8 g8 rs8 hk => ?_⟩
                    have hk : k' = k := hk
                    subst hk
                    have gs : Go φc Bc H' φ8 B8 H8 := (g4.trans g6).trans g8
                    have keepP : ∀ {φ9 : List Addr} {B9 : Addr → Prop} {H9 : Hp}, Go φc Bc H' φ9 B9 H9 → H9 p = some (.dK acc) ∧ p ∉ φ9 ∧ B9 p := fun g9 => by
                      refine ⟨g9.keep p _ hacc npφ, fun hm => ?_, g9.mono p bp⟩
                      rcases g9.inφ p hm with z | z
                      · exact npφ z
                      · rw [hacc] at z; cases z
                    cases k' with
                    | false =>
                      refine iteF ?_
                      obtain ⟨a1, a2, a3⟩ := keepP gs
                      exact ⟨B8, φ8, st7, acc, accD, gc.trans gs, rs8, a3, a2, a1, racc.on (RD.go rsc gs), Nat.le_succ_of_le hal, hcl'⟩
                    | true =>
                      refine iteT ?_
                      dsimp only at hcl'
                      cases hk1 : ck e5 st7 with
                      | none => rw [hk1] at hcl'; cases hcl'
                      | some prk =>
                        obtain ⟨qk, stk⟩ := prk
                        rw [hk1] at hcl'
                        cases qk with
                        | error xk => cases hcl'
                        | ok kd =>
                          refine ⟨B8, φ8, e5, st7, _, stk, REnv.go rs6 g8 re6, rs8, hk1, fun vk Bk φk Hk gk rsk rdk => ?_⟩
                          dsimp only at hcl'
                          by_cases hik : isKey kd = true
                          · rw [if_pos hik] at hcl'
                            cases hy1 : cy e5 stk with
                            | none => rw [hy1] at hcl'; cases hcl'
                            | some pr5 =>
                              obtain ⟨q9, st9⟩ := pr5
                              rw [hy1] at hcl'
                              cases q9 with
                              | error x9 => cases hcl'
                              | ok y9 =>
                                refine ⟨Bk, φk, e5, stk, _, st9, REnv.go rs8 gk (REnv.go rs6 g8 re6), rsk, hy1, fun v10 B10 φ10 H10 g10 rs10 rd10 => ?_⟩
                                have gt : Go φc Bc H' φ10 B10 H10 := (gs.trans gk).trans g10
                                obtain ⟨a1, a2, a3⟩ := keepP gt
                                obtain ⟨κ, rfl, rfl, okk⟩ := key_of_isKey rdk hik
                                refine ⟨acc, κ, rfl, a1, ?_, ?_⟩
                                · exact Nat.lt_of_le_of_lt hal (Nat.lt_of_lt_of_le hlt hsz)
                                · dsimp only at hcl'
                                  obtain ⟨n1, n2⟩ := dK_notRd a1
                                  obtain ⟨rs11, f11⟩ := rs10.own (o' := .dK (putK acc κ v10)) a1 a3 a2 n1 n2
                                  refine ⟨B10, φ10, st9, putK acc κ v10, putKv accD (keyD κ) y9, ?_, rs11, a3, a2, upd_same, (RKv.put ((racc.on (RD.go rsc gt)).on f11) okk (f11 rd10)), ?_, hcl'⟩
                                  · have gg := gc.trans gt
                                    exact ⟨gg.sub, fun a o ha hn => by
                                      have nap : a ≠ p := ne_of_none ha hp
                                      rw [upd_ne nap]; exact gg.keep a o ha hn, gg.pre, gg.mono, gg.fresh, gg.inφ⟩
                                  · have := length_putK acc κ v10
                                    omega
                          · rw [if_neg hik] at hcl'; cases hcl'
          · have e0 : ds.drop i = [] := List.drop_eq_nil_of_le (by omega)
            rw [e0] at hcl'
            unfold compD at hcl'
            cases hcl'
            refine .inl ⟨hstop (by omega), ?_⟩
            have gF : Go φ B H (φc ++ [p]) Bc H' := g1.trans ⟨gc.sub, gc.keep, gc.pre.trans (List.prefix_append _ _), gc.mono, gc.fresh, fun a h => by
              rcases List.mem_append.mp h with z | z
              · exact gc.inφ a z
              · have : a = p := by simpa using z
                rw [this]; exact .inr hp⟩
            refine fin (.ref p) Bc (φc ++ [p]) H' gF (rsc.addCell bp npφ ⟨acc, hacc, racc.on (fun r => r.ext)⟩) (.loc ?_)
            rw [List.getElem?_append_right (by rw [rsc.len]; exact Nat.le_refl _), rsc.len]
            simp
end
end Sw

/-! SetL: set(xs) of a list of ints, as a set whose order can be walked. -/
set_option Elab.async false
set_option linter.all false
set_option maxRecDepth 100000
set_option maxHeartbeats 4000000
namespace Sw.SL
open PySem PySem.Spec PyProof.Rows L2
abbrev stO (w : World) : Obj := { cls := .type "set", dict := none, data := .set #[] 0 (.fresh 0 0 (!w.params.followText "set-order")) }
section
variable {P : Program} {w : World} {A : Around} {E : Value → Shared → Prop} {s : Shared}
/-- what set's init does of a list -/
theorem init_list {S l : Addr} {items : Array Value} (ns : List Int) {R : Value → Shared → Prop} (hh : A.handled = none) (hS : s.heap.get? S = some (stO w)) (hl : s.heap.IsList l items) (hit : IntsAre items.toList ns) (hb : ns.length + 1 < scanBound) (hSl : S ≠ l) (hlt : S < s.heap.objs.size) (hll : l < s.heap.objs.size)
    (h : ∀ (h' : Heap) (tk c : Nat), SetR w h' S (fun j => decide (j ∈ ns)) c → c ≤ ns.length → (∀ b o, b ≠ S → s.heap.get? b = some o → h'.get? b = some o) → R .none { s with heap := h', toks := tk }) :
    wpAny (model P w) A (Builtin.«set.__init__» ⟨[.ref S, .ref l], []⟩) (fun fin s' => ∃ v, fin = .done (.ret v) ∧ R v s') E s := by
  have hisz : items.size = ns.length := by
    have q := IntsAre.length hit
    rw [Array.length_toList] at q
    exact q
  have hT : s.TypeIs (.ref S) "set" := ⟨_, hS, rfl⟩
  obtain ⟨ol, hol, hcl, nl, hdl⟩ := id hl
  obtain ⟨ocls, odict, odata, oslots⟩ := ol
  simp only at hcl hdl
  subst hcl; subst hdl
  have s1 := PySem.F.sub_list_set
  have s2 := PySem.F.sub_list_frozenset
  have hne : (Value.type "list" == Value.type "dict") = false := by decide
  unfold Builtin.«set.__init__» noKeywords Builtin.Frozenset.updateFrom
  generalize hPI : pyIter = PI
  wp_walk
  subst hPI
  refine wpAny_pyIter_list hl ?_
  refine wpAny_bind (wpAny_runValue ?_)
  have hz : (s.heap.push { cls := .type "list_iterator", data := .fields #[.ref l, .int 0 0] }).objs.size = s.heap.objs.size + 1 := Heap.size_push ..
  have hh1 : A.in1.handled = none := by simp [hh]
  have hneI : l ≠ s.heap.objs.size := Nat.ne_of_lt hll
  have hSf : S ∉ [s.heap.objs.size, l] := by
    simp only [List.mem_cons, List.mem_singleton, List.not_mem_nil, or_false, not_or]
    exact ⟨Nat.ne_of_lt hlt, hSl⟩
  have hval : ∀ (i : Nat) (v : Value), items[i]? = some v → ∃ k t, ns[i]? = some k ∧ v = .int k t := fun i v hv => by
    have hi : i < ns.length := by rw [← hisz]; exact (Array.getElem?_eq_some_iff.mp hv).1
    obtain ⟨t, e⟩ := PyProof.Rows.IntsAre.int_at hit i v (by rw [Array.getElem?_toList]; exact hv)
    refine ⟨ns[i], t, List.getElem?_eq_getElem hi, ?_⟩
    rw [e, List.getD_eq_getElem?_getD, List.getElem?_eq_getElem hi] <;> rfl
  refine set_update_ints ((Walks.list hh1 _ l hneI items).toS) S hSf ns hisz hb hval (items.size - 0) 0 _ (by omega) (Nat.zero_le _)
    ⟨⟨_, Heap.get?_push_size _ rfl, rfl, rfl⟩, (hl.push _)⟩ ⟨0, Nat.le_refl 0, setR_new_at (Heap.get?_push_of_some _ hS)⟩ fun s' c' hm hc' hS' => ?_
  obtain ⟨h', g2, d', tk', os'⟩ := s'
  have eg : g2 = s.gens := hm.gens
  have ed : d' = s.drawn := hm.drawn
  have eo : os' = s.os := hm.os
  subst eg ed eo
  rw [hisz] at hc'
  refine wpAny_pure (wpAny_pure ⟨_, rfl, h h' tk' c' hS' hc' fun b o nb e => ?_⟩)
  refine hm.heap b o (fun hb2 => ?_) (Heap.get?_push_of_some _ e)
  simp only [List.mem_cons, List.not_mem_nil, or_false] at hb2
  rcases hb2 with q | q
  · exact nb q
  · exact Nat.ne_of_lt (Heap.lt_size e) q
/-- set(xs) -/
theorem call_set {l : Addr} {items : Array Value} (ns : List Int) {Q : Value → Shared → Prop} (hh : A.handled = none) (hl : s.heap.IsList l items) (hit : IntsAre items.toList ns) (hb : ns.length + 1 < scanBound)
    (h : ∀ (h' : Heap) (tk c : Nat), SetR w h' s.heap.objs.size (fun j => decide (j ∈ ns)) c → c ≤ ns.length → (∀ b o, s.heap.get? b = some o → h'.get? b = some o) → Q (.ref s.heap.objs.size) { s with heap := h', toks := tk }) :
    wpAny (model P w) A (call (.type "set") [.ref l]) Q E s := by
  have ft := PySem.F.called_set
  obtain ⟨c, tl, hmro⟩ := ft.mro
  have hmade := ft.made
  have hsub := ft.sub
  have hll : l < s.heap.objs.size := by obtain ⟨_, e, _⟩ := id hl; exact Heap.lt_size e
  refine wpAny_call (codeAny_of_tree (wpAny_pure ⟨Code.quiet_builtin _ (by decide +kernel), codeAny_builtin PySem.F.entry_type_call ?_⟩))
  rw [Around.under_plain (weight_type_call_type "set" [.ref l] []) rfl]
  have q1 := ft.notType
  have q2 := ft.canCreate
  have q3 := PySem.F.typeCall_set_1 (.ref l)
  repeat (any_goals (first | assumption | wp_step))
  refine codeAny_mono (code_set_led1 (.ref l) (E := E) (Q₁ := fun obj s₁ => obj = .ref s.heap.objs.size ∧ s₁ = { s with heap := s.heap.push (stO w) }) ⟨rfl, rfl⟩) fun r s₁ hr => ?_
  cases r with
  | error e => exact hr
  | ok fl =>
    cases fl with
    | ret obj =>
      obtain ⟨rfl, rfl⟩ := hr
      have hS : (s.heap.push (stO w)).get? s.heap.objs.size = some (stO w) := Heap.get?_push_size _ rfl
      have hT : Shared.TypeIs { s with heap := s.heap.push (stO w) } (.ref s.heap.objs.size) "set" := ⟨_, hS, rfl⟩
      have q4 := ft.init.lookup
      have q5 := ft.init.bind (.ref s.heap.objs.size)
      repeat (any_goals (first | assumption | wp_step))
      have hz : (s.heap.push (stO w)).objs.size = s.heap.objs.size + 1 := Heap.size_push ..
      refine codeAny_mono (codeAny_call_builtin (R := wants (fun r s₂ => r = .none ∧ Q (.ref s.heap.objs.size) s₂) E) ft.init.plain PySem.F.entry_set_init (check_set_init_1 hT ?_)) fun r₂ s₂ hr₂ => ?_
      · have it := init_list (P := P) (A := A.in1.in1) (E := E) (s := { s with heap := s.heap.push (stO w) }) ns (R := fun v s' => v = .none ∧ Q (.ref s.heap.objs.size) s') (by simp [hh]) hS (hl.push _) hit hb (Nat.ne_of_gt hll) (by show _ < (s.heap.push (stO w)).objs.size; rw [hz]; exact Nat.lt_succ_self _) (by show _ < (s.heap.push (stO w)).objs.size; rw [hz]; exact Nat.lt_succ_of_lt hll)
          fun h' tk c hR hc hk => ⟨rfl, h h' tk c hR hc fun b o e => hk b o (Nat.ne_of_lt (Heap.lt_size e)) (Heap.get?_push_of_some _ e)⟩
        refine wpAny_mono it (fun fin s' hf => ?_) (fun _ _ e => e)
        obtain ⟨v, rfl, e1, e2⟩ := hf
        exact ⟨e1, e2⟩
      · cases r₂ with
        | error e => exact hr₂
        | ok fl₂ =>
          cases fl₂ with
          | ret r =>
            obtain ⟨rfl, hq⟩ := hr₂
            repeat (any_goals (first | assumption | wp_step))
          | _ => exact hr₂.elim
    | _ => exact hr.elim
end
end Sw.SL

/-! Rules13: sorted(set(xs)), len(set(xs)) of ints. -/
set_option Elab.async false
set_option linter.all false
set_option maxRecDepth 100000
set_option maxHeartbeats 4000000
namespace Sw
open PySem PySem.Spec PyProof.Rows L2
theorem dedup_foldl : ∀ (xs acc : List Int), (acc.Nodup → (xs.foldl (fun acc x => if x ∈ acc then acc else acc ++ [x]) acc).Nodup) ∧ ∀ k, k ∈ xs.foldl (fun acc x => if x ∈ acc then acc else acc ++ [x]) acc ↔ k ∈ acc ∨ k ∈ xs
  | [], acc => ⟨id, fun k => by simp⟩
  | x :: xs, acc => by
    rw [List.foldl_cons]
    by_cases hx : x ∈ acc
    · rw [if_pos hx]
      obtain ⟨h1, h2⟩ := dedup_foldl xs acc
      refine ⟨h1, fun k => ?_⟩
      rw [h2, List.mem_cons]
      constructor
      · rintro (h | h)
        · exact .inl h
        · exact .inr (.inr h)
      · rintro (h | rfl | h)
        · exact .inl h
        · exact .inl hx
        · exact .inr h
    · rw [if_neg hx]
      obtain ⟨h1, h2⟩ := dedup_foldl xs (acc ++ [x])
      refine ⟨fun nd => h1 ?_, fun k => ?_⟩
      · rw [List.nodup_append]
        refine ⟨nd, by simp, fun a ha b hb e => ?_⟩
        have : b = x := by simpa using hb
        exact hx (by rw [← this, ← e]; exact ha)
      · rw [h2, List.mem_append, List.mem_singleton, List.mem_cons]
        constructor
        · rintro ((h | h) | h)
          · exact .inl h
          · exact .inr (.inl h)
          · exact .inr (.inr h)
        · rintro (h | h | h)
          · exact .inl (.inl h)
          · exact .inl (.inr h)
          · exact .inr h
theorem dedup_nodup (xs : List Int) : (dedup xs).Nodup := (dedup_foldl xs []).1 .nil
theorem dedup_mem (xs : List Int) (k : Int) : k ∈ dedup xs ↔ k ∈ xs := by
  have := (dedup_foldl xs []).2 k
  unfold dedup
  rw [this]; simp
theorem sortSet_eq {ns m : List Int} (h1 : m.Pairwise (· < ·)) (h2 : ∀ k, k ∈ m ↔ k ∈ ns) : m = sortI (dedup ns) := by
  have nd : m.Nodup := h1.imp fun h => by omega
  have pm : m.Perm (dedup ns) := (List.perm_ext_iff_of_nodup nd (dedup_nodup ns)).mpr fun k => by rw [h2, dedup_mem]
  exact sortI_eq pm (h1.imp fun h => by omega)
section
variable {X : Cx}
def rSetOfI (K : Frag) (w : World) : List V → Hp → VK → Prop := fun xs H Q => ∃ (l : Addr) (ns : List Int), xs = [V.ref l] ∧ SqL K H l (ns.map V.int) ∧ ns.length < 64 ∧ ∀ p c, H p = none → c ≤ ns.length → Q (.ref p) (upd H p (SetO w p (fun j => decide (j ∈ ns)) c))
theorem cr_setOfI (hc : X.calm = true) : CallR X (.type "set") (rSetOfI X.K X.w) := by
  intro pins s σ H xs us Q I r h
  obtain ⟨l, ns, rfl, hq, hl, q⟩ := h
  rw [Vals.ref1 r]
  obtain ⟨its, rv, pl, hz⟩ := I.list hq
  refine SL.call_set ns (I.ok.hd hc) pl.isList (by simpa using Vals.ints rv) (by unfold scanBound; omega) fun h' tk c hR hc' hk => ?_
  exact ⟨.ref _, _, I.laid (t' := tk) (fun b u e => hk b u e) (Nat.le_refl _) (setO_new hR), rfl, q _ c (I.hok.fresh (Nat.le_refl _)) hc'⟩
variable {a : Expr} {ca : Ex} {pos p p2 q : Pos}
theorem re_sortset (hc : X.calm = true) (hg : Gl X "sorted") (hm : X.mg "sorted" = none) (hg2 : Gl X "set") (hm2 : X.mg "set" = none) (ha : RE X a ca)
    (hs : starEach [a] X.env = (false, eval a X.env) :: starEach [] X.env := by rfl) (hpl : (backTo q (starEach [] X.env)).any (·.1) = false := by rfl)
    (hs2 : starEach [.Call (.Name "set" p2) [a] [] q] X.env = (false, eval (.Call (.Name "set" p2) [a] [] q) X.env) :: starEach [] X.env := by rfl) (hpl2 : (backTo pos (starEach [] X.env)).any (·.1) = false := by rfl) :
    RE X (.Call (.Name "sorted" p) [.Call (.Name "set" p2) [a] [] q] [] pos) (op1 vSortSet ca) := fun W tk =>
  (pe_callB (cr_sortedSet hc) hg hm PyProof.Rows.boot_sorted (pa_cons (pe_callTy (cr_setOfI hc) hg2 hm2 PyProof.Rows.boot_set (pa_cons (ha W tk) pa_nil hs) (by decide) (by decide) hs hpl) pa_nil hs2) (by decide) (by decide) hs2 hpl2).imp fun σ H Q h => (Tr.bind h).mono fun x H1 h1 => by
    obtain ⟨B, φ, st, d, z, rs, r, hz, fin⟩ := h1.v1
    unfold vSortSet at hz
    cases hs : lstOf st d with
    | none => rw [hs] at hz; cases hz
    | some xs =>
      rw [hs, Option.bind_some] at hz
      cases hn : ints? xs with
      | none => rw [hn] at hz; cases hz
      | some ns =>
        rw [hn] at hz
        dsimp only at hz
        split at hz
        · rename_i hl
          cases hz
          obtain ⟨l, vs, rfl, q, sq⟩ := lst_cases rs r hs
          rw [ints_eq hn] at q
          have := q.ints
          subst this
          refine ⟨l, ns, rfl, SqL.of sq, hl, fun p1 c hp1 hc1 => ?_⟩
          obtain ⟨rs1, g1⟩ := rs.newThing (o := SetO X.w p1 (fun j => decide (j ∈ ns)) c) hp1
          refine ⟨p1, _, c, rfl, upd_same, by omega, fun m p2 h1 h2 h3 hp2 => ?_⟩
          rw [sortSet_eq (ns := ns) h1 (fun k => (h2 k).trans (by simp))]
          exact finL rs1 (fun v B' φ' H' g => fin v B' φ' H' (g1.trans g)) (rds_ints _) hp2
        · cases hz
end
end Sw

/-! Front: the rules as a printing program wants them; defs of a module; the head. -/
set_option Elab.async false
set_option linter.all false
set_option maxRecDepth 100000
set_option maxHeartbeats 4000000
namespace Sw
open PySem PySem.Spec PyProof.Rows L2
def eqK (a : Option NameKind) (b : NameKind) : Bool := match a, b with
  | some .local, .local => true
  | some .cell, .cell => true
  | some .free, .free => true
  | some .globalImplicit, .globalImplicit => true
  | _, _ => false
theorem eqK_ok {a : Option NameKind} {b : NameKind} (h : eqK a b = true) : a = some b := by
  unfold eqK at h
  split at h <;> first | rfl | cases h
theorem gl_of {X : Cx} {x : Str} (h : X.env.kindOf x = some .globalImplicit) : Gl X x := h
/-- a name of the def is read -/
def varB (N : List Str) (sc : Scope) (i : Nat) (x : Str) : Bool := (match N[i]? with | some y => decide (y = x) | none => false) && ((eqK (sc.names.lookup x) .local || (eqK (sc.names.lookup x) .cell || eqK (sc.names.lookup x) .free)) && (!(x == ("__debug__" : Str)) && !(x == ("__classdict__" : Str))))
theorem ix_of {N : List Str} {i : Nat} {x : Str} (h : (match N[i]? with | some y => decide (y = x) | none => false) = true) : N[i]? = some x := by
  cases hn : N[i]? with
  | none => rw [hn] at h; cases h
  | some y => rw [hn] at h; rw [of_decide_eq_true h]
section
variable {X : Cx} {a b c o : Expr} {ca cb cc : Ex} {ta tb : Tx} {pos p p2 : Pos} {es : List Expr} {cs : Ax} {x : Str} {ss ss2 : List Stmt} {c1 c2 : Sx}
theorem f_v {i : Nat} (h : varB X.N X.env.scope i x = true) : RE X (.Name x p) (eVar i) := by
  unfold varB at h
  simp only [Bool.and_eq_true, Bool.or_eq_true, Bool.not_eq_true'] at h
  obtain ⟨h1, h2, h3, h4⟩ := h
  refine re_var (pe_var (ix_of h1) ?_ h3 h4)
  rcases h2 with h2 | h2 | h2
  · exact .inl (eqK_ok h2)
  · exact .inr (.inl (eqK_ok h2))
  · exact .inr (.inr (eqK_ok h2))
theorem f_s {j} (h : strB x = true) : RE X (.Constant (.str x) j pos) (eC (.str x)) := re_str (strB_ok h)
/-- a name is stored -/
def locB (N : List Str) (sc : Scope) (i : Nat) (x : Str) : Bool := (match N[i]? with | some y => decide (y = x) | none => false) && (eqK (sc.names.lookup x) .local || eqK (sc.names.lookup x) .cell)
theorem locB_ok {N : List Str} {sc : Scope} {i : Nat} (h : locB N sc i x = true) : N[i]? = some x ∧ Loc sc x := by
  unfold locB at h
  simp only [Bool.and_eq_true, Bool.or_eq_true] at h
  exact ⟨ix_of h.1, h.2.imp eqK_ok eqK_ok⟩
theorem f_set {i : Nat} {p' : Pos} (hN : X.N.Nodup) (hl : locB X.N X.env.scope i x = true) (hf : X.fn x = true ∨ X.env.scope.names.lookup x = some .local) (ha : RE X a ca) (hs : swapsWith a (some (.Name x p')) pos.line X.env = pure false := by rfl) : RSt X (.Assign [.Name x p'] a pos) (sSet i ca) :=
  rs_set hN (locB_ok hl).1 (locB_ok hl).2 ha hs hf
theorem f_gname {i : Nat} (hN : X.N.Nodup) (hl : locB X.N X.env.scope i x = true) (hf : X.fn x = true ∨ X.env.scope.names.lookup x = some .local) : RG X (.Name x pos) (gName i) := rg_name hN (locB_ok hl).1 (locB_ok hl).2 hf
theorem f_gnamew {i : Nat} {vs : List Nat} (hm : vs.contains i = true) (hN : X.N.Nodup) (hl : locB X.N X.env.scope i x = true) (hf : X.fn x = true ∨ X.env.scope.names.lookup x = some .local) : RGw X vs (.Name x pos) (gName i) := rgw_name (by simpa using hm) hN (locB_ok hl).1 (locB_ok hl).2 hf
theorem f_aug {i : Nat} {op : Operator} {f : Store → D → D → Option D} {p' : Pos} (hN : X.N.Nodup) (hl : locB X.N X.env.scope i x = true) (hf : X.fn x = true ∨ X.env.scope.names.lookup x = some .local) (ho : PIp X op (tIpI X.K X.mg f)) (ha : RE X a ca) : RSt X (.AugAssign (.Name x p') op a pos) (sAug i f ca) :=
  rs_aug hN (locB_ok hl).1 (locB_ok hl).2 ha ho hf
theorem f_par {i j : Nat} {y : Str} {px py pt : Pos} {kt k2 pt2} (hc : X.calm = true) (hN : X.N.Nodup) (hx : (locB X.N X.env.scope i x && locB X.N X.env.scope j y) = true) (hij : Nat.beq i j = false) (hl : (eqK (X.env.scope.names.lookup x) .local && eqK (X.env.scope.names.lookup y) .local) = true) (ha : RA X [a, b] cs)
    (hw : swappedStores [.Tuple [.Name x px, .Name y py] kt pt] (.Tuple [a, b] k2 pt2) X.env = pure (some [x, y]) := by rfl)
    (hs : swapsWithSole [.Tuple [.Name x px, .Name y py] kt pt] (.Tuple [a, b] k2 pt2) pos.line X.env = pure false := by rfl) :
    RSt X (.Assign [.Tuple [.Name x px, .Name y py] kt pt] (.Tuple [a, b] k2 pt2) pos) (sPar [gName i, gName j] cs) := by
  rw [Bool.and_eq_true] at hx hl
  exact rs_par hc hN (locB_ok hx.1).1 (locB_ok hx.2).1 (Nat.ne_of_beq_eq_false hij) (eqK_ok hl.1) (eqK_ok hl.2) ha hw hs
/-! ### a comprehension's scope -/
def blkB (N : List Str) (sc scope : Scope) (own : List (Str × Nat)) : Bool :=
  (match scope.kind with | .function => true | _ => false) && (scope.names.all (fun y => eqK (scope.names.lookup y.1) y.2) && (own.all (fun p => match N[p.2]? with | some y => decide (y = p.1) | none => false) &&
    scope.names.all fun y => (match y.2 with
      | .free => eqK (sc.names.lookup y.1) .cell || eqK (sc.names.lookup y.1) .free
      | .local => (own.map (·.1)).contains y.1 || !N.contains y.1
      | .cell => (own.map (·.1)).contains y.1 || !N.contains y.1
      | _ => true)))
theorem blkB_ok {N : List Str} {sc scope : Scope} {own : List (Str × Nat)} (h : blkB N sc scope own = true) : BlkOk N sc scope own := by
  unfold blkB at h
  simp only [Bool.and_eq_true] at h
  obtain ⟨h1, h2, h3, h4⟩ := h
  refine ⟨?_, fun y hy => eqK_ok (List.all_eq_true.mp h2 y hy), fun p hp => ix_of (List.all_eq_true.mp h3 p hp), fun y hy e => ?_, fun y hy e => ?_⟩
  · split at h1
    · assumption
    · cases h1
  · have := List.all_eq_true.mp h4 y hy
    rw [e] at this
    simp only [Bool.or_eq_true] at this
    exact this.imp eqK_ok eqK_ok
  · have := List.all_eq_true.mp h4 y hy
    rcases e with e | e <;> rw [e] at this <;> simp only [Bool.or_eq_true, Bool.not_eq_true', List.contains_eq_mem, decide_eq_true_eq, decide_eq_false_iff_not] at this <;> exact this
/-! ### calls of the module's defs -/
/-- the def named x, of n parameters, does F -/
structure Callee (P : Program) (w : World) (K : Frag) (mg : Str → Option Value) (base : Heap) (x : Str) (F : Fn) (n k : Nat) : Prop where
  ex : ∃ f fd ps, FnOk P w K mg base (L2.CX P w) k f fd ps (spF K mg F n) ∧ mg x = some (.ref f) ∧ PySem.W.keepIn K (.ref f) = true ∧ Binds K fd ps []
  takes : Takes_ F n
theorem f_call {F : Fn} {n k : Nat} (C : Callee X.prog X.w X.K X.mg X.base x F n k) (hr : Room k X.A) (hg : X.env.kindOf x = some .globalImplicit) (hdb : (x == ("__debug__" : Str)) = false) (ha : RA X (a :: es) cs)
    (he : starEach (a :: es) X.env = (false, eval a X.env) :: starEach es X.env := by rfl) (hpl : (backTo pos (starEach es X.env)).any (·.1) = false := by rfl) :
    RE X (.Call (.Name x p) (a :: es) [] pos) (eCall F cs) := by
  obtain ⟨f, fd, ps, G, hm, hk, hb⟩ := C.ex
  exact re_call G C.takes hr hg hm hk hb ha hdb he hpl
end
/-- THE RULE for a def of the module -/
theorem fn_okD {P : Program} {w : World} {K : Frag} {mg : Str → Option Value} {base : Heap} {x qual : Str} {params : Arguments} {body : List Stmt} {scope : Scope} {f : Addr} {fd : FuncData} {N ps : List Str} {k : Nat} {c : Sx} (F : FunD K x qual params body scope [] [] f fd) (S : FnScope N ps scope) (hn : ps.length ≤ N.length)
    (hb : ∀ (cdv : Value) (A : Around) (outer : List PySem.Env) (s : Shared) (H : Hp) (E : XK), Room k (A.deeper (envOfC qual scope s.heap.objs.size f cdv)) → RSs (cxOf (L2.CX P w) P w K mg base N qual scope f cdv A outer s H E) body c) :
    FnOk P w K mg base (L2.CX P w) (k + 1) f fd ps (spF K mg (fn ps.length N.length c) ps.length) := by
  refine F.ok S (fun vs H Q E h => ?_) (fun cdv A outer s H vs Q E hr h => ?_)
  · obtain ⟨_, _, _, _, _, _, h, _⟩ := h
    exact h
  · obtain ⟨B, φ, ds, st0, r, st', hl, rd, rs, hF, fin⟩ := h
    refine ⟨_, hb cdv A outer s H E hr _ (takes_of rfl rfl rfl rfl), ?_⟩
    unfold fn at hF
    have hds : ds.length = ps.length := rd.length.symm.trans hl
    rw [if_pos hds] at hF
    refine ⟨B, φ, startE N.length ds, st0, ?_⟩
    cases hc : c (startE N.length ds) st0 with
    | none => rw [hc] at hF; cases hF
    | some p =>
      obtain ⟨q, st1⟩ := p
      rw [hc] at hF
      refine ⟨q, st1, REnv.start rd (by omega), rs, rfl, ?_⟩
      cases q with
      | nx e1 =>
        have cf := clean_fin rs hF fin
        exact fun σ' B' φ' H' g rs' re' => cf .non B' φ' H' g rs' .non
      | rt d => exact clean_fin rs hF fin
      | bk _ => cases hF
      | ct _ => cases hF
      | ex x1 e1 =>
        have cf := clean_fin rs hF fin
        exact fun cls dx σ' B' φ' H' g rs' re' rx => cf cls dx B' φ' H' g rs' rx
/-- a def's scope, by one look -/
def scB (N ps : List Str) (sc : Scope) : Bool := (match sc.kind with | .function => true | _ => false) && (!sc.isCoroutine && (!sc.isGenerator && (decide N.Nodup && (decide (N.take ps.length = ps) && (ps.all (fun x => eqK (sc.names.lookup x) .local || eqK (sc.names.lookup x) .cell) && (sc.names.all (fun y => !eqK (some y.2) .free) && Nat.ble ps.length N.length))))))
theorem scB_ok {N ps : List Str} {sc : Scope} (h : scB N ps sc = true) : FnScope N ps sc ∧ ps.length ≤ N.length := by
  unfold scB at h
  simp only [Bool.and_eq_true, Bool.not_eq_true', decide_eq_true_eq] at h
  obtain ⟨h1, h2, h3, h4, h5, h6, h7, h8⟩ := h
  refine ⟨⟨?_, h2, h3, h4, h5, fun x hx => ?_, fun y hy e => ?_⟩, Nat.le_of_ble_eq_true h8⟩
  · split at h1
    · assumption
    · cases h1
  · have := List.all_eq_true.mp h6 x hx
    rw [Bool.or_eq_true] at this
    exact this.imp eqK_ok eqK_ok
  · have := List.all_eq_true.mp h7 y hy
    rw [e] at this
    simp [eqK] at this
theorem room66 {k : Nat} {A : Around} (r : Room k A) : A.units + 66 < cLine := by have := r.un; omega
theorem room1 {k : Nat} {A : Around} (r : Room k A) : A.units + 1 < cLine := by have := r.un; omega
theorem Callee.up {P : Program} {w : World} {K : Frag} {mg : Str → Option Value} {base : Heap} {x : Str} {F : Fn} {n j k : Nat} (C : Callee P w K mg base x F n j) (h : Nat.ble j k = true) : Callee P w K mg base x F n k := by
  obtain ⟨f, fd, ps, G, r⟩ := C.ex
  exact ⟨⟨f, fd, ps, G.mono (Nat.le_of_ble_eq_true h), r⟩, C.takes⟩
/-! ### what is known of the module -/
structure Mo (K : Frag) (mg : Str → Option Value) (fr : List Str) (cs : List (Str × D)) : Prop where
  free : ∀ x, fr.contains x = true → mg x = none
  cst : ∀ p ∈ cs, ∃ u, mg p.1 = some u ∧ kD K 6 u = some p.2
theorem f_glob {X : Cx} {fr : List Str} {cs : List (Str × D)} {x : Str} {d : D} {pos : Pos} (M : Mo X.K X.mg fr cs) (i : Nat) (hi : cs[i]? = some (x, d)) (hg : X.env.kindOf x = some .globalImplicit) (hdb : (x == ("__debug__" : Str)) = false) : RE X (.Name x pos) (eC d) := by
  obtain ⟨u, h1, h2⟩ := M.cst _ (List.mem_of_getElem? hi)
  exact re_glob hg h1 h2 hdb
/-! ### the head: facts of the module by a Hook -/
def gD (K : Frag) (x : Str) : Option D := match PySem.W.nsIn K mainGlobals x with
  | some (some u) => kD K 6 u
  | _ => none
abbrev AlS : Type := He.AlD × List (Option D)
def obsS (fa : List He.Fa) (fn : List He.DefD) (cs : List (Str × D)) (K : Frag) : AlS := (He.obsD fa fn K, cs.map fun p => gD K p.1)
def valS (fn : List He.DefD) (cs : List (Str × D)) : AlS := (He.valD fn, cs.map fun p => some p.2)
def SaysS (fa : List He.Fa) (fn : List He.DefD) (cs : List (Str × D)) (K : Frag) : Prop := obsS fa fn cs K = valS fn cs
def obsSG (n : Nat) (fa : List He.Fa) (fn : List He.DefD) (cs : List (Str × D)) (g : Addr → Option Obj) : AlS := obsS fa fn cs (He.frG g (He.asD g n))
def hookS (n : Nat) (fa : List He.Fa) (fn : List He.DefD) (cs : List (Str × D)) : PySem.W.Hook where
  α := AlS
  obs := fun s => obsSG n fa fn cs s.heap.get?
  val := fun _ => valS fn cs
  says := fun _ h => ∃ K : Frag, K.In h ∧ SaysS fa fn cs K
  of := fun _ _ e => ⟨_, He.frG_in, e⟩
  keeps := fun _ _ _ ⟨K, hK, c⟩ k => ⟨K, PySem.W.Frag.In.keeps hK k, c⟩
theorem obsSG_eq {n : Nat} {fa : List He.Fa} {fn : List He.DefD} {cs : List (Str × D)} {g : Addr → Option Obj} {s : Shared} (h : ∀ a, g a = s.heap.get? a) : obsSG n fa fn cs g = (hookS n fa fn cs).obs s := by
  have e : g = s.heap.get? := funext h
  rw [e]; rfl
theorem SaysS.d {fa : List He.Fa} {fn : List He.DefD} {cs : List (Str × D)} {K : Frag} (c : SaysS fa fn cs K) : He.SaysD fa fn K := congrArg Prod.fst c
theorem map_eq_mem {α β : Type} {f g : α → β} : ∀ {l : List α}, l.map f = l.map g → ∀ x ∈ l, f x = g x
  | y :: l, h, x, hx => by
    rw [List.map_cons, List.map_cons] at h
    injection h with h1 h2
    rcases List.mem_cons.mp hx with e | e
    · rw [e]; exact h1
    · exact map_eq_mem h2 x e
/-- what is known of the module, by the Hook -/
theorem SaysS.mo {fa : List He.Fa} {fn : List He.DefD} {cs : List (Str × D)} {K : Frag} {h : Heap} {mg : Str → Option Value} {fr : List Str} (c : SaysS fa fn cs K) (X : K.In h) (G : h.Ns mainGlobals mg) (hf : (fr.all fun x => fa.any fun f => match f with | .free y => x == y | _ => false) = true) : Mo K mg fr cs := by
  refine ⟨fun x hx => ?_, fun p hp => ?_⟩
  · have h1 := List.all_eq_true.mp hf x (by simpa using hx)
    obtain ⟨f, hf1, hf2⟩ := List.any_eq_true.mp h1
    cases f with
    | free y =>
      have : x = y := by simpa using hf2
      subst this
      obtain ⟨i, hi⟩ := List.mem_iff_getElem?.mp hf1
      exact He.free_ok X G (c.d.fact i hi)
    | _ => cases hf2
  · have e := map_eq_mem (congrArg Prod.snd c) p hp
    have e : gD K p.1 = some p.2 := e
    unfold gD at e
    split at e
    · rename_i u hu
      exact ⟨u, PySem.W.mg_of X G hu, e⟩
    · cases e
/-- a law: its def does F, and F says true -/
theorem walk_ofX {l : PySem.W.OpenLaw} {n k : Nat} {q : Program} {loose : List Str} {XP : (Str → Option Value) → Heap → Prop} {YP : World → Heap → Prop} {d : DefRec} {x : Str} {F : Fn}
    (hn : l.most = some n) (hn2 : n ≤ sizeLine) (hdf : d.params.defaults = []) (hr : Room k callerA) (hF : ∀ ns : List Int, ns.length ≤ n → ∃ st, F [.scr ns] [] = some (.ok (.bl true), st))
    (W : ∀ (w : World) (mg : Str → Option Value) (fa : Addr) (h : Heap), YP w h → h.Ns mainGlobals mg → mg d.name = some (.ref fa) →
      ∃ (K : Frag) (fd : FuncData), K.In h ∧ (∀ (s : Shared) (u : Value), BindsTo s fd ⟨[u], []⟩ [(x, u)]) ∧
        ∀ base : Heap, K.In base → base.Ns mainGlobals mg → FnOk l.prog w K mg base (L2.CX l.prog w) k fa fd [x] (spF K mg F 1)) :
    PySem.W.WalkO q loose XP YP l.row.toRowW d [] (fun f vs => PySem.call f vs) := by
  refine Att.attach_call hn hdf fun w s₀ s₁ mg mb fa o pm cd doc a vs ns G Y ho hd hcd hmg hobj hints hlen hg => ?_
  obtain ⟨K, fd, KX, hb, hFn⟩ := W w mg fa _ Y G.T.g hmg
  refine law_call KX G.T.g G.T.b G.T.builtins G.T.nolimit hg hobj hints (Nat.le_trans hlen hn2) hr hFn hb (fun H hO hS => ?_) fun H e s' h => ?_
  · obtain ⟨st, hst⟩ := hF ns hlen
    have sc : ScrAt K H a ns := by
      rcases hS with (e | ⟨q, e⟩) | h
      · rcases hO a with z | ⟨q, xs, z⟩ <;> (rw [z] at e; cases e)
      · exact .inl ⟨q, e⟩
      · exact .inr h
    exact ⟨fun _ => False, [], [.scr ns], [], _, st, rfl, .cons (.scr sc) .nil, ⟨rfl, .nil, fun a h => by simp at h, fun a h => h.elim, fun n c h => by simp at h⟩, hst, fun v B' φ' H' g rs r => by cases r; rfl⟩
  · obtain ⟨_, _, _, _, _, _, _, _, _, _, _, _, z⟩ := h
    exact z
theorem callee_of {P : Program} {w : World} {K : Frag} {mg : Str → Option Value} {base : Heap} {x qual : Str} {params : Arguments} {body : List Stmt} {scope : Scope} {f : Addr} {fd : FuncData} {N ps : List Str} {k : Nat} {c : Sx} (F : FunD K x qual params body scope [] [] f fd) (hm : mg x = some (.ref f)) (S : scB N ps scope = true)
    (hbd : ∀ (kV doc pm : Value) (an : Option Addr) (cdv ct : Value) (us : List Value), us.length = ps.length → bindArgs (PySem.W.fnOf x qual params body scope .none kV doc pm an cdv ct) ⟨us, []⟩ = pure (ps.zip us))
    (hb : ∀ (cdv : Value) (A : Around) (outer : List PySem.Env) (s : Shared) (H : Hp) (E : XK), N.Nodup → Room k (A.deeper (envOfC qual scope s.heap.objs.size f cdv)) → RSs (cxOf (L2.CX P w) P w K mg base N qual scope f cdv A outer s H E) body c) :
    Callee P w K mg base x (fn ps.length N.length c) ps.length (k + 1) :=
  ⟨⟨f, fd, ps, fn_okD F (scB_ok S).1 (scB_ok S).2 (fun cdv A outer s H E hr => hb cdv A outer s H E (scB_ok S).1.nd hr), hm, F.kp, F.bindsN hbd⟩, fn_takes⟩
theorem fnok_of {P : Program} {w : World} {K : Frag} {mg : Str → Option Value} {base : Heap} {x qual : Str} {params : Arguments} {body : List Stmt} {scope : Scope} {f : Addr} {fd : FuncData} {N ps : List Str} {k : Nat} {c : Sx} (F : FunD K x qual params body scope [] [] f fd) (S : scB N ps scope = true)
    (hb : ∀ (cdv : Value) (A : Around) (outer : List PySem.Env) (s : Shared) (H : Hp) (E : XK), N.Nodup → Room k (A.deeper (envOfC qual scope s.heap.objs.size f cdv)) → RSs (cxOf (L2.CX P w) P w K mg base N qual scope f cdv A outer s H E) body c) :
    FnOk P w K mg base (L2.CX P w) (k + 1) f fd ps (spF K mg (fn ps.length N.length c) ps.length) :=
  fn_okD F (scB_ok S).1 (scB_ok S).2 (fun cdv A outer s H E hr => hb cdv A outer s H E (scB_ok S).1.nd hr)
end Sw

/-! Wp: what a combinator comes to, told from behind. -/
set_option linter.all false
set_option maxRecDepth 100000
namespace Sw
open PySem (Str)
/-- what a value gives that is walked -/
def walkD : D → Option (List D)
  | .str s => some (s.cps.toList.map fun c => .str ⟨#[c]⟩)
  | .tup xs => some xs
  | .lst xs => some xs
  | _ => none
/-- what zip walks -/
def zip2 (x y : D) : Option (List D) := match x, y with
  | .lst xs, .lst ys => some (zipL xs ys)
  | .tup xs, .tup ys => some (zipL xs ys)
  | _, _ => none
/-- c gives a value (no exception) for which Q holds -/
def WE {α : Type} (c : Act α) (e : Env) (st : Store) (Q : α → Store → Prop) : Prop := ∃ r st', c e st = some (.ok r, st') ∧ Q r st'
/-- c ends in a way for which Q holds -/
def WS (c : Sx) (e : Env) (st : Store) (Q : SR → Store → Prop) : Prop := ∃ r st', c e st = some (r, st') ∧ Q r st'
section
variable {α β : Type} {e : Env} {st : Store}
theorem WE.mono {c : Act α} {Q Q' : α → Store → Prop} (h : WE c e st Q) (f : ∀ r s, Q r s → Q' r s) : WE c e st Q' := by
  obtain ⟨r, s, h1, h2⟩ := h
  exact ⟨r, s, h1, f r s h2⟩
theorem WS.mono {c : Sx} {Q Q' : SR → Store → Prop} (h : WS c e st Q) (f : ∀ r s, Q r s → Q' r s) : WS c e st Q' := by
  obtain ⟨r, s, h1, h2⟩ := h
  exact ⟨r, s, h1, f r s h2⟩
theorem w_bind {a : Act α} {f : α → Act β} {Q : β → Store → Prop} (h : WE a e st fun x s1 => WE (f x) e s1 Q) : WE (a.bind f) e st Q := by
  obtain ⟨x, s1, h1, y, s2, h2, q⟩ := h
  exact ⟨y, s2, by unfold Act.bind; rw [h1]; exact h2, q⟩
theorem w_pure {v : α} {Q : α → Store → Prop} (h : Q v st) : WE (Act.pure v) e st Q := ⟨v, st, rfl, h⟩
theorem w_look {f : Store → Option α} {Q : α → Store → Prop} (h : ∃ z, f st = some z ∧ Q z st) : WE (look f) e st Q := by
  obtain ⟨z, h1, h2⟩ := h
  exact ⟨z, st, by unfold look; rw [h1]; rfl, h2⟩
theorem w_var {i : Nat} {d : D} {Q : D → Store → Prop} (h : e[i]? = some (some d)) (q : Q d st) : WE (eVar i) e st Q := ⟨d, st, by unfold eVar; rw [h], q⟩
theorem w_c {d : D} {Q : D → Store → Prop} (q : Q d st) : WE (eC d) e st Q := ⟨d, st, rfl, q⟩
theorem w_op1 {g : Store → D → Option D} {a : Ex} {Q : D → Store → Prop} (h : WE a e st fun x s1 => ∃ z, g s1 x = some z ∧ Q z s1) : WE (op1 g a) e st Q := w_bind (h.mono fun _ _ q => w_look q)
theorem w_op2 {g : Store → D → D → Option D} {a b : Ex} {Q : D → Store → Prop} (h : WE a e st fun x s1 => WE b e s1 fun y s2 => ∃ z, g s2 x y = some z ∧ Q z s2) : WE (op2 g a b) e st Q := w_bind (h.mono fun _ _ q => w_bind (q.mono fun _ _ q => w_look q))
theorem w_enot {a : Ex} {Q : D → Store → Prop} (h : WE a e st fun x s1 => ∃ z, vNot s1 x = some z ∧ Q z s1) : WE (eNotT a) e st Q := w_op1 h
theorem w_opA {g : Store → List D → Option D} {a : Ax} {Q : D → Store → Prop} (h : WE a e st fun x s1 => ∃ z, g s1 x = some z ∧ Q z s1) : WE (opA g a) e st Q := w_bind (h.mono fun _ _ q => w_look q)
theorem w_nil {Q : List D → Store → Prop} (q : Q [] st) : WE aNil e st Q := ⟨[], st, rfl, q⟩
theorem w_cons {a : Ex} {r : Ax} {Q : List D → Store → Prop} (h : WE a e st fun x s1 => WE r e s1 fun xs s2 => Q (x :: xs) s2) : WE (aCons a r) e st Q := w_bind (h.mono fun _ _ q => w_bind (q.mono fun _ _ q => w_pure q))
theorem w_tup {a : Ax} {Q : D → Store → Prop} (h : WE a e st fun xs s1 => xs.length ≤ PySem.sizeLine ∧ Q (.tup xs) s1) : WE (eTup a) e st Q := w_opA (h.mono fun xs _ q => ⟨_, if_pos q.1, q.2⟩)
theorem w_lst {a : Ax} {Q : D → Store → Prop} (h : WE a e st fun xs s1 => xs.length ≤ PySem.sizeLine ∧ Q (.lst xs) s1) : WE (eLst a) e st Q := w_opA (h.mono fun xs _ q => ⟨_, if_pos q.1, q.2⟩)
theorem w_lstC {a : Ax} {Q : D → Store → Prop} (h : WE a e st fun xs s1 => xs.length ≤ PySem.sizeLine ∧ Q (.loc s1.length) (s1 ++ [.lst xs])) : WE (eLstC a) e st Q := w_bind (h.mono fun xs s1 q => ⟨_, _, by rw [if_pos q.1]; rfl, q.2⟩)
theorem w_pnone {Q : Option Int → Store → Prop} (q : Q none st) : WE pNone e st Q := ⟨none, st, rfl, q⟩
theorem w_psome {a : Ex} {Q : Option Int → Store → Prop} (h : WE a e st fun d s1 => ∃ i, d = .int i ∧ Q (some i) s1) : WE (pSome a) e st Q := w_bind (h.mono fun d s1 ⟨i, e, q⟩ => by subst e; exact w_pure q)
theorem w_slice {a : Ex} {l h : Px} {Q : D → Store → Prop} (w : WE a e st fun d s1 => WE l e s1 fun lo s2 => WE h e s2 fun hi s3 => ∃ z, vSlice s3 d lo hi = some z ∧ Q z s3) : WE (eSlice a l h) e st Q :=
  w_bind (w.mono fun _ _ q => w_bind (q.mono fun _ _ q => w_bind (q.mono fun _ _ q => w_look q)))
theorem w_tv {a : Ex} {Q : Bool → Store → Prop} (h : WE a e st fun d s1 => ∃ b, truth s1 d = some b ∧ Q b s1) : WE (tV a) e st Q := w_bind (h.mono fun _ _ q => w_look q)
theorem w_not {t : Tx} {Q : Bool → Store → Prop} (h : WE t e st fun b s1 => Q (!b) s1) : WE (tNot t) e st Q := w_bind (h.mono fun _ _ q => w_pure q)
theorem w_and {t u : Tx} {Q : Bool → Store → Prop} (h : WE t e st fun b s1 => (b = true → WE u e s1 Q) ∧ (b = false → Q false s1)) : WE (tAnd t u) e st Q := w_bind (h.mono fun b s1 q => by
  cases b with
  | true => exact q.1 rfl
  | false => exact ⟨false, s1, rfl, q.2 rfl⟩)
theorem w_or {t u : Tx} {Q : Bool → Store → Prop} (h : WE t e st fun b s1 => (b = false → WE u e s1 Q) ∧ (b = true → Q true s1)) : WE (tOr t u) e st Q := w_bind (h.mono fun b s1 q => by
  cases b with
  | false => exact q.1 rfl
  | true => exact ⟨true, s1, rfl, q.2 rfl⟩)
theorem w_if {t : Tx} {a b : Ex} {Q : D → Store → Prop} (h : WE t e st fun k s1 => (k = true → WE a e s1 Q) ∧ (k = false → WE b e s1 Q)) : WE (eIf t a b) e st Q := w_bind (h.mono fun k s1 q => by
  cases k with
  | true => exact q.1 rfl
  | false => exact q.2 rfl)
theorem w_eand {a b : Ex} {Q : D → Store → Prop} (h : WE a e st fun d s1 => ∃ k, truth s1 d = some k ∧ (k = true → WE b e s1 Q) ∧ (k = false → Q d s1)) : WE (eAnd a b) e st Q := w_bind (h.mono fun d s1 ⟨k, hk, q⟩ => w_bind (w_look ⟨k, hk, by
  cases k with
  | true => exact q.1 rfl
  | false => exact w_c (q.2 rfl)⟩))
theorem w_eor {a b : Ex} {Q : D → Store → Prop} (h : WE a e st fun d s1 => ∃ k, truth s1 d = some k ∧ (k = false → WE b e s1 Q) ∧ (k = true → Q d s1)) : WE (eOr a b) e st Q := w_bind (h.mono fun d s1 ⟨k, hk, q⟩ => w_bind (w_look ⟨k, hk, by
  cases k with
  | false => exact q.1 rfl
  | true => exact w_c (q.2 rfl)⟩))
theorem w_chain {g g' : Store → D → D → Option D} {a b c : Ex} {Q : D → Store → Prop} (h : WE a e st fun x s1 => WE b e s1 fun y s2 => ∃ k, g s2 x y = some (.bl k) ∧ (k = true → WE c e s2 fun z s3 => ∃ w, g' s3 y z = some w ∧ Q w s3) ∧ (k = false → Q (.bl false) s2)) : WE (eChain g g' a b c) e st Q :=
  w_bind (h.mono fun x s1 q => w_bind (q.mono fun y s2 ⟨k, hk, q1, q2⟩ => w_bind (w_look ⟨_, hk, by
    cases k with
    | true => exact w_bind ((q1 rfl).mono fun _ _ q => w_look q)
    | false => exact w_c (q2 rfl)⟩)))
theorem w_call {F : Fn} {a : Ax} {Q : D → Store → Prop} (h : WE a e st fun ds s1 => ∃ r s2, viewCall F ds s1 = some (.ok r, s2) ∧ Q r s2) : WE (eCall F a) e st Q := w_bind (h.mono fun _ _ q => q)
theorem w_lc {it : Act (List D)} {g : Tg} {vs : List Nat} {c : Tx} {y : Ex} {Q : D → Store → Prop} (h : WE it e st fun ds s1 => ∃ ys s2, compL g c y ds (wipe e vs) s1 = some (ys, s2) ∧ Q (.lst ys) s2) : WE (eLc it g vs c y) e st Q :=
  w_bind (h.mono fun ds s1 ⟨ys, s2, h1, q⟩ => ⟨_, s2, by dsimp only; rw [h1], q⟩)
theorem w_seqi {a : Ex} {Q : List D → Store → Prop} (h : WE a e st fun d s1 => ∃ xs, walkD d = some xs ∧ Q xs s1) : WE (iSeq a) e st Q := w_bind (h.mono fun d s1 ⟨xs, e, q⟩ => w_look ⟨xs, by cases d <;> exact e, q⟩)
theorem w_opAS {g : Store → List D → Option (D × Store)} {a : Ax} {Q : D → Store → Prop} (h : WE a e st fun x s1 => ∃ z s2, g s1 x = some (z, s2) ∧ Q z s2) : WE (opAS g a) e st Q := w_bind (h.mono fun _ _ ⟨z, s2, h1, q⟩ => ⟨z, s2, by dsimp only; rw [h1]; rfl, q⟩)
theorem w_meth {T : String} {g : Store → D → List D → Option (D × Store)} {a : Ex} {as : Ax} {Q : D → Store → Prop} (h : WE a e st fun x s1 => tyN s1 x = some T ∧ WE as e s1 fun xs s2 => ∃ z s3, g s2 x xs = some (z, s3) ∧ Q z s3) : WE (eMeth T g a as) e st Q :=
  w_bind (h.mono fun x s1 ⟨ty, q⟩ => w_bind ⟨(), s1, by unfold look; dsimp only; rw [if_pos ty]; rfl, w_bind (q.mono fun _ _ ⟨z, s2, h1, q⟩ => ⟨z, s2, by dsimp only; rw [h1]; rfl, q⟩)⟩)
theorem w_range1 {a : Ex} {Q : List D → Store → Prop} (h : WE a e st fun d s1 => ∃ j, d = .int j ∧ (j ≤ PySem.sizeLine ∧ -(2 ^ 62) ≤ j) ∧ Q (rangeL 0 j) s1) : WE (iRange1 a) e st Q := w_bind (h.mono fun d s1 ⟨j, e, h1, q⟩ => by subst e; exact w_look ⟨_, if_pos h1, q⟩)
theorem w_zip2 {a b : Ex} {Q : List D → Store → Prop} (h : WE a e st fun x s1 => WE b e s1 fun y s2 => ∃ z, zip2 x y = some z ∧ Q z s2) : WE (iZip2 a b) e st Q := w_bind (h.mono fun x _ q => w_bind (q.mono fun y _ ⟨z, h1, q⟩ => w_look ⟨z, by unfold zip2 at h1; exact h1, q⟩))
/-! ### statements -/
theorem w_skip {Q : SR → Store → Prop} (q : Q (.nx e) st) : WS sSkip e st Q := ⟨_, _, rfl, q⟩
theorem w_sseq {a b : Sx} {Q : SR → Store → Prop} (h : WS a e st fun r s1 => (∀ e1, r = .nx e1 → WS b e1 s1 Q) ∧ ((∀ e1, r ≠ .nx e1) → Q r s1)) : WS (sSeq a b) e st Q := by
  obtain ⟨r, s1, h1, h2, h3⟩ := h
  unfold WS sSeq
  rw [h1]
  cases r with
  | nx e1 => exact h2 e1 rfl
  | rt d => exact ⟨_, _, rfl, h3 (fun _ => by simp)⟩
  | bk d => exact ⟨_, _, rfl, h3 (fun _ => by simp)⟩
  | ct d => exact ⟨_, _, rfl, h3 (fun _ => by simp)⟩
  | ex d f => exact ⟨_, _, rfl, h3 (fun _ => by simp)⟩
/-- the first goes on -/
theorem w_then {a b : Sx} {Q : SR → Store → Prop} (h : WS a e st fun r s1 => match r with | .nx e1 => WS b e1 s1 Q | r => Q r s1) : WS (sSeq a b) e st Q :=
  w_sseq (h.mono fun r s1 q => ⟨fun e1 h => by subst h; exact q, fun h => by cases r <;> first | exact absurd rfl (h _) | exact q⟩)
theorem w_do {a : Ex} {Q : SR → Store → Prop} (h : WE a e st fun _ s1 => Q (.nx e) s1) : WS (sDo a) e st Q := by
  obtain ⟨r, s1, h1, q⟩ := h
  exact ⟨_, s1, by unfold sDo; rw [h1], q⟩
theorem w_ret {a : Ex} {Q : SR → Store → Prop} (h : WE a e st fun d s1 => Q (.rt d) s1) : WS (sRet a) e st Q := by
  obtain ⟨r, s1, h1, q⟩ := h
  exact ⟨_, s1, by unfold sRet; rw [h1], q⟩
theorem w_asg {a : Ex} {g : Tg} {Q : SR → Store → Prop} (h : WE a e st fun d s1 => ∃ e' s2, g d e s1 = some (e', s2) ∧ Q (.nx e') s2) : WS (sAsg a g) e st Q := by
  obtain ⟨r, s1, h1, e', s2, h2, q⟩ := h
  exact ⟨_, s2, by unfold sAsg; rw [h1]; dsimp only; rw [h2], q⟩
theorem w_set {i : Nat} {a : Ex} {Q : SR → Store → Prop} (h : WE a e st fun d s1 => Q (.nx (e.set i (some d))) s1) : WS (sSet i a) e st Q := w_asg (h.mono fun d s1 q => ⟨_, _, rfl, q⟩)
theorem w_aug {i : Nat} {f : Store → D → D → Option D} {a : Ex} {Q : SR → Store → Prop} (h : ∃ x, e[i]? = some (some x) ∧ WE a e st fun d s1 => ∃ z, f s1 x d = some z ∧ Q (.nx (e.set i (some z))) s1) : WS (sAug i f a) e st Q := by
  obtain ⟨x, hx, r, s1, h1, z, h2, q⟩ := h
  exact ⟨_, s1, by unfold sAug; rw [hx]; dsimp only; rw [h1]; dsimp only; rw [h2], q⟩
theorem w_augS {f : Store → D → D → Option D} {o i a : Ex} {Q : SR → Store → Prop} (h : WE o e st fun x s1 => WE i e s1 fun k s2 => ∃ y, getIx s2 x k = some y ∧ WE a e s2 fun d s3 => ∃ z, f s3 y d = some z ∧ ∃ s4, setIx s3 x k z = some s4 ∧ Q (.nx e) s4) : WS (sAugS f o i a) e st Q := by
  obtain ⟨x, s1, h1, k, s2, h2, y, h3, d, s3, h4, z, h5, s4, h6, q⟩ := h
  refine ⟨_, s4, ?_, q⟩
  unfold sAugS
  rw [h1]; dsimp only; rw [h2]; dsimp only; rw [h3]; dsimp only; rw [h4]; dsimp only; rw [h5]; dsimp only; rw [h6]
theorem g_set {o i : Ex} {d : D} {P : Env → Store → Prop} (h : WE o e st fun x s1 => WE i e s1 fun k s2 => ∃ s3, setIx s2 x k d = some s3 ∧ P e s3) : ∃ e' s', gSet o i d e st = some (e', s') ∧ P e' s' := by
  obtain ⟨x, s1, h1, k, s2, h2, s3, h3, q⟩ := h
  refine ⟨e, s3, ?_, q⟩
  unfold gSet
  rw [h1]; dsimp only; rw [h2]; dsimp only; rw [h3]; rfl
theorem w_par {gs : List Tg} {a : Ax} {Q : SR → Store → Prop} (h : WE a e st fun d s1 => ∃ e' s2, gTups gs d e s1 = some (e', s2) ∧ Q (.nx e') s2) : WS (sPar gs a) e st Q := by
  obtain ⟨r, s1, h1, e', s2, h2, q⟩ := h
  exact ⟨_, s2, by unfold sPar; rw [h1]; dsimp only; rw [h2], q⟩
theorem w_sif {c : Tx} {a b : Sx} {Q : SR → Store → Prop} (h : WE c e st fun k s1 => (k = true → WS a e s1 Q) ∧ (k = false → WS b e s1 Q)) : WS (sIf c a b) e st Q := by
  obtain ⟨k, s1, h1, q1, q2⟩ := h
  unfold WS sIf
  rw [h1]
  cases k with
  | true => exact q1 rfl
  | false => exact q2 rfl
theorem w_break {Q : SR → Store → Prop} (q : Q (.bk e) st) : WS sBreak e st Q := ⟨_, _, rfl, q⟩
theorem w_cont {Q : SR → Store → Prop} (q : Q (.ct e) st) : WS sCont e st Q := ⟨_, _, rfl, q⟩
/-- a loop that goes on: I holds at each head; or it ends within -/
theorem w_forL {g : Tg} {vs : List Nat} {b : Sx} {Q : SR → Store → Prop} : ∀ {ds : List D} {e : Env} {st : Store} (I : List D → Env → Store → Prop), I ds e st →
    (∀ d ds e st, I (d :: ds) e st → ∃ e1 s1, g d e st = some (e1, s1) ∧ WS b e1 s1 fun r s2 => match r with
      | .nx e2 => I ds (wipe e2 vs) s2
      | .ct e2 => I ds (wipe e2 vs) s2
      | .bk e2 => Q (.nx (wipe e2 vs)) s2
      | r => Q r s2) → (∀ e st, I [] e st → Q (.nx e) st) → WS (forL g vs b ds) e st Q
  | [], e, st, I, h0, _, hd => ⟨_, _, rfl, hd e st h0⟩
  | d :: ds, e, st, I, h0, hs, hd => by
    obtain ⟨e1, s1, h1, r, s2, h2, q⟩ := hs d ds e st h0
    unfold WS forL
    rw [h1]
    dsimp only
    rw [h2]
    cases r with
    | nx e2 => exact w_forL I q hs hd
    | ct e2 => exact w_forL I q hs hd
    | bk e2 => exact ⟨_, _, rfl, q⟩
    | rt d => exact ⟨_, _, rfl, q⟩
    | ex x e => exact ⟨_, _, rfl, q⟩
theorem w_for {it : Act (List D)} {g : Tg} {vs : List Nat} {b : Sx} {Q : SR → Store → Prop} (h : WE it e st fun ds s1 => WS (forL g vs b ds) (wipe e vs) s1 Q) : WS (sFor it g vs b) e st Q := by
  obtain ⟨ds, s1, h1, q⟩ := h
  unfold WS sFor
  rw [h1]
  exact q
/-- a while, by a measure -/
theorem w_while {c : Tx} {vs : List Nat} {b : Sx} {Q : SR → Store → Prop} (I : Nat → Env → Store → Prop) (m : Nat) (h0 : I m (wipe e vs) st)
    (hs : ∀ m e st, I m e st → WE c e st fun k s1 => (k = false → Q (.nx e) s1) ∧ (k = true → WS b e s1 fun r s2 => match r with
      | .nx e2 => ∃ m', m' < m ∧ I m' (wipe e2 vs) s2
      | .ct e2 => ∃ m', m' < m ∧ I m' (wipe e2 vs) s2
      | .bk e2 => Q (.nx (wipe e2 vs)) s2
      | r => Q r s2)) : WS (sWhile c vs b) e st Q := by
  have go : ∀ (n m : Nat) (e : Env) (st : Store), m < n → I m e st → ∃ k r st', whileN c vs b k e st = some (r, st') ∧ Q r st' := by
    intro n
    induction n with
    | zero => intro m e st h; omega
    | succ n ih =>
      intro m e st hm hi
      obtain ⟨k, s1, h1, q1, q2⟩ := hs m e st hi
      cases k with
      | false => exact ⟨1, .nx e, s1, by unfold whileN; rw [h1], q1 rfl⟩
      | true =>
        obtain ⟨r, s2, h2, q⟩ := q2 rfl
        cases r with
        | nx e2 =>
          obtain ⟨m', hm', hi'⟩ := q
          obtain ⟨k, r, st', h3, q⟩ := ih m' _ _ (by omega) hi'
          exact ⟨k + 1, r, st', by unfold whileN; rw [h1]; dsimp only; rw [h2]; exact h3, q⟩
        | ct e2 =>
          obtain ⟨m', hm', hi'⟩ := q
          obtain ⟨k, r, st', h3, q⟩ := ih m' _ _ (by omega) hi'
          exact ⟨k + 1, r, st', by unfold whileN; rw [h1]; dsimp only; rw [h2]; exact h3, q⟩
        | bk e2 => exact ⟨1, _, s2, by unfold whileN; rw [h1]; dsimp only; rw [h2], q⟩
        | rt d => exact ⟨1, _, s2, by unfold whileN; rw [h1]; dsimp only; rw [h2], q⟩
        | ex x e => exact ⟨1, _, s2, by unfold whileN; rw [h1]; dsimp only; rw [h2], q⟩
  obtain ⟨k, r, st', h, q⟩ := go (m + 1) m _ _ (Nat.lt_succ_self m) h0
  exact ⟨r, st', sWhile_iff.mpr ⟨k, h⟩, q⟩
/-- a comprehension: R tells what each item gives -/
theorem compL_all {g : Tg} {c : Tx} {y : Ex} {e : Env} (I : Store → Prop) (P : D → Prop) : ∀ {ds : List D} {st : Store}, I st → (∀ d ∈ ds, ∀ st, I st → ∃ e1 s1, g d e st = some (e1, s1) ∧ WE c e1 s1 fun k s2 => (k = true → WE y e1 s2 fun v s3 => P v ∧ I s3) ∧ (k = false → I s2)) →
    ∃ ys s', compL g c y ds e st = some (ys, s') ∧ (∀ v ∈ ys, P v) ∧ I s' ∧ ys.length ≤ ds.length
  | [], st, h0, _ => ⟨[], st, rfl, by simp, h0, Nat.le_refl _⟩
  | d :: ds, st, h0, hs => by
    obtain ⟨e1, s1, h1, k, s2, h2, q1, q2⟩ := hs d (by simp) st h0
    unfold compL
    rw [h1]
    dsimp only
    rw [h2]
    cases k with
    | true =>
      obtain ⟨v, s3, h3, pv, i3⟩ := q1 rfl
      dsimp only
      rw [h3]
      obtain ⟨ys, s', h4, a1, a2, a3⟩ := compL_all I P i3 fun d hd => hs d (List.mem_cons_of_mem _ hd)
      exact ⟨v :: ys, s', by dsimp only; rw [h4], fun w hw => by
        rcases List.mem_cons.mp hw with z | z
        · rw [z]; exact pv
        · exact a1 w z, a2, by simpa using a3⟩
    | false =>
      obtain ⟨ys, s', h4, a1, a2, a3⟩ := compL_all I P (q2 rfl) fun d hd => hs d (List.mem_cons_of_mem _ hd)
      exact ⟨ys, s', h4, a1, a2, Nat.le_succ_of_le a3⟩
/-- a comprehension without effects: f d is what d gives, if anything -/
theorem compL_pure {g : Tg} {c : Tx} {y : Ex} {e : Env} {st : Store} (f : D → Option D) : ∀ {ds : List D}, (∀ d ∈ ds, ∃ e1, g d e st = some (e1, st) ∧ WE c e1 st fun k s2 => s2 = st ∧ (k = true → WE y e1 st fun v s3 => s3 = st ∧ f d = some v) ∧ (k = false → f d = none)) →
    compL g c y ds e st = some (ds.filterMap f, st)
  | [], _ => rfl
  | d :: ds, hs => by
    obtain ⟨e1, h1, k, s2, h2, rfl, q1, q2⟩ := hs d (by simp)
    have ih := compL_pure f (ds := ds) fun d hd => hs d (List.mem_cons_of_mem _ hd)
    unfold compL
    rw [h1]
    dsimp only
    rw [h2]
    cases k with
    | true =>
      obtain ⟨v, s3, h3, rfl, fv⟩ := q1 rfl
      dsimp only
      rw [h3]
      dsimp only
      rw [ih, List.filterMap_cons, fv]
    | false =>
      dsimp only
      rw [ih, List.filterMap_cons, q2 rfl]
end
/-- a comprehension over coded items, without effects -/
theorem compL_filter {α : Type} {g : Tg} {c : Tx} {y : Ex} {e : Env} {st : Store} (i o : α → D) (p : α → Bool) : ∀ {xs : List α}, (∀ x ∈ xs, ∃ e1, g (i x) e st = some (e1, st) ∧ WE c e1 st (fun k s => k = p x ∧ s = st) ∧ (p x = true → WE y e1 st fun v s => v = o x ∧ s = st)) →
    compL g c y (xs.map i) e st = some ((xs.filter p).map o, st)
  | [], _ => rfl
  | x :: xs, h => by
    obtain ⟨e1, h1, ⟨k, s1, h2, rfl, rfl⟩, h3⟩ := h x (by simp)
    have ih := compL_filter i o p (xs := xs) fun x hx => h x (List.mem_cons_of_mem _ hx)
    rw [List.map_cons]
    unfold compL
    rw [h1]
    dsimp only
    rw [h2]
    cases hp : p x with
    | true =>
      obtain ⟨v, s2, h4, rfl, rfl⟩ := h3 hp
      dsimp only
      rw [h4]
      dsimp only
      rw [ih, List.filter_cons_of_pos hp, List.map_cons]
    | false =>
      dsimp only
      rw [ih, List.filter_cons_of_neg (by simp [hp])]
theorem compL_map {α : Type} {g : Tg} {y : Ex} {e : Env} {st : Store} (i o : α → D) {xs : List α} (h : ∀ x ∈ xs, ∃ e1, g (i x) e st = some (e1, st) ∧ WE y e1 st fun v s => v = o x ∧ s = st) : compL g tYes y (xs.map i) e st = some (xs.map o, st) := by
  have := compL_filter (c := tYes) (y := y) (g := g) (e := e) (st := st) i o (fun _ => true) (xs := xs) fun x hx => by
    obtain ⟨e1, h1, h2⟩ := h x hx
    exact ⟨e1, h1, ⟨true, st, rfl, rfl, rfl⟩, fun _ => h2⟩
  rw [this, List.filter_eq_self.mpr (by intro _ _; rfl)]
theorem compL_mapD {g : Tg} {y : Ex} {e : Env} {st : Store} (o : D → D) {xs : List D} (h : ∀ x ∈ xs, ∃ e1, g x e st = some (e1, st) ∧ WE y e1 st fun v s => v = o x ∧ s = st) : compL g tYes y xs e st = some (xs.map o, st) := by
  have := compL_map (g := g) (y := y) (e := e) (st := st) id o (xs := xs) h
  rwa [List.map_id] at this
theorem compL_filterD {g : Tg} {c : Tx} {y : Ex} {e : Env} {st : Store} (o : D → D) (p : D → Bool) {xs : List D} (h : ∀ x ∈ xs, ∃ e1, g x e st = some (e1, st) ∧ WE c e1 st (fun k s => k = p x ∧ s = st) ∧ (p x = true → WE y e1 st fun v s => v = o x ∧ s = st)) :
    compL g c y xs e st = some ((xs.filter p).map o, st) := by
  have := compL_filter (g := g) (c := c) (y := y) (e := e) (st := st) id o p (xs := xs) h
  rwa [List.map_id] at this
/-- a dict of what is walked: each item a key -/
theorem compD_keys {g : Tg} {k y : Ex} {e : Env} {st : Store} (o : D) : ∀ {xs : List D} {acc : List (D × D)}, (∀ x ∈ xs, ∃ e1, g x e st = some (e1, st) ∧ isKey x = true ∧ WE k e1 st (fun v s => v = x ∧ s = st) ∧ WE y e1 st fun v s => v = o ∧ s = st) →
    compD g tYes k y xs e st acc = some (xs.foldl (fun acc x => putKv acc x o) acc, st)
  | [], _, _ => rfl
  | x :: xs, acc, h => by
    obtain ⟨e1, h1, hk, ⟨v, s, h2, rfl, rfl⟩, ⟨w, s', h3, rfl, rfl⟩⟩ := h x (by simp)
    unfold compD
    rw [h1]
    dsimp only
    have : tYes e1 s' = some (.ok true, s') := rfl
    rw [this]
    dsimp only
    rw [h2]
    dsimp only
    rw [if_pos hk, h3]
    exact compD_keys (o := w) fun x hx => h x (List.mem_cons_of_mem _ hx)
theorem w_dc {it : Act (List D)} {g : Tg} {vs : List Nat} {c : Tx} {k y : Ex} {e : Env} {st : Store} {Q : D → Store → Prop} (h : WE it e st fun ds s1 => ∃ kvs s2, compD g c k y ds (wipe e vs) s1 [] = some (kvs, s2) ∧ Q (.loc s2.length) (s2 ++ [.dct kvs])) : WE (eDc it g vs c k y) e st Q :=
  w_bind (h.mono fun ds s1 ⟨ys, s2, h1, q⟩ => ⟨_, s2 ++ [.dct ys], by dsimp only; rw [h1], q⟩)
/-- each thing once, at its first place -/
def once {α : Type} [DecidableEq α] (xs : List α) : List α := xs.foldl (fun acc x => if x ∈ acc then acc else acc ++ [x]) []
section
variable {α : Type} [DecidableEq α]
theorem once_len : ∀ (xs acc : List α), acc.Nodup → (xs.foldl (fun acc x => if x ∈ acc then acc else acc ++ [x]) acc).length ≤ acc.length + xs.length ∧ ((xs.foldl (fun acc x => if x ∈ acc then acc else acc ++ [x]) acc).length = acc.length + xs.length ↔ (acc ++ xs).Nodup)
  | [], acc, h => by simp [h]
  | x :: xs, acc, h => by
    rw [List.foldl_cons]
    by_cases hx : x ∈ acc
    · rw [if_pos hx]
      obtain ⟨h1, _⟩ := once_len xs acc h
      refine ⟨by rw [List.length_cons]; omega, fun e => by rw [List.length_cons] at e; omega, fun nd => ?_⟩
      rw [List.nodup_append] at nd
      exact absurd rfl (nd.2.2 x hx x (by simp))
    · rw [if_neg hx]
      have nd : (acc ++ [x]).Nodup := by
        rw [List.nodup_append]
        exact ⟨h, by simp, fun a ha b hb e => hx (by have : b = x := by simpa using hb
                                                     rw [← this, ← e]; exact ha)⟩
      obtain ⟨h1, h2⟩ := once_len xs (acc ++ [x]) nd
      rw [List.length_append, List.length_singleton] at h1 h2
      rw [List.append_assoc, List.singleton_append] at h2
      rw [List.length_cons]
      exact ⟨by omega, by rw [← h2]; omega⟩
theorem once_nodup (xs : List α) : (once xs).length = xs.length ↔ xs.Nodup := by
  have := (once_len xs [] List.nodup_nil).2
  unfold once
  simpa using this
theorem once_mem (xs : List α) : ∀ (acc : List α) (k : α), k ∈ xs.foldl (fun acc x => if x ∈ acc then acc else acc ++ [x]) acc ↔ k ∈ acc ∨ k ∈ xs := by
  induction xs with
  | nil => intro acc k; simp
  | cons x xs ih =>
    intro acc k
    rw [List.foldl_cons]
    by_cases hx : x ∈ acc
    · rw [if_pos hx, ih, List.mem_cons]
      constructor
      · rintro (h | h)
        · exact .inl h
        · exact .inr (.inr h)
      · rintro (h | rfl | h)
        · exact .inl h
        · exact .inl hx
        · exact .inr h
    · rw [if_neg hx, ih, List.mem_append, List.mem_singleton, List.mem_cons, or_assoc]
theorem once_nd (xs : List α) : ∀ (acc : List α), acc.Nodup → (xs.foldl (fun acc x => if x ∈ acc then acc else acc ++ [x]) acc).Nodup := by
  induction xs with
  | nil => intro acc h; exact h
  | cons x xs ih =>
    intro acc h
    rw [List.foldl_cons]
    by_cases hx : x ∈ acc
    · rw [if_pos hx]; exact ih acc h
    · rw [if_neg hx]
      refine ih _ ?_
      rw [List.nodup_append]
      exact ⟨h, by simp, fun a ha b hb e => hx (by have : b = x := by simpa using hb
                                                   rw [← this, ← e]; exact ha)⟩
theorem once_mem' (xs : List α) (k : α) : k ∈ once xs ↔ k ∈ xs := by
  unfold once
  rw [once_mem]; simp
theorem once_nd' (xs : List α) : (once xs).Nodup := once_nd xs [] List.nodup_nil
theorem keys_put (i : α → D) (hi : ∀ a b, keyEq (i a) (i b) = decide (a = b)) (o : D) : ∀ (xs : List α) (acc : List (D × D)) (ks : List α), acc.map (·.1) = ks.map i →
    ((xs.map i).foldl (fun acc x => putKv acc x o) acc).map (·.1) = (xs.foldl (fun acc x => if x ∈ acc then acc else acc ++ [x]) ks).map i
  | [], acc, ks, h => h
  | x :: xs, acc, ks, h => by
    rw [List.map_cons, List.foldl_cons, List.foldl_cons]
    refine keys_put i hi o xs _ _ ?_
    have ha : (acc.any fun p => keyEq p.1 (i x)) = decide (x ∈ ks) := by
      have e1 : (acc.any fun p => keyEq p.1 (i x)) = (acc.map (·.1)).any fun y => keyEq y (i x) := by rw [List.any_map]; rfl
      rw [e1, h, List.any_map]
      have e2 : ((fun y => keyEq y (i x)) ∘ i) = fun a => decide (a = x) := by funext a; exact hi a x
      rw [e2]
      by_cases hx : x ∈ ks
      · rw [decide_eq_true hx, List.any_eq_true]
        exact ⟨x, hx, decide_eq_true rfl⟩
      · rw [decide_eq_false hx, List.any_eq_false]
        intro a ha he
        exact hx (of_decide_eq_true he ▸ ha)
    unfold putKv
    rw [ha]
    by_cases hx : x ∈ ks
    · rw [decide_eq_true hx, if_pos rfl, if_pos hx, ← h, List.map_map]
      apply List.map_congr_left
      intro p _
      show (if keyEq p.1 (i x) = true then (p.1, o) else p).1 = p.1
      split <;> rfl
    · rw [decide_eq_false hx, if_neg (by decide), if_neg hx, List.map_append, List.map_append, h]
      rfl
theorem dict_keys (i : α → D) (hi : ∀ a b, keyEq (i a) (i b) = decide (a = b)) (o : D) (xs : List α) : ((xs.map i).foldl (fun acc x => putKv acc x o) []).map (·.1) = (once xs).map i := keys_put i hi o xs [] [] rfl
end
/-- neighbours rise -/
def adjI (ns : List Int) : Bool := (ns.zip (ns.drop 1)).all fun p => decide (p.1 < p.2)
theorem adjI_iff : ∀ ns : List Int, adjI ns = true ↔ ns.Pairwise (· < ·)
  | [] => by simp [adjI]
  | [a] => by simp [adjI]
  | a :: b :: r => by
    have ih := adjI_iff (b :: r)
    have e : adjI (a :: b :: r) = (decide (a < b) && adjI (b :: r)) := rfl
    rw [e, Bool.and_eq_true, decide_eq_true_eq, ih, List.pairwise_cons (a := a)]
    constructor
    · rintro ⟨h1, h2⟩
      refine ⟨fun y hy => ?_, h2⟩
      rcases List.mem_cons.mp hy with rfl | h
      · exact h1
      · have := (List.pairwise_cons.mp h2).1 y h
        omega
    · rintro ⟨h1, h2⟩
      exact ⟨h1 b (by simp), h2⟩
theorem adj_sort (ns : List Int) : decide (ns = sortI (once ns)) = adjI ns := by
  have key : ns = sortI (once ns) ↔ adjI ns = true := by
    rw [adjI_iff]
    constructor
    · intro h
      have h1 := sortI_sorted (once ns)
      have h2 : (sortI (once ns)).Nodup := (sortI_perm _).nodup_iff.mpr (once_nd' ns)
      rw [h]
      generalize sortI (once ns) = m at h1 h2
      clear h
      induction m with
      | nil => exact .nil
      | cons x m ih =>
        obtain ⟨a1, a2⟩ := List.pairwise_cons.mp h1
        obtain ⟨b1, b2⟩ := List.nodup_cons.mp h2
        refine List.pairwise_cons.mpr ⟨fun y hy => ?_, ih a2 b2⟩
        have := a1 y hy
        have : x ≠ y := fun z => b1 (z ▸ hy)
        omega
    · intro h
      have nd : ns.Nodup := h.imp fun h => by omega
      exact sortI_eq ((List.perm_ext_iff_of_nodup nd (once_nd' ns)).mpr fun k => (once_mem' ns k).symm) (h.imp fun h => by omega)
  by_cases h : ns = sortI (once ns)
  · rw [decide_eq_true h, key.mp h]
  · rw [decide_eq_false h]
    exact (Bool.eq_false_iff.mpr fun z => h (key.mpr z)).symm
theorem ints_map (ns : List Int) : ints? (ns.map D.int) = some ns := by
  induction ns with
  | nil => rfl
  | cons n ns ih => rw [List.map_cons]; unfold ints?; rw [ih]; rfl
theorem eq_ints {st : Store} (ns ms : List Int) : vEq st (.lst (ns.map D.int)) (.lst (ms.map D.int)) = some (.bl (decide (ns = ms))) := by
  have ok : ∀ ns : List Int, (D.lst (ns.map D.int)).ok = true := fun ns => by
    show (ns.map D.int).all (okd 59) = true
    rw [List.all_map, List.all_eq_true]
    intro _ _; rfl
  unfold vEq
  have e : ∀ ns : List Int, see st (.lst (ns.map D.int)) = .lst (ns.map D.int) := fun _ => rfl
  rw [e, e, ok, ok]
  have : (D.lst (ns.map D.int)).eqv (.lst (ms.map D.int)) = decide (ns = ms) := by
    show ((ns.map D.int).length == (ms.map D.int).length && ((ns.map D.int).zip (ms.map D.int)).all fun p => eqn 59 p.1 p.2) = _
    induction ns generalizing ms with
    | nil => cases ms <;> rfl
    | cons n ns ih =>
      cases ms with
      | nil => rfl
      | cons m ms =>
        have ih := ih ms
        rw [List.map_cons, List.map_cons, List.length_cons, List.length_cons, List.zip_cons_cons, List.all_cons]
        have e1 : eqn 59 (.int n) (.int m) = decide (n = m) := by
          show (n == m) = _
          by_cases h : n = m <;> simp [h]
        dsimp only
        rw [e1]
        have e2 : ((ns.map D.int).length + 1 == (ms.map D.int).length + 1) = ((ns.map D.int).length == (ms.map D.int).length) := by simp
        rw [e2]
        by_cases h : n = m
        · subst h
          rw [decide_eq_true rfl, Bool.true_and, ih]
          simp
        · rw [decide_eq_false h, Bool.false_and, Bool.and_false]
          simp [h]
  rw [this]; rfl
theorem tup_nil {st : Store} {xs : List D} (h : (D.tup xs).ok = true) : vEq st (.tup xs) (.tup []) = some (.bl xs.isEmpty) := by
  unfold vEq
  have e : see st (.tup xs) = .tup xs := rfl
  rw [e, h]
  have : (D.tup xs).eqv (.tup []) = xs.isEmpty := by cases xs <;> rfl
  show some (D.bl ((D.tup xs).eqv (.tup []))) = _
  rw [this]
theorem tup_nnil {st : Store} {xs : List D} (h : (D.tup xs).ok = true) : vNe st (.tup xs) (.tup []) = some (.bl !xs.isEmpty) := by
  unfold vNe
  have e : see st (.tup xs) = .tup xs := rfl
  rw [e, h]
  have : (D.tup xs).eqv (.tup []) = xs.isEmpty := by cases xs <;> rfl
  show some (D.bl !((D.tup xs).eqv (.tup []))) = _
  rw [this]
theorem bls_map (bs : List Bool) : bls? (bs.map D.bl) = some bs := by
  induction bs with
  | nil => rfl
  | cons b bs ih => rw [List.map_cons]; unfold bls?; rw [ih]; rfl
theorem gAll_map {st : Store} (bs : List Bool) : gAll st [.lst (bs.map D.bl)] = some (.bl (bs.all id)) := by
  unfold gAll lstOf
  dsimp only
  rw [Option.bind_some, bls_map]; rfl
/-- [1 ..] == [] -/
theorem ones_nil {α : Type} {st : Store} (ys : List α) : vEq st (.lst (ys.map fun _ => .int 1)) (.lst []) = some (.bl ys.isEmpty) := by
  cases ys with
  | nil => rfl
  | cons y ys =>
    unfold vEq
    have : (see st (.lst ((y :: ys).map fun _ => D.int 1))).ok = true := by
      show ((y :: ys).map fun _ => D.int 1).all (okd 59) = true
      rw [List.all_map, List.all_eq_true]
      intro _ _; rfl
    rw [this]
    rfl
theorem filter_empty {α : Type} (p : α → Bool) (xs : List α) : (xs.filter p).isEmpty = xs.all fun x => !p x := by
  induction xs with
  | nil => rfl
  | cons x xs ih =>
    rw [List.all_cons]
    cases hp : p x with
    | true => rw [List.filter_cons_of_pos hp]; rfl
    | false => rw [List.filter_cons_of_neg (by simp [hp]), ih]; rfl
/-! ### calls -/
theorem ok_top {d : D} (h : d.ok = true) : isTop d = true := by cases d <;> first | rfl | exact h
theorem locIds_ok : ∀ {ds : List D}, (∀ d ∈ ds, D.ok d = true) → locIds ds = []
  | [], _ => rfl
  | d :: r, h => by
    have ih := locIds_ok (ds := r) fun x hx => h x (List.mem_cons_of_mem _ hx)
    have hd := h d (by simp)
    cases d <;> first | (simp [D.ok, okd] at hd; done) | (unfold locIds; exact ih)
theorem inView_ok {d : D} {ids : List Nat} (h : d.ok = true) : inView ids d = d := by
  cases d <;> first | rfl | (simp [D.ok, okd] at h)
theorem map_inView_ok {ids : List Nat} : ∀ {ds : List D}, (∀ d ∈ ds, D.ok d = true) → ds.map (inView ids) = ds
  | [], _ => rfl
  | d :: r, h => by rw [List.map_cons, inView_ok (h d (by simp)), map_inView_ok fun x hx => h x (List.mem_cons_of_mem _ hx)]
theorem outOf_ok {d : D} {ids : List Nat} {n : Nat} (h : d.ok = true) : outOf ids n d = d := by
  cases d <;> first | rfl | (simp [D.ok, okd] at h)
/-- a call without cells -/
theorem call_0 {F : Fn} {ds : List D} {st : Store} {r : D} (hd : ∀ d ∈ ds, D.ok d = true) (hF : F ds [] = some (.ok r, [])) (hr : r.ok = true) : viewCall F ds st = some (.ok r, st) := by
  unfold viewCall
  rw [locIds_ok hd]
  have e1 : ([] : List Nat).mapM (fun n => st[n]?) = some [] := rfl
  dsimp only
  rw [e1, map_inView_ok hd]
  dsimp only
  have e2 : (ds.all isTop && ([] : List Cell).all Cell.ok) = true := by
    rw [Bool.and_eq_true]
    exact ⟨List.all_eq_true.mpr fun d h => ok_top (hd d h), rfl⟩
  rw [if_pos e2, hF]
  dsimp only
  rw [if_pos (by rfl), if_pos (ok_top hr), outOf_ok hr]
  simp [putBack]
/-- a call with one cell, that comes first -/
theorem call_1 {F : Fn} {ds : List D} {st : Store} {n : Nat} {c c' : Cell} {r : D} (hn : st[n]? = some c) (hd : ∀ d ∈ ds, D.ok d = true) (hc : c.ok = true) (hF : F (.loc 0 :: ds) [c] = some (.ok r, [c'])) (hc' : c'.ok = true) (hr : r.ok = true) :
    viewCall F (.loc n :: ds) st = some (.ok r, st.set n c') := by
  have e0 : locIds (.loc n :: ds) = [n] := by
    unfold locIds
    rw [locIds_ok hd]
    rfl
  unfold viewCall
  rw [e0]
  have e1 : [n].mapM (fun n => st[n]?) = some [c] := by
    rw [List.mapM_cons, hn]; rfl
  dsimp only
  rw [e1]
  dsimp only
  have e2 : ((D.loc n :: ds).all isTop && ([c] : List Cell).all Cell.ok) = true := by
    rw [Bool.and_eq_true]
    refine ⟨List.all_eq_true.mpr fun d h => ?_, by simp [hc]⟩
    rcases List.mem_cons.mp h with z | z
    · rw [z]; rfl
    · exact ok_top (hd d z)
  have e3 : (D.loc n :: ds).map (inView [n]) = .loc 0 :: ds := by
    rw [List.map_cons, map_inView_ok hd]
    show D.loc ([n].idxOf n) :: ds = _
    simp
  rw [if_pos e2, e3, hF]
  dsimp only
  rw [if_pos (by simp [hc']), if_pos (ok_top hr), outOf_ok hr]
  simp [putBack]
/-- a def, by its body -/
theorem fn_of {n N : Nat} {b : Sx} {ds : List D} {st : Store} {Q : D → Store → Prop} (hl : ds.length = n) (h : WS b (startE N ds) st fun r s => ∃ d, (r = .rt d ∨ (∃ e, r = .nx e ∧ d = .non)) ∧ ∃ d' s', clean st.length (.ok d) s = some (.ok d', s') ∧ Q d' s') :
    ∃ d s, fn n N b ds st = some (.ok d, s) ∧ Q d s := by
  obtain ⟨r, s, h1, d, hr, d', s', h2, q⟩ := h
  unfold fn
  rw [if_pos hl, h1]
  rcases hr with rfl | ⟨e, rfl, rfl⟩
  · exact ⟨d', s', h2, q⟩
  · exact ⟨d', s', h2, q⟩
theorem clean_ok {n : Nat} {d : D} {s : Store} (hs : (s.take n).all Cell.ok = true) (hd : d.ok = true) : clean n (.ok d) s = some (.ok d, s.take n) := by
  unfold clean
  rw [if_pos hs]
  cases d <;> first | (simp [D.ok, okd] at hd; done) | (dsimp only; rw [if_pos hd])
theorem clean_new {n m : Nat} {c : Cell} {s : Store} (hs : (s.take n).all Cell.ok = true) (hm : n ≤ m) (hc : s[m]? = some c) (ck : c.ok = true) : clean n (.ok (.loc m)) s = some (.ok (.loc n), s.take n ++ [c]) := by
  unfold clean
  rw [if_pos hs]
  dsimp only
  rw [if_neg (by omega), hc]
  dsimp only
  rw [if_pos ck]
end Sw

/-! Lib: helpers of many laws: their mirrors, and what they come to. -/
set_option linter.all false
set_option maxRecDepth 100000
set_option maxHeartbeats 4000000
namespace Sw.Lib
open PySem (Str)
noncomputable def b__law_take : Sx := (sSeq (sIf (tV (op2 vEq (op2 vIx (eVar 0) (eC (.int 0))) (eC (.int 0))))
  (sSeq (sSet 2 (op2 vIx (op2 vAdd (eSlice (op2 vIx (eVar 0) (eC (.int 3))) (pSome (op2 vIx (eVar 0) (eC (.int 2)))) pNone) (eLst (aCons (eC (.int 0)) aNil))) (eC (.int 0))))
  (sSeq (sAugS aAdd (eVar 0) (eC (.int 2)) (eC (.int 1)))
  (sSeq (sIf (tV (op2 vGe (eVar 2) (op2 vPow (eC (.int 10)) (eC (.int 18)))))
  (sAsg (eVar 2) (gSet (eVar 0) (eC (.int 0))))
  sSkip)
  (sSeq (sSet 3 (op2 vAdd (op2 vAdd (op2 vMul (op2 vIx (eVar 0) (eC (.int 1))) (eC (.int 48271))) (op2 vMod (opA gInt (aCons (eVar 2) aNil)) (eC (.int 2147483647)))) (op2 vMul (eC (.int 7919)) (op2 vIx (eVar 0) (eC (.int 2))))))
  (sAsg (op2 vMod (opA gInt (aCons (eVar 3) aNil)) (eC (.int 2147483647))) (gSet (eVar 0) (eC (.int 1))))))))
  sSkip)
  (sSeq (sIf (tV (op2 vGt (op2 vIx (eVar 0) (eC (.int 0))) (eC (.int 0))))
  (sSeq (sSet 4 (op2 vMod (opA gInt (aCons (op2 vIx (eVar 0) (eC (.int 0))) aNil)) (eVar 1)))
  (sSeq (sAsg (op2 vDiv (opA gInt (aCons (op2 vIx (eVar 0) (eC (.int 0))) aNil)) (eVar 1)) (gSet (eVar 0) (eC (.int 0))))
  (sRet (eVar 4))))
  sSkip)
  (sSeq (sSet 5 (op2 vMod (opA gInt (aCons (op2 vMul (op2 vAdd (op2 vIx (eVar 0) (eC (.int 1))) (eC (.int 1))) (eC (.int 39373))) aNil)) (eC (.int 1000000007))))
  (sSeq (sSet 6 (op2 vMod (opA gInt (aCons (op2 vMul (op2 vMod (opA gInt (aCons (op2 vMul (eVar 5) (eVar 5)) aNil)) (eC (.int 998244353))) (eC (.int 30011))) aNil)) (eC (.int 998244353))))
  (sRet (op2 vMod (opA gInt (aCons (op2 vDiv (eVar 6) (eC (.int 7))) aNil)) (eVar 1)))))))
noncomputable def F__law_take : Fn := fn 2 7 b__law_take
noncomputable def b__law_some : Sx := (sRet (op2 vIx (eVar 1) (eCall F__law_take (aCons (eVar 0) (aCons (opA gLen (aCons (eVar 1) aNil)) aNil)))))
noncomputable def F__law_some : Fn := fn 2 2 b__law_some
noncomputable def b__law_bag : Sx := (sRet (eLstC (aCons (eC (.int 0)) (aCons (eC (.int 1234567891)) (aCons (eC (.int 0)) (aCons (eLc (iSeq (eSlice (eVar 0) pNone (pSome (eC (.int 63))))) (gName 2) [1, 2] tYes (opA gAbs (aCons (eVar 2) aNil))) aNil))))))
noncomputable def F__law_bag : Fn := fn 1 3 b__law_bag
noncomputable def b__law_alike_w1 : Sx := (sSeq (sAsg (op2 vIx (eVar 2) (eVar 3)) (gTup [(gName 4), (gName 5)]))
  (sSeq (sAug 3 aAdd (eC (.int 1)))
  (sSeq (sIf (tOr (tV (op2 vNe (op1 (vIsi ["bool"]) (eVar 4)) (op1 (vIsi ["bool"]) (eVar 5)))) (tV (op2 vNe (op1 (vIsi ["str"]) (eVar 4)) (op1 (vIsi ["str"]) (eVar 5)))))
  (sRet (eC (.bl false)))
  sSkip)
  (sSeq (sIf (tV (op2 vNe (op1 (vIsi ["tuple", "list"]) (eVar 4)) (op1 (vIsi ["tuple", "list"]) (eVar 5))))
  (sRet (eC (.bl false)))
  sSkip)
  (sIf (tV (op1 (vIsi ["tuple", "list"]) (eVar 4)))
  (sSeq (sIf (tOr (tV (op2 vNe (op1 (vIsi ["tuple"]) (eVar 4)) (op1 (vIsi ["tuple"]) (eVar 5)))) (tV (op2 vNe (opA gLen (aCons (eVar 4) aNil)) (opA gLen (aCons (eVar 5) aNil)))))
  (sRet (eC (.bl false)))
  sSkip)
  (sDo (eMeth "list" mExtend (eVar 2) (aCons (op2 vZipL (eVar 4) (eVar 5)) aNil))))
  (sIf (tV (op2 vNe (eVar 4) (eVar 5)))
  (sRet (eC (.bl false)))
  sSkip))))))
noncomputable def b__law_alike_t2 : Tx := (tV (op2 vLt (eVar 3) (opA gLen (aCons (eVar 2) aNil))))
noncomputable def b__law_alike : Sx := (sSeq (sPar [gName 2, gName 3] (aCons (eLstC (aCons (eTup (aCons (eVar 0) (aCons (eVar 1) aNil))) aNil)) (aCons (eC (.int 0)) aNil)))
  (sSeq (sWhile b__law_alike_t2 [4, 5] b__law_alike_w1)
  (sRet (eC (.bl true)))))
noncomputable def F__law_alike : Fn := fn 2 6 b__law_alike
theorem vMul_right {st : Store} {i j : Int} (h : isSmall j = true) : vMul st (.int i) (.int j) = some (.int (i * j)) := by
  unfold vMul
  dsimp only
  rw [if_pos (by rw [h, Bool.or_true])]
theorem vMul_left {st : Store} {i j : Int} (h : isSmall i = true) : vMul st (.int i) (.int j) = some (.int (i * j)) := by
  unfold vMul
  dsimp only
  rw [if_pos (by rw [h, Bool.true_or])]
theorem small_of {i : Int} (h0 : 0 ≤ i) (h1 : i < 18446744073709551616) : isSmall i = true := by
  unfold isSmall
  simp only [Bool.and_eq_true, decide_eq_true_eq]
  omega
/-- the bag of a law, as a cell -/
def BagC (c : Cell) : Prop := ∃ (a b k : Int) (xs : List Int), c = .lst [.int a, .int b, .int k, .lst (xs.map D.int)] ∧ 0 ≤ a ∧ 0 ≤ b ∧ 0 ≤ k ∧ (∀ x ∈ xs, 0 ≤ x) ∧ xs.length ≤ 63
theorem okd_ints (n : Nat) (xs : List Int) : (xs.map D.int).all (okd n) = true := by
  rw [List.all_map, List.all_eq_true]
  intro x _
  cases n <;> rfl
theorem bag_ok {c : Cell} (h : BagC c) : c.ok = true := by
  obtain ⟨a, b, k, xs, rfl, _⟩ := h
  show (okd 60 (.int a) && (okd 60 (.int b) && (okd 60 (.int k) && (okd 60 (.lst (xs.map D.int)) && true)))) = true
  have : okd 60 (.lst (xs.map D.int)) = true := okd_ints 59 xs
  rw [this]; rfl
theorem first_cell (st : Store) (xs : List Int) (k : Int) (hk : 0 ≤ k) (hx : ∀ x ∈ xs, 0 ≤ x) : ∃ y, vIx st (.lst (cut (xs.map D.int) (some k) none ++ [.int 0])) (.int 0) = some (.int y) ∧ 0 ≤ y := by
  have e : cut (xs.map D.int) (some k) none = (xs.drop (min k.toNat xs.length)).map D.int := by
    unfold cut cutAt
    dsimp only
    rw [if_neg (by omega), List.length_map, ← List.map_drop, List.take_of_length_le (by simp)]
  rw [e]
  generalize hys : xs.drop (min k.toNat xs.length) = ys
  have hy : ∀ y ∈ ys, 0 ≤ y := fun y h => hx y (List.mem_of_mem_drop (by rw [hys]; exact h))
  cases ys with
  | nil => exact ⟨0, rfl, Int.le_refl 0⟩
  | cons y ys =>
    refine ⟨y, ?_, hy y (by simp)⟩
    show (ix? _ 0).bind _ = _
    unfold ix?
    rw [if_pos (by omega), if_pos (by simp; omega)]
    rfl
mutual
theorem okd_mono : ∀ {n : Nat} {d : D}, okd n d = true → okd (n + 1) d = true
  | n, .non, _ => by cases n <;> rfl
  | n, .bl _, _ => by cases n <;> rfl
  | n, .int _, _ => by cases n <;> rfl
  | n, .str _, _ => by cases n <;> rfl
  | 0, .tup _, h => by cases h
  | 0, .lst _, h => by cases h
  | n + 1, .tup xs, h => okd_monos (n := n) xs h
  | n + 1, .lst xs, h => okd_monos (n := n) xs h
  | n, .loc _, h => by cases n <;> cases h
  | n, .scr _, h => by cases n <;> cases h
theorem okd_monos : ∀ {n : Nat} (xs : List D), xs.all (okd n) = true → xs.all (okd (n + 1)) = true
  | _, [], _ => rfl
  | n, x :: xs, h => by
    rw [List.all_cons, Bool.and_eq_true] at h ⊢
    exact ⟨okd_mono h.1, okd_monos xs h.2⟩
end
theorem okd_up {d : D} (h : okd 59 d = true) : d.ok = true := okd_mono h
theorem take_spec {c : Cell} (h : BagC c) {many : Int} (h0 : 0 < many) (h1 : many < 1073741824) : ∃ v c', F__law_take [.loc 0, .int many] [c] = some (.ok (.int v), [c']) ∧ BagC c' ∧ 0 ≤ v ∧ v < many := by
  obtain ⟨a, b, k, xs, rfl, ha, hb, hk, hx, hl⟩ := h
  suffices hh : ∃ d s, F__law_take [.loc 0, .int many] [.lst [.int a, .int b, .int k, .lst (xs.map D.int)]] = some (.ok d, s) ∧ ∃ v c', d = .int v ∧ s = [c'] ∧ BagC c' ∧ 0 ≤ v ∧ v < many by
    obtain ⟨d, s, e, v, c', rfl, rfl, r⟩ := hh
    exact ⟨v, c', e, r⟩
  refine fn_of rfl ?_
  show WS b__law_take [some (.loc 0), some (.int many), none, none, none, none, none] [.lst [.int a, .int b, .int k, .lst (xs.map D.int)]] _
  unfold b__law_take
  refine w_then (WS.mono (Q := fun r s => ∃ (a b k : Int) (x2 x3 : Option D), r = .nx [some (.loc 0), some (.int many), x2, x3, none, none, none] ∧ s = [.lst [.int a, .int b, .int k, .lst (xs.map D.int)]] ∧ 0 ≤ a ∧ 0 ≤ b ∧ 0 ≤ k) ?_ ?_)
  · refine w_sif ?_
    (repeat (first | (with_reducible refine w_then ?_) | (with_reducible refine w_set ?_) | (with_reducible refine w_asg ?_) | (with_reducible refine w_do ?_) | (with_reducible refine w_ret ?_) | (with_reducible refine w_sif ?_) | (with_reducible refine w_par ?_) | (with_reducible refine w_skip ?_) | (with_reducible refine w_break ?_) | (with_reducible refine w_cont ?_) | (with_reducible refine w_tv ?_) | (with_reducible refine w_not ?_) | (with_reducible refine w_and ?_) | (with_reducible refine w_or ?_) | (with_reducible refine w_if ?_) | (with_reducible refine w_eand ?_) | (with_reducible refine w_eor ?_) | (with_reducible refine w_chain ?_) | (with_reducible refine w_op1 ?_) | (with_reducible refine w_enot ?_) | (with_reducible refine w_op2 ?_) | (with_reducible refine w_opA ?_) | (with_reducible refine w_opAS ?_) | (with_reducible refine w_meth ?_) | (with_reducible refine w_cons ?_) | (with_reducible refine w_nil ?_) | (with_reducible refine w_tup ?_) | (with_reducible refine w_lst ?_) | (with_reducible refine w_lstC ?_) | (with_reducible refine w_slice ?_) | (with_reducible refine w_psome ?_) | (with_reducible refine w_pnone ?_) | (with_reducible refine w_aug ?_) | (with_reducible refine w_call ?_) | (with_reducible refine w_lc ?_) | (with_reducible refine w_seqi ?_) | (with_reducible refine w_range1 ?_) | (with_reducible refine w_for ?_) | refine w_var rfl ?_ | (with_reducible refine w_c ?_) | refine ⟨_, rfl, ?_⟩ | refine ⟨Nat.le_of_ble_eq_true rfl, ?_⟩ | refine ⟨rfl, ?_⟩ | refine ⟨fun _ => ?_, fun h => absurd h.symm Bool.false_ne_true⟩ | refine ⟨fun h => absurd h Bool.false_ne_true, fun _ => ?_⟩ | refine ⟨fun _ => ?_, fun h => absurd h Bool.false_ne_true⟩ | refine ⟨fun h => absurd h.symm Bool.false_ne_true, fun _ => ?_⟩))
    refine ⟨fun _ => ?_, fun _ => ?_⟩
    · refine w_then ?_
      refine w_set ?_
      refine w_op2 ?_
      refine w_op2 ?_
      (repeat (first | (with_reducible refine w_then ?_) | (with_reducible refine w_set ?_) | (with_reducible refine w_asg ?_) | (with_reducible refine w_do ?_) | (with_reducible refine w_ret ?_) | (with_reducible refine w_sif ?_) | (with_reducible refine w_par ?_) | (with_reducible refine w_skip ?_) | (with_reducible refine w_break ?_) | (with_reducible refine w_cont ?_) | (with_reducible refine w_tv ?_) | (with_reducible refine w_not ?_) | (with_reducible refine w_and ?_) | (with_reducible refine w_or ?_) | (with_reducible refine w_if ?_) | (with_reducible refine w_eand ?_) | (with_reducible refine w_eor ?_) | (with_reducible refine w_chain ?_) | (with_reducible refine w_op1 ?_) | (with_reducible refine w_enot ?_) | (with_reducible refine w_op2 ?_) | (with_reducible refine w_opA ?_) | (with_reducible refine w_opAS ?_) | (with_reducible refine w_meth ?_) | (with_reducible refine w_cons ?_) | (with_reducible refine w_nil ?_) | (with_reducible refine w_tup ?_) | (with_reducible refine w_lst ?_) | (with_reducible refine w_lstC ?_) | (with_reducible refine w_slice ?_) | (with_reducible refine w_psome ?_) | (with_reducible refine w_pnone ?_) | (with_reducible refine w_aug ?_) | (with_reducible refine w_call ?_) | (with_reducible refine w_lc ?_) | (with_reducible refine w_seqi ?_) | (with_reducible refine w_range1 ?_) | (with_reducible refine w_for ?_) | refine w_var rfl ?_ | (with_reducible refine w_c ?_) | refine ⟨_, rfl, ?_⟩ | refine ⟨Nat.le_of_ble_eq_true rfl, ?_⟩ | refine ⟨rfl, ?_⟩ | refine ⟨fun _ => ?_, fun h => absurd h.symm Bool.false_ne_true⟩ | refine ⟨fun h => absurd h Bool.false_ne_true, fun _ => ?_⟩ | refine ⟨fun _ => ?_, fun h => absurd h Bool.false_ne_true⟩ | refine ⟨fun h => absurd h.symm Bool.false_ne_true, fun _ => ?_⟩))
      refine ⟨_, if_pos ?_, ?_⟩
      · have : (cut (xs.map D.int) (some k) none).length ≤ 63 := by
          unfold cut
          rw [List.length_take, List.length_drop, List.length_map]
          omega
        rw [PySem.sizeLine_eq]
        simp only [List.length_cons, List.length_nil]
        omega
      refine w_c ?_
      obtain ⟨y, hy, hy0⟩ := first_cell [.lst [.int a, .int b, .int k, .lst (xs.map D.int)]] xs k hk hx
      refine ⟨_, hy, ?_⟩
      refine w_then (w_augS ?_)
      (repeat (first | (with_reducible refine w_tv ?_) | (with_reducible refine w_not ?_) | (with_reducible refine w_op1 ?_) | (with_reducible refine w_enot ?_) | (with_reducible refine w_op2 ?_) | (with_reducible refine w_opA ?_) | (with_reducible refine w_opAS ?_) | (with_reducible refine w_meth ?_) | (with_reducible refine w_cons ?_) | (with_reducible refine w_nil ?_) | (with_reducible refine w_tup ?_) | (with_reducible refine w_lst ?_) | (with_reducible refine w_lstC ?_) | (with_reducible refine w_slice ?_) | (with_reducible refine w_psome ?_) | (with_reducible refine w_pnone ?_) | (with_reducible refine w_seqi ?_) | (with_reducible refine w_range1 ?_) | refine w_var rfl ?_ | (with_reducible refine w_c ?_) | refine ⟨_, rfl, ?_⟩ | refine ⟨Nat.le_of_ble_eq_true rfl, ?_⟩ | refine ⟨rfl, ?_⟩ | refine ⟨fun _ => ?_, fun h => absurd h.symm Bool.false_ne_true⟩ | refine ⟨fun h => absurd h Bool.false_ne_true, fun _ => ?_⟩ | refine ⟨fun _ => ?_, fun h => absurd h Bool.false_ne_true⟩ | refine ⟨fun h => absurd h.symm Bool.false_ne_true, fun _ => ?_⟩))
      refine w_then (WS.mono (Q := fun r s => ∃ (a : Int), r = .nx [some (.loc 0), some (.int many), some (.int y), none, none, none, none] ∧ s = [.lst [.int a, .int b, .int (k + 1), .lst (xs.map D.int)]] ∧ 0 ≤ a) ?_ ?_)
      · refine w_sif ?_
        (repeat (first | (with_reducible refine w_then ?_) | (with_reducible refine w_set ?_) | (with_reducible refine w_asg ?_) | (with_reducible refine w_do ?_) | (with_reducible refine w_ret ?_) | (with_reducible refine w_sif ?_) | (with_reducible refine w_par ?_) | (with_reducible refine w_skip ?_) | (with_reducible refine w_break ?_) | (with_reducible refine w_cont ?_) | (with_reducible refine w_tv ?_) | (with_reducible refine w_not ?_) | (with_reducible refine w_and ?_) | (with_reducible refine w_or ?_) | (with_reducible refine w_if ?_) | (with_reducible refine w_eand ?_) | (with_reducible refine w_eor ?_) | (with_reducible refine w_chain ?_) | (with_reducible refine w_op1 ?_) | (with_reducible refine w_enot ?_) | (with_reducible refine w_op2 ?_) | (with_reducible refine w_opA ?_) | (with_reducible refine w_opAS ?_) | (with_reducible refine w_meth ?_) | (with_reducible refine w_cons ?_) | (with_reducible refine w_nil ?_) | (with_reducible refine w_tup ?_) | (with_reducible refine w_lst ?_) | (with_reducible refine w_lstC ?_) | (with_reducible refine w_slice ?_) | (with_reducible refine w_psome ?_) | (with_reducible refine w_pnone ?_) | (with_reducible refine w_aug ?_) | (with_reducible refine w_call ?_) | (with_reducible refine w_lc ?_) | (with_reducible refine w_seqi ?_) | (with_reducible refine w_range1 ?_) | (with_reducible refine w_for ?_) | refine w_var rfl ?_ | (with_reducible refine w_c ?_) | refine ⟨_, rfl, ?_⟩ | refine ⟨Nat.le_of_ble_eq_true rfl, ?_⟩ | refine ⟨rfl, ?_⟩ | refine ⟨fun _ => ?_, fun h => absurd h.symm Bool.false_ne_true⟩ | refine ⟨fun h => absurd h Bool.false_ne_true, fun _ => ?_⟩ | refine ⟨fun _ => ?_, fun h => absurd h Bool.false_ne_true⟩ | refine ⟨fun h => absurd h.symm Bool.false_ne_true, fun _ => ?_⟩))
        refine ⟨fun _ => ?_, fun _ => ?_⟩
        · refine w_asg ?_
          refine w_var rfl (g_set ?_)
          (repeat (first | (with_reducible refine w_then ?_) | (with_reducible refine w_set ?_) | (with_reducible refine w_asg ?_) | (with_reducible refine w_do ?_) | (with_reducible refine w_ret ?_) | (with_reducible refine w_sif ?_) | (with_reducible refine w_par ?_) | (with_reducible refine w_skip ?_) | (with_reducible refine w_break ?_) | (with_reducible refine w_cont ?_) | (with_reducible refine w_tv ?_) | (with_reducible refine w_not ?_) | (with_reducible refine w_and ?_) | (with_reducible refine w_or ?_) | (with_reducible refine w_if ?_) | (with_reducible refine w_eand ?_) | (with_reducible refine w_eor ?_) | (with_reducible refine w_chain ?_) | (with_reducible refine w_op1 ?_) | (with_reducible refine w_enot ?_) | (with_reducible refine w_op2 ?_) | (with_reducible refine w_opA ?_) | (with_reducible refine w_opAS ?_) | (with_reducible refine w_meth ?_) | (with_reducible refine w_cons ?_) | (with_reducible refine w_nil ?_) | (with_reducible refine w_tup ?_) | (with_reducible refine w_lst ?_) | (with_reducible refine w_lstC ?_) | (with_reducible refine w_slice ?_) | (with_reducible refine w_psome ?_) | (with_reducible refine w_pnone ?_) | (with_reducible refine w_aug ?_) | (with_reducible refine w_call ?_) | (with_reducible refine w_lc ?_) | (with_reducible refine w_seqi ?_) | (with_reducible refine w_range1 ?_) | (with_reducible refine w_for ?_) | refine w_var rfl ?_ | (with_reducible refine w_c ?_) | refine ⟨_, rfl, ?_⟩ | refine ⟨Nat.le_of_ble_eq_true rfl, ?_⟩ | refine ⟨rfl, ?_⟩ | refine ⟨fun _ => ?_, fun h => absurd h.symm Bool.false_ne_true⟩ | refine ⟨fun h => absurd h Bool.false_ne_true, fun _ => ?_⟩ | refine ⟨fun _ => ?_, fun h => absurd h Bool.false_ne_true⟩ | refine ⟨fun h => absurd h.symm Bool.false_ne_true, fun _ => ?_⟩))
          exact ⟨y, rfl, rfl, hy0⟩
        · exact w_skip ⟨a, rfl, rfl, ha⟩
      · rintro r s ⟨a, rfl, rfl, ha⟩
        refine w_then (w_set ?_)
        refine w_op2 (w_op2 (w_op2 (w_op2 ?_)))
        (repeat (first | (with_reducible refine w_then ?_) | (with_reducible refine w_set ?_) | (with_reducible refine w_asg ?_) | (with_reducible refine w_do ?_) | (with_reducible refine w_ret ?_) | (with_reducible refine w_sif ?_) | (with_reducible refine w_par ?_) | (with_reducible refine w_skip ?_) | (with_reducible refine w_break ?_) | (with_reducible refine w_cont ?_) | (with_reducible refine w_tv ?_) | (with_reducible refine w_not ?_) | (with_reducible refine w_and ?_) | (with_reducible refine w_or ?_) | (with_reducible refine w_if ?_) | (with_reducible refine w_eand ?_) | (with_reducible refine w_eor ?_) | (with_reducible refine w_chain ?_) | (with_reducible refine w_op1 ?_) | (with_reducible refine w_enot ?_) | (with_reducible refine w_op2 ?_) | (with_reducible refine w_opA ?_) | (with_reducible refine w_opAS ?_) | (with_reducible refine w_meth ?_) | (with_reducible refine w_cons ?_) | (with_reducible refine w_nil ?_) | (with_reducible refine w_tup ?_) | (with_reducible refine w_lst ?_) | (with_reducible refine w_lstC ?_) | (with_reducible refine w_slice ?_) | (with_reducible refine w_psome ?_) | (with_reducible refine w_pnone ?_) | (with_reducible refine w_aug ?_) | (with_reducible refine w_call ?_) | (with_reducible refine w_lc ?_) | (with_reducible refine w_seqi ?_) | (with_reducible refine w_range1 ?_) | (with_reducible refine w_for ?_) | refine w_var rfl ?_ | (with_reducible refine w_c ?_) | refine ⟨_, rfl, ?_⟩ | refine ⟨Nat.le_of_ble_eq_true rfl, ?_⟩ | refine ⟨rfl, ?_⟩ | refine ⟨fun _ => ?_, fun h => absurd h.symm Bool.false_ne_true⟩ | refine ⟨fun h => absurd h Bool.false_ne_true, fun _ => ?_⟩ | refine ⟨fun _ => ?_, fun h => absurd h Bool.false_ne_true⟩ | refine ⟨fun h => absurd h.symm Bool.false_ne_true, fun _ => ?_⟩))
        refine ⟨_, vMul_right (by decide), ?_⟩
        (repeat (first | (with_reducible refine w_then ?_) | (with_reducible refine w_set ?_) | (with_reducible refine w_asg ?_) | (with_reducible refine w_do ?_) | (with_reducible refine w_ret ?_) | (with_reducible refine w_sif ?_) | (with_reducible refine w_par ?_) | (with_reducible refine w_skip ?_) | (with_reducible refine w_break ?_) | (with_reducible refine w_cont ?_) | (with_reducible refine w_tv ?_) | (with_reducible refine w_not ?_) | (with_reducible refine w_and ?_) | (with_reducible refine w_or ?_) | (with_reducible refine w_if ?_) | (with_reducible refine w_eand ?_) | (with_reducible refine w_eor ?_) | (with_reducible refine w_chain ?_) | (with_reducible refine w_op1 ?_) | (with_reducible refine w_enot ?_) | (with_reducible refine w_op2 ?_) | (with_reducible refine w_opA ?_) | (with_reducible refine w_opAS ?_) | (with_reducible refine w_meth ?_) | (with_reducible refine w_cons ?_) | (with_reducible refine w_nil ?_) | (with_reducible refine w_tup ?_) | (with_reducible refine w_lst ?_) | (with_reducible refine w_lstC ?_) | (with_reducible refine w_slice ?_) | (with_reducible refine w_psome ?_) | (with_reducible refine w_pnone ?_) | (with_reducible refine w_aug ?_) | (with_reducible refine w_call ?_) | (with_reducible refine w_lc ?_) | (with_reducible refine w_seqi ?_) | (with_reducible refine w_range1 ?_) | (with_reducible refine w_for ?_) | refine w_var rfl ?_ | (with_reducible refine w_c ?_) | refine ⟨_, rfl, ?_⟩ | refine ⟨Nat.le_of_ble_eq_true rfl, ?_⟩ | refine ⟨rfl, ?_⟩ | refine ⟨fun _ => ?_, fun h => absurd h.symm Bool.false_ne_true⟩ | refine ⟨fun h => absurd h Bool.false_ne_true, fun _ => ?_⟩ | refine ⟨fun _ => ?_, fun h => absurd h Bool.false_ne_true⟩ | refine ⟨fun h => absurd h.symm Bool.false_ne_true, fun _ => ?_⟩))
        refine g_set ?_
        (repeat (first | (with_reducible refine w_then ?_) | (with_reducible refine w_set ?_) | (with_reducible refine w_asg ?_) | (with_reducible refine w_do ?_) | (with_reducible refine w_ret ?_) | (with_reducible refine w_sif ?_) | (with_reducible refine w_par ?_) | (with_reducible refine w_skip ?_) | (with_reducible refine w_break ?_) | (with_reducible refine w_cont ?_) | (with_reducible refine w_tv ?_) | (with_reducible refine w_not ?_) | (with_reducible refine w_and ?_) | (with_reducible refine w_or ?_) | (with_reducible refine w_if ?_) | (with_reducible refine w_eand ?_) | (with_reducible refine w_eor ?_) | (with_reducible refine w_chain ?_) | (with_reducible refine w_op1 ?_) | (with_reducible refine w_enot ?_) | (with_reducible refine w_op2 ?_) | (with_reducible refine w_opA ?_) | (with_reducible refine w_opAS ?_) | (with_reducible refine w_meth ?_) | (with_reducible refine w_cons ?_) | (with_reducible refine w_nil ?_) | (with_reducible refine w_tup ?_) | (with_reducible refine w_lst ?_) | (with_reducible refine w_lstC ?_) | (with_reducible refine w_slice ?_) | (with_reducible refine w_psome ?_) | (with_reducible refine w_pnone ?_) | (with_reducible refine w_aug ?_) | (with_reducible refine w_call ?_) | (with_reducible refine w_lc ?_) | (with_reducible refine w_seqi ?_) | (with_reducible refine w_range1 ?_) | (with_reducible refine w_for ?_) | refine w_var rfl ?_ | (with_reducible refine w_c ?_) | refine ⟨_, rfl, ?_⟩ | refine ⟨Nat.le_of_ble_eq_true rfl, ?_⟩ | refine ⟨rfl, ?_⟩ | refine ⟨fun _ => ?_, fun h => absurd h.symm Bool.false_ne_true⟩ | refine ⟨fun h => absurd h Bool.false_ne_true, fun _ => ?_⟩ | refine ⟨fun _ => ?_, fun h => absurd h Bool.false_ne_true⟩ | refine ⟨fun h => absurd h.symm Bool.false_ne_true, fun _ => ?_⟩))
        exact ⟨a, _, k + 1, _, _, rfl, rfl, ha, Int.emod_nonneg _ (by decide), by omega⟩
    · exact w_skip ⟨a, b, k, none, none, rfl, rfl, ha, hb, hk⟩
  · rintro r s ⟨a, b, k, x2, x3, rfl, rfl, ha, hb, hk⟩
    have bag : ∀ a, 0 ≤ a → BagC (.lst [.int a, .int b, .int k, .lst (xs.map D.int)]) := fun a ha => ⟨a, b, k, xs, rfl, ha, hb, hk, hx, hl⟩
    have fin : ∀ (v a : Int), 0 ≤ a → 0 ≤ v → v < many → ∃ d, (SR.rt (.int v) = .rt d ∨ (∃ e, SR.rt (.int v) = .nx e ∧ d = .non)) ∧ ∃ d' s', clean 1 (.ok d) [.lst [.int a, .int b, .int k, .lst (xs.map D.int)]] = some (.ok d', s') ∧ ∃ v c', d' = .int v ∧ s' = [c'] ∧ BagC c' ∧ 0 ≤ v ∧ v < many := fun v a ha hv hv2 =>
      ⟨_, .inl rfl, _, _, clean_ok (by simp [bag_ok (bag a ha)]) rfl, v, _, rfl, rfl, bag a ha, hv, hv2⟩
    refine w_then ?_
    refine w_sif ?_
    (repeat (first | (with_reducible refine w_then ?_) | (with_reducible refine w_set ?_) | (with_reducible refine w_asg ?_) | (with_reducible refine w_do ?_) | (with_reducible refine w_ret ?_) | (with_reducible refine w_sif ?_) | (with_reducible refine w_par ?_) | (with_reducible refine w_skip ?_) | (with_reducible refine w_break ?_) | (with_reducible refine w_cont ?_) | (with_reducible refine w_tv ?_) | (with_reducible refine w_not ?_) | (with_reducible refine w_and ?_) | (with_reducible refine w_or ?_) | (with_reducible refine w_if ?_) | (with_reducible refine w_eand ?_) | (with_reducible refine w_eor ?_) | (with_reducible refine w_chain ?_) | (with_reducible refine w_op1 ?_) | (with_reducible refine w_enot ?_) | (with_reducible refine w_op2 ?_) | (with_reducible refine w_opA ?_) | (with_reducible refine w_opAS ?_) | (with_reducible refine w_meth ?_) | (with_reducible refine w_cons ?_) | (with_reducible refine w_nil ?_) | (with_reducible refine w_tup ?_) | (with_reducible refine w_lst ?_) | (with_reducible refine w_lstC ?_) | (with_reducible refine w_slice ?_) | (with_reducible refine w_psome ?_) | (with_reducible refine w_pnone ?_) | (with_reducible refine w_aug ?_) | (with_reducible refine w_call ?_) | (with_reducible refine w_lc ?_) | (with_reducible refine w_seqi ?_) | (with_reducible refine w_range1 ?_) | (with_reducible refine w_for ?_) | refine w_var rfl ?_ | (with_reducible refine w_c ?_) | refine ⟨_, rfl, ?_⟩ | refine ⟨Nat.le_of_ble_eq_true rfl, ?_⟩ | refine ⟨rfl, ?_⟩ | refine ⟨fun _ => ?_, fun h => absurd h.symm Bool.false_ne_true⟩ | refine ⟨fun h => absurd h Bool.false_ne_true, fun _ => ?_⟩ | refine ⟨fun _ => ?_, fun h => absurd h Bool.false_ne_true⟩ | refine ⟨fun h => absurd h.symm Bool.false_ne_true, fun _ => ?_⟩))
    refine ⟨fun hp => ?_, fun _ => ?_⟩
    · have hp : 0 < a := of_decide_eq_true hp
      refine w_then (w_set (w_op2 ?_))
      (repeat (first | (with_reducible refine w_then ?_) | (with_reducible refine w_set ?_) | (with_reducible refine w_asg ?_) | (with_reducible refine w_do ?_) | (with_reducible refine w_ret ?_) | (with_reducible refine w_sif ?_) | (with_reducible refine w_par ?_) | (with_reducible refine w_skip ?_) | (with_reducible refine w_break ?_) | (with_reducible refine w_cont ?_) | (with_reducible refine w_tv ?_) | (with_reducible refine w_not ?_) | (with_reducible refine w_and ?_) | (with_reducible refine w_or ?_) | (with_reducible refine w_if ?_) | (with_reducible refine w_eand ?_) | (with_reducible refine w_eor ?_) | (with_reducible refine w_chain ?_) | (with_reducible refine w_op1 ?_) | (with_reducible refine w_enot ?_) | (with_reducible refine w_op2 ?_) | (with_reducible refine w_opA ?_) | (with_reducible refine w_opAS ?_) | (with_reducible refine w_meth ?_) | (with_reducible refine w_cons ?_) | (with_reducible refine w_nil ?_) | (with_reducible refine w_tup ?_) | (with_reducible refine w_lst ?_) | (with_reducible refine w_lstC ?_) | (with_reducible refine w_slice ?_) | (with_reducible refine w_psome ?_) | (with_reducible refine w_pnone ?_) | (with_reducible refine w_aug ?_) | (with_reducible refine w_call ?_) | (with_reducible refine w_lc ?_) | (with_reducible refine w_seqi ?_) | (with_reducible refine w_range1 ?_) | (with_reducible refine w_for ?_) | refine w_var rfl ?_ | (with_reducible refine w_c ?_) | refine ⟨_, rfl, ?_⟩ | refine ⟨Nat.le_of_ble_eq_true rfl, ?_⟩ | refine ⟨rfl, ?_⟩ | refine ⟨fun _ => ?_, fun h => absurd h.symm Bool.false_ne_true⟩ | refine ⟨fun h => absurd h Bool.false_ne_true, fun _ => ?_⟩ | refine ⟨fun _ => ?_, fun h => absurd h Bool.false_ne_true⟩ | refine ⟨fun h => absurd h.symm Bool.false_ne_true, fun _ => ?_⟩))
      refine ⟨_, if_pos h0, ?_⟩
      refine w_then (w_asg (w_op2 ?_))
      (repeat (first | (with_reducible refine w_then ?_) | (with_reducible refine w_set ?_) | (with_reducible refine w_asg ?_) | (with_reducible refine w_do ?_) | (with_reducible refine w_ret ?_) | (with_reducible refine w_sif ?_) | (with_reducible refine w_par ?_) | (with_reducible refine w_skip ?_) | (with_reducible refine w_break ?_) | (with_reducible refine w_cont ?_) | (with_reducible refine w_tv ?_) | (with_reducible refine w_not ?_) | (with_reducible refine w_and ?_) | (with_reducible refine w_or ?_) | (with_reducible refine w_if ?_) | (with_reducible refine w_eand ?_) | (with_reducible refine w_eor ?_) | (with_reducible refine w_chain ?_) | (with_reducible refine w_op1 ?_) | (with_reducible refine w_enot ?_) | (with_reducible refine w_op2 ?_) | (with_reducible refine w_opA ?_) | (with_reducible refine w_opAS ?_) | (with_reducible refine w_meth ?_) | (with_reducible refine w_cons ?_) | (with_reducible refine w_nil ?_) | (with_reducible refine w_tup ?_) | (with_reducible refine w_lst ?_) | (with_reducible refine w_lstC ?_) | (with_reducible refine w_slice ?_) | (with_reducible refine w_psome ?_) | (with_reducible refine w_pnone ?_) | (with_reducible refine w_aug ?_) | (with_reducible refine w_call ?_) | (with_reducible refine w_lc ?_) | (with_reducible refine w_seqi ?_) | (with_reducible refine w_range1 ?_) | (with_reducible refine w_for ?_) | refine w_var rfl ?_ | (with_reducible refine w_c ?_) | refine ⟨_, rfl, ?_⟩ | refine ⟨Nat.le_of_ble_eq_true rfl, ?_⟩ | refine ⟨rfl, ?_⟩ | refine ⟨fun _ => ?_, fun h => absurd h.symm Bool.false_ne_true⟩ | refine ⟨fun h => absurd h Bool.false_ne_true, fun _ => ?_⟩ | refine ⟨fun _ => ?_, fun h => absurd h Bool.false_ne_true⟩ | refine ⟨fun h => absurd h.symm Bool.false_ne_true, fun _ => ?_⟩))
      refine ⟨_, if_pos ⟨h0, h1⟩, ?_⟩
      refine g_set ?_
      (repeat (first | (with_reducible refine w_then ?_) | (with_reducible refine w_set ?_) | (with_reducible refine w_asg ?_) | (with_reducible refine w_do ?_) | (with_reducible refine w_ret ?_) | (with_reducible refine w_sif ?_) | (with_reducible refine w_par ?_) | (with_reducible refine w_skip ?_) | (with_reducible refine w_break ?_) | (with_reducible refine w_cont ?_) | (with_reducible refine w_tv ?_) | (with_reducible refine w_not ?_) | (with_reducible refine w_and ?_) | (with_reducible refine w_or ?_) | (with_reducible refine w_if ?_) | (with_reducible refine w_eand ?_) | (with_reducible refine w_eor ?_) | (with_reducible refine w_chain ?_) | (with_reducible refine w_op1 ?_) | (with_reducible refine w_enot ?_) | (with_reducible refine w_op2 ?_) | (with_reducible refine w_opA ?_) | (with_reducible refine w_opAS ?_) | (with_reducible refine w_meth ?_) | (with_reducible refine w_cons ?_) | (with_reducible refine w_nil ?_) | (with_reducible refine w_tup ?_) | (with_reducible refine w_lst ?_) | (with_reducible refine w_lstC ?_) | (with_reducible refine w_slice ?_) | (with_reducible refine w_psome ?_) | (with_reducible refine w_pnone ?_) | (with_reducible refine w_aug ?_) | (with_reducible refine w_call ?_) | (with_reducible refine w_lc ?_) | (with_reducible refine w_seqi ?_) | (with_reducible refine w_range1 ?_) | (with_reducible refine w_for ?_) | refine w_var rfl ?_ | (with_reducible refine w_c ?_) | refine ⟨_, rfl, ?_⟩ | refine ⟨Nat.le_of_ble_eq_true rfl, ?_⟩ | refine ⟨rfl, ?_⟩ | refine ⟨fun _ => ?_, fun h => absurd h.symm Bool.false_ne_true⟩ | refine ⟨fun h => absurd h Bool.false_ne_true, fun _ => ?_⟩ | refine ⟨fun _ => ?_, fun h => absurd h Bool.false_ne_true⟩ | refine ⟨fun h => absurd h.symm Bool.false_ne_true, fun _ => ?_⟩))
      exact fin _ _ (Int.ediv_nonneg ha (Int.le_of_lt h0)) (Int.emod_nonneg _ (by omega)) (Int.emod_lt_of_pos _ h0)
    · refine w_skip ?_
      refine w_then (w_set (w_op2 ?_))
      (repeat (first | (with_reducible refine w_then ?_) | (with_reducible refine w_set ?_) | (with_reducible refine w_asg ?_) | (with_reducible refine w_do ?_) | (with_reducible refine w_ret ?_) | (with_reducible refine w_sif ?_) | (with_reducible refine w_par ?_) | (with_reducible refine w_skip ?_) | (with_reducible refine w_break ?_) | (with_reducible refine w_cont ?_) | (with_reducible refine w_tv ?_) | (with_reducible refine w_not ?_) | (with_reducible refine w_and ?_) | (with_reducible refine w_or ?_) | (with_reducible refine w_if ?_) | (with_reducible refine w_eand ?_) | (with_reducible refine w_eor ?_) | (with_reducible refine w_chain ?_) | (with_reducible refine w_op1 ?_) | (with_reducible refine w_enot ?_) | (with_reducible refine w_op2 ?_) | (with_reducible refine w_opA ?_) | (with_reducible refine w_opAS ?_) | (with_reducible refine w_meth ?_) | (with_reducible refine w_cons ?_) | (with_reducible refine w_nil ?_) | (with_reducible refine w_tup ?_) | (with_reducible refine w_lst ?_) | (with_reducible refine w_lstC ?_) | (with_reducible refine w_slice ?_) | (with_reducible refine w_psome ?_) | (with_reducible refine w_pnone ?_) | (with_reducible refine w_aug ?_) | (with_reducible refine w_call ?_) | (with_reducible refine w_lc ?_) | (with_reducible refine w_seqi ?_) | (with_reducible refine w_range1 ?_) | (with_reducible refine w_for ?_) | refine w_var rfl ?_ | (with_reducible refine w_c ?_) | refine ⟨_, rfl, ?_⟩ | refine ⟨Nat.le_of_ble_eq_true rfl, ?_⟩ | refine ⟨rfl, ?_⟩ | refine ⟨fun _ => ?_, fun h => absurd h.symm Bool.false_ne_true⟩ | refine ⟨fun h => absurd h Bool.false_ne_true, fun _ => ?_⟩ | refine ⟨fun _ => ?_, fun h => absurd h Bool.false_ne_true⟩ | refine ⟨fun h => absurd h.symm Bool.false_ne_true, fun _ => ?_⟩))
      refine ⟨_, vMul_right (by decide), ?_⟩
      (repeat (first | (with_reducible refine w_then ?_) | (with_reducible refine w_set ?_) | (with_reducible refine w_asg ?_) | (with_reducible refine w_do ?_) | (with_reducible refine w_ret ?_) | (with_reducible refine w_sif ?_) | (with_reducible refine w_par ?_) | (with_reducible refine w_skip ?_) | (with_reducible refine w_break ?_) | (with_reducible refine w_cont ?_) | (with_reducible refine w_tv ?_) | (with_reducible refine w_not ?_) | (with_reducible refine w_and ?_) | (with_reducible refine w_or ?_) | (with_reducible refine w_if ?_) | (with_reducible refine w_eand ?_) | (with_reducible refine w_eor ?_) | (with_reducible refine w_chain ?_) | (with_reducible refine w_op1 ?_) | (with_reducible refine w_enot ?_) | (with_reducible refine w_op2 ?_) | (with_reducible refine w_opA ?_) | (with_reducible refine w_opAS ?_) | (with_reducible refine w_meth ?_) | (with_reducible refine w_cons ?_) | (with_reducible refine w_nil ?_) | (with_reducible refine w_tup ?_) | (with_reducible refine w_lst ?_) | (with_reducible refine w_lstC ?_) | (with_reducible refine w_slice ?_) | (with_reducible refine w_psome ?_) | (with_reducible refine w_pnone ?_) | (with_reducible refine w_aug ?_) | (with_reducible refine w_call ?_) | (with_reducible refine w_lc ?_) | (with_reducible refine w_seqi ?_) | (with_reducible refine w_range1 ?_) | (with_reducible refine w_for ?_) | refine w_var rfl ?_ | (with_reducible refine w_c ?_) | refine ⟨_, rfl, ?_⟩ | refine ⟨Nat.le_of_ble_eq_true rfl, ?_⟩ | refine ⟨rfl, ?_⟩ | refine ⟨fun _ => ?_, fun h => absurd h.symm Bool.false_ne_true⟩ | refine ⟨fun h => absurd h Bool.false_ne_true, fun _ => ?_⟩ | refine ⟨fun _ => ?_, fun h => absurd h Bool.false_ne_true⟩ | refine ⟨fun h => absurd h.symm Bool.false_ne_true, fun _ => ?_⟩))
      have hs : isSmall (((b + 1) * 39373) % 1000000007) = true := small_of (Int.emod_nonneg _ (by decide)) (Int.lt_trans (Int.emod_lt_of_pos _ (by decide)) (by decide))
      refine ⟨_, vMul_left hs, ?_⟩
      (repeat (first | (with_reducible refine w_then ?_) | (with_reducible refine w_set ?_) | (with_reducible refine w_asg ?_) | (with_reducible refine w_do ?_) | (with_reducible refine w_ret ?_) | (with_reducible refine w_sif ?_) | (with_reducible refine w_par ?_) | (with_reducible refine w_skip ?_) | (with_reducible refine w_break ?_) | (with_reducible refine w_cont ?_) | (with_reducible refine w_tv ?_) | (with_reducible refine w_not ?_) | (with_reducible refine w_and ?_) | (with_reducible refine w_or ?_) | (with_reducible refine w_if ?_) | (with_reducible refine w_eand ?_) | (with_reducible refine w_eor ?_) | (with_reducible refine w_chain ?_) | (with_reducible refine w_op1 ?_) | (with_reducible refine w_enot ?_) | (with_reducible refine w_op2 ?_) | (with_reducible refine w_opA ?_) | (with_reducible refine w_opAS ?_) | (with_reducible refine w_meth ?_) | (with_reducible refine w_cons ?_) | (with_reducible refine w_nil ?_) | (with_reducible refine w_tup ?_) | (with_reducible refine w_lst ?_) | (with_reducible refine w_lstC ?_) | (with_reducible refine w_slice ?_) | (with_reducible refine w_psome ?_) | (with_reducible refine w_pnone ?_) | (with_reducible refine w_aug ?_) | (with_reducible refine w_call ?_) | (with_reducible refine w_lc ?_) | (with_reducible refine w_seqi ?_) | (with_reducible refine w_range1 ?_) | (with_reducible refine w_for ?_) | refine w_var rfl ?_ | (with_reducible refine w_c ?_) | refine ⟨_, rfl, ?_⟩ | refine ⟨Nat.le_of_ble_eq_true rfl, ?_⟩ | refine ⟨rfl, ?_⟩ | refine ⟨fun _ => ?_, fun h => absurd h.symm Bool.false_ne_true⟩ | refine ⟨fun h => absurd h Bool.false_ne_true, fun _ => ?_⟩ | refine ⟨fun _ => ?_, fun h => absurd h Bool.false_ne_true⟩ | refine ⟨fun h => absurd h.symm Bool.false_ne_true, fun _ => ?_⟩))
      refine ⟨_, vMul_right (by decide), ?_⟩
      (repeat (first | (with_reducible refine w_then ?_) | (with_reducible refine w_set ?_) | (with_reducible refine w_asg ?_) | (with_reducible refine w_do ?_) | (with_reducible refine w_ret ?_) | (with_reducible refine w_sif ?_) | (with_reducible refine w_par ?_) | (with_reducible refine w_skip ?_) | (with_reducible refine w_break ?_) | (with_reducible refine w_cont ?_) | (with_reducible refine w_tv ?_) | (with_reducible refine w_not ?_) | (with_reducible refine w_and ?_) | (with_reducible refine w_or ?_) | (with_reducible refine w_if ?_) | (with_reducible refine w_eand ?_) | (with_reducible refine w_eor ?_) | (with_reducible refine w_chain ?_) | (with_reducible refine w_op1 ?_) | (with_reducible refine w_enot ?_) | (with_reducible refine w_op2 ?_) | (with_reducible refine w_opA ?_) | (with_reducible refine w_opAS ?_) | (with_reducible refine w_meth ?_) | (with_reducible refine w_cons ?_) | (with_reducible refine w_nil ?_) | (with_reducible refine w_tup ?_) | (with_reducible refine w_lst ?_) | (with_reducible refine w_lstC ?_) | (with_reducible refine w_slice ?_) | (with_reducible refine w_psome ?_) | (with_reducible refine w_pnone ?_) | (with_reducible refine w_aug ?_) | (with_reducible refine w_call ?_) | (with_reducible refine w_lc ?_) | (with_reducible refine w_seqi ?_) | (with_reducible refine w_range1 ?_) | (with_reducible refine w_for ?_) | refine w_var rfl ?_ | (with_reducible refine w_c ?_) | refine ⟨_, rfl, ?_⟩ | refine ⟨Nat.le_of_ble_eq_true rfl, ?_⟩ | refine ⟨rfl, ?_⟩ | refine ⟨fun _ => ?_, fun h => absurd h.symm Bool.false_ne_true⟩ | refine ⟨fun h => absurd h Bool.false_ne_true, fun _ => ?_⟩ | refine ⟨fun _ => ?_, fun h => absurd h Bool.false_ne_true⟩ | refine ⟨fun h => absurd h.symm Bool.false_ne_true, fun _ => ?_⟩))
      refine ⟨_, if_pos h0, ?_⟩
      exact fin _ _ ha (Int.emod_nonneg _ (by omega)) (Int.emod_lt_of_pos _ h0)
/-! ### a thing among things -/
theorem some_spec {c : Cell} (h : BagC c) {t : D} {xs : List D} (ht : t = .lst xs ∨ t = .tup xs) (hok : t.ok = true) (h0 : 0 < xs.length) (h1 : xs.length < 1073741824) : ∃ d c', F__law_some [.loc 0, t] [c] = some (.ok d, [c']) ∧ BagC c' ∧ d ∈ xs ∧ d.ok = true := by
  suffices hh : ∃ d s, F__law_some [.loc 0, t] [c] = some (.ok d, s) ∧ ∃ c', s = [c'] ∧ BagC c' ∧ d ∈ xs ∧ d.ok = true by
    obtain ⟨d, s, e, c', rfl, r⟩ := hh
    exact ⟨d, c', e, r⟩
  refine fn_of rfl ?_
  show WS b__law_some [some (.loc 0), some t] [c] _
  unfold b__law_some
  refine w_ret (w_op2 ?_)
  refine w_var rfl (w_call (w_cons (w_var rfl (w_cons (w_opA (w_cons (w_var rfl (w_nil ?_)))))))) 
  have hs : seq? [c] t = some xs := by rcases ht with rfl | rfl <;> rfl
  have hg : gLen [c] [t] = some (.int xs.length) := by rcases ht with rfl | rfl <;> rfl
  refine ⟨_, hg, w_nil ?_⟩
  obtain ⟨v, c', e, hc', hv0, hv1⟩ := take_spec h (many := (xs.length : Int)) (by omega) (by omega)
  refine ⟨_, _, call_1 (ds := [.int xs.length]) rfl (by simp [D.ok, okd]) (bag_ok h) e (bag_ok hc') rfl, ?_⟩
  have hlt : v.toNat < xs.length := by omega
  have hx : vIx [c'] t (.int v) = some xs[v.toNat] := by
    have hs' : seq? [c'] t = some xs := by rcases ht with rfl | rfl <;> rfl
    have : (seq? [c'] t).bind (fun xs => (ix? xs.length v).bind fun j => xs[j]?) = some xs[v.toNat] := by
      rw [hs', Option.bind_some]
      unfold ix?
      rw [if_pos hv0, if_pos hv1, Option.bind_some]
      exact List.getElem?_eq_getElem hlt
    rcases ht with rfl | rfl <;> exact this
  refine ⟨_, hx, ?_⟩
  have hmem : xs[v.toNat] ∈ xs := List.getElem_mem hlt
  have hd : (xs[v.toNat]).ok = true := by
    have hall : xs.all (okd 59) = true := by rcases ht with rfl | rfl <;> exact hok
    exact okd_up (List.all_eq_true.mp hall _ hmem)
  exact ⟨_, .inl rfl, _, _, clean_ok (by simp [bag_ok hc']) hd, c', rfl, hc', hmem, hd⟩
/-! ### the bag at first -/
theorem bag_spec (ns : List Int) : ∃ c, F__law_bag [.scr ns] [] = some (.ok (.loc 0), [c]) ∧ BagC c := by
  suffices hh : ∃ d s, F__law_bag [.scr ns] [] = some (.ok d, s) ∧ ∃ c, d = .loc 0 ∧ s = [c] ∧ BagC c by
    obtain ⟨d, s, e, c, rfl, rfl, r⟩ := hh
    exact ⟨c, e, r⟩
  refine fn_of rfl ?_
  show WS b__law_bag [some (.scr ns), none, none] [] _
  unfold b__law_bag
  refine w_ret (w_lstC ?_)
  refine w_cons (w_c (w_cons (w_c (w_cons (w_c (w_cons (w_lc (w_seqi ?_)))))))) 
  (repeat (first | (with_reducible refine w_tv ?_) | (with_reducible refine w_not ?_) | (with_reducible refine w_op1 ?_) | (with_reducible refine w_enot ?_) | (with_reducible refine w_op2 ?_) | (with_reducible refine w_opA ?_) | (with_reducible refine w_opAS ?_) | (with_reducible refine w_meth ?_) | (with_reducible refine w_cons ?_) | (with_reducible refine w_nil ?_) | (with_reducible refine w_tup ?_) | (with_reducible refine w_lst ?_) | (with_reducible refine w_lstC ?_) | (with_reducible refine w_slice ?_) | (with_reducible refine w_psome ?_) | (with_reducible refine w_pnone ?_) | (with_reducible refine w_seqi ?_) | (with_reducible refine w_range1 ?_) | refine w_var rfl ?_ | (with_reducible refine w_c ?_) | refine ⟨_, rfl, ?_⟩ | refine ⟨Nat.le_of_ble_eq_true rfl, ?_⟩ | refine ⟨rfl, ?_⟩ | refine ⟨fun _ => ?_, fun h => absurd h.symm Bool.false_ne_true⟩ | refine ⟨fun h => absurd h Bool.false_ne_true, fun _ => ?_⟩ | refine ⟨fun _ => ?_, fun h => absurd h Bool.false_ne_true⟩ | refine ⟨fun h => absurd h.symm Bool.false_ne_true, fun _ => ?_⟩))
  have hcut : cut (ns.map D.int) none (some 63) = (ns.take 63).map D.int := by
    unfold cut cutAt
    simp only [List.length_map, List.drop_zero, Nat.sub_zero]
    rw [if_neg (by omega), ← List.map_take]
    congr 1
    rw [List.take_eq_take_iff]
    omega
  rw [hcut]
  have hc := compL_pure (g := gName 2) (c := tYes) (y := opA gAbs (aCons (eVar 2) aNil)) (e := wipe [some (.scr ns), none, none] [1, 2]) (st := []) (fun d => match d with | .int i => some (.int (if i < 0 then -i else i)) | _ => none) (ds := (ns.take 63).map D.int) fun d hd => by
    obtain ⟨i, _, rfl⟩ := List.mem_map.mp hd
    refine ⟨_, rfl, true, [], rfl, rfl, fun _ => ?_, fun h => absurd h.symm Bool.false_ne_true⟩
    (repeat (first | (with_reducible refine w_tv ?_) | (with_reducible refine w_not ?_) | (with_reducible refine w_op1 ?_) | (with_reducible refine w_enot ?_) | (with_reducible refine w_op2 ?_) | (with_reducible refine w_opA ?_) | (with_reducible refine w_opAS ?_) | (with_reducible refine w_meth ?_) | (with_reducible refine w_cons ?_) | (with_reducible refine w_nil ?_) | (with_reducible refine w_tup ?_) | (with_reducible refine w_lst ?_) | (with_reducible refine w_lstC ?_) | (with_reducible refine w_slice ?_) | (with_reducible refine w_psome ?_) | (with_reducible refine w_pnone ?_) | (with_reducible refine w_seqi ?_) | (with_reducible refine w_range1 ?_) | refine w_var rfl ?_ | (with_reducible refine w_c ?_) | refine ⟨_, rfl, ?_⟩ | refine ⟨Nat.le_of_ble_eq_true rfl, ?_⟩ | refine ⟨rfl, ?_⟩ | refine ⟨fun _ => ?_, fun h => absurd h.symm Bool.false_ne_true⟩ | refine ⟨fun h => absurd h Bool.false_ne_true, fun _ => ?_⟩ | refine ⟨fun _ => ?_, fun h => absurd h Bool.false_ne_true⟩ | refine ⟨fun h => absurd h.symm Bool.false_ne_true, fun _ => ?_⟩))
    exact rfl
  refine ⟨_, _, hc, w_nil ⟨Nat.le_of_ble_eq_true rfl, ?_⟩⟩
  have hf : (((ns.take 63).map D.int).filterMap fun d => match d with | .int i => some (D.int (if i < 0 then -i else i)) | _ => none) = ((ns.take 63).map fun i => if i < 0 then -i else i).map D.int := by
    rw [List.filterMap_map, List.map_map]
    exact (List.filterMap_eq_map (f := fun i : Int => D.int (if i < 0 then -i else i))) ▸ rfl
  rw [hf]
  have hb : BagC (.lst [.int 0, .int 1234567891, .int 0, .lst (((ns.take 63).map fun i => if i < 0 then -i else i).map D.int)]) := ⟨0, 1234567891, 0, _, rfl, by omega, by omega, by omega, fun x hx => by
    obtain ⟨i, _, rfl⟩ := List.mem_map.mp hx
    split <;> omega, by rw [List.length_map, List.length_take]; omega⟩
  exact ⟨_, .inl rfl, _, _, clean_new rfl (Nat.le_refl 0) rfl (bag_ok hb), _, rfl, rfl, hb⟩
/-! ### alike -/
def sz : Nat → D → Nat
  | n + 1, .tup xs => 1 + (xs.map (sz n)).sum
  | n + 1, .lst xs => 1 + (xs.map (sz n)).sum
  | _, _ => 1
mutual
theorem eqn_refl : ∀ {n : Nat} {d : D}, okd n d = true → eqn n d d = true
  | n, .non, _ => by cases n <;> rfl
  | n, .bl b, _ => by cases n <;> simp [eqn]
  | n, .int i, _ => by cases n <;> simp [eqn]
  | n, .str x, _ => by cases n <;> simp [eqn]
  | 0, .tup _, h => by cases h
  | 0, .lst _, h => by cases h
  | n + 1, .tup xs, h => by
    show (xs.length == xs.length && (xs.zip xs).all fun p => eqn n p.1 p.2) = true
    rw [beq_self_eq_true, Bool.true_and]
    exact eqn_refls xs h
  | n + 1, .lst xs, h => by
    show (xs.length == xs.length && (xs.zip xs).all fun p => eqn n p.1 p.2) = true
    rw [beq_self_eq_true, Bool.true_and]
    exact eqn_refls xs h
  | n, .loc _, h => by cases n <;> cases h
  | n, .scr _, h => by cases n <;> cases h
theorem eqn_refls : ∀ {n : Nat} (xs : List D), xs.all (okd n) = true → ((xs.zip xs).all fun p => eqn n p.1 p.2) = true
  | _, [], _ => rfl
  | n, x :: xs, h => by
    rw [List.all_cons, Bool.and_eq_true] at h
    rw [List.zip_cons_cons, List.all_cons, Bool.and_eq_true]
    exact ⟨eqn_refl h.1, eqn_refls xs h.2⟩
end
mutual
theorem sz_mono : ∀ {n : Nat} {d : D}, okd n d = true → sz (n + 1) d = sz n d
  | n, .non, _ => by cases n <;> rfl
  | n, .bl _, _ => by cases n <;> rfl
  | n, .int _, _ => by cases n <;> rfl
  | n, .str _, _ => by cases n <;> rfl
  | 0, .tup _, h => by cases h
  | 0, .lst _, h => by cases h
  | n + 1, .tup xs, h => congrArg (1 + ·) (sz_monos (n := n) xs h)
  | n + 1, .lst xs, h => congrArg (1 + ·) (sz_monos (n := n) xs h)
  | n, .loc _, h => by cases n <;> cases h
  | n, .scr _, h => by cases n <;> cases h
theorem sz_monos : ∀ {n : Nat} (xs : List D), xs.all (okd n) = true → (xs.map (sz (n + 1))).sum = (xs.map (sz n)).sum
  | _, [], _ => rfl
  | n, x :: xs, h => by
    rw [List.all_cons, Bool.and_eq_true] at h
    rw [List.map_cons, List.map_cons, List.sum_cons, List.sum_cons, sz_mono h.1, sz_monos xs h.2]
end
theorem sz_pos : ∀ (n : Nat) (d : D), 1 ≤ sz n d
  | 0, d => by cases d <;> exact Nat.le_refl 1
  | n + 1, d => by cases d <;> first | exact Nat.le_refl 1 | exact Nat.le_add_right 1 _
theorem sz_len {n : Nat} : ∀ xs : List D, xs.length ≤ (xs.map (sz n)).sum
  | [] => Nat.le_refl 0
  | x :: xs => by
    have := sz_pos n x
    have := sz_len (n := n) xs
    rw [List.map_cons, List.sum_cons, List.length_cons]; omega
def pr (x : D) : D := .tup [x, x]
theorem zip_self (xs : List D) : zipL xs xs = xs.map pr := by
  unfold zipL
  induction xs with
  | nil => rfl
  | cons x xs ih => rw [List.zip_cons_cons, List.map_cons, List.map_cons, ih]; rfl
theorem ne_self {st : Store} {d : D} (h : d.ok = true) : vNe st d d = some (.bl false) := by
  have hs : see st d = d := by cases d <;> first | rfl | (simp [D.ok, okd] at h)
  unfold vNe
  rw [hs, h]
  show some (D.bl !(eqn 60 d d)) = _
  rw [eqn_refl h]; rfl
theorem eq_self {st : Store} {d : D} (h : d.ok = true) : vEq st d d = some (.bl true) := by
  have hs : see st d = d := by cases d <;> first | rfl | (simp [D.ok, okd] at h)
  unfold vEq
  rw [hs, h]
  show some (D.bl (eqn 60 d d)) = _
  rw [eqn_refl h]
def AI (d : D) (m : Nat) (e : Env) (st : Store) : Prop := ∃ (pre ps : List D), e = [some d, some d, some (.loc 0), some (.int pre.length), none, none] ∧ st = [.lst (pre ++ ps.map pr)] ∧ (∀ x ∈ ps, D.ok x = true) ∧ (ps.map (sz 60)).sum = m ∧ pre.length + m ≤ 1000000
theorem alike_spec {d : D} (hd : d.ok = true) (hs : sz 60 d ≤ 1000000) : F__law_alike [d, d] [] = some (.ok (.bl true), []) := by
  suffices hh : ∃ r s, F__law_alike [d, d] [] = some (.ok r, s) ∧ r = .bl true ∧ s = [] by
    obtain ⟨r, s, e, rfl, rfl⟩ := hh
    exact e
  refine fn_of rfl ?_
  show WS b__law_alike [some d, some d, none, none, none, none] [] _
  unfold b__law_alike
  refine w_then (w_par ?_)
  (repeat (first | (with_reducible refine w_tv ?_) | (with_reducible refine w_not ?_) | (with_reducible refine w_op1 ?_) | (with_reducible refine w_enot ?_) | (with_reducible refine w_op2 ?_) | (with_reducible refine w_opA ?_) | (with_reducible refine w_opAS ?_) | (with_reducible refine w_meth ?_) | (with_reducible refine w_cons ?_) | (with_reducible refine w_nil ?_) | (with_reducible refine w_tup ?_) | (with_reducible refine w_lst ?_) | (with_reducible refine w_lstC ?_) | (with_reducible refine w_slice ?_) | (with_reducible refine w_psome ?_) | (with_reducible refine w_pnone ?_) | (with_reducible refine w_seqi ?_) | (with_reducible refine w_range1 ?_) | refine w_var rfl ?_ | (with_reducible refine w_c ?_) | refine ⟨_, rfl, ?_⟩ | refine ⟨Nat.le_of_ble_eq_true rfl, ?_⟩ | refine ⟨rfl, ?_⟩ | refine ⟨fun _ => ?_, fun h => absurd h.symm Bool.false_ne_true⟩ | refine ⟨fun h => absurd h Bool.false_ne_true, fun _ => ?_⟩ | refine ⟨fun _ => ?_, fun h => absurd h Bool.false_ne_true⟩ | refine ⟨fun h => absurd h.symm Bool.false_ne_true, fun _ => ?_⟩))
  refine ⟨_, _, rfl, ?_⟩
  refine w_then ?_
  refine w_while (AI d) (sz 60 d) ⟨[], [d], rfl, rfl, by simpa using hd, by simp, by simpa using hs⟩ ?_
  rintro m e st ⟨pre, ps, rfl, rfl, ok, hm, hl⟩
  unfold b__law_alike_t2
  (repeat (first | (with_reducible refine w_tv ?_) | (with_reducible refine w_not ?_) | (with_reducible refine w_op1 ?_) | (with_reducible refine w_enot ?_) | (with_reducible refine w_op2 ?_) | (with_reducible refine w_opA ?_) | (with_reducible refine w_opAS ?_) | (with_reducible refine w_meth ?_) | (with_reducible refine w_cons ?_) | (with_reducible refine w_nil ?_) | (with_reducible refine w_tup ?_) | (with_reducible refine w_lst ?_) | (with_reducible refine w_lstC ?_) | (with_reducible refine w_slice ?_) | (with_reducible refine w_psome ?_) | (with_reducible refine w_pnone ?_) | (with_reducible refine w_seqi ?_) | (with_reducible refine w_range1 ?_) | refine w_var rfl ?_ | (with_reducible refine w_c ?_) | refine ⟨_, rfl, ?_⟩ | refine ⟨Nat.le_of_ble_eq_true rfl, ?_⟩ | refine ⟨rfl, ?_⟩ | refine ⟨fun _ => ?_, fun h => absurd h.symm Bool.false_ne_true⟩ | refine ⟨fun h => absurd h Bool.false_ne_true, fun _ => ?_⟩ | refine ⟨fun _ => ?_, fun h => absurd h Bool.false_ne_true⟩ | refine ⟨fun h => absurd h.symm Bool.false_ne_true, fun _ => ?_⟩))
  refine ⟨fun hk => ?_, fun hk => ?_⟩
  · refine w_ret (w_c ⟨_, .inl rfl, _, _, clean_ok rfl rfl, rfl, rfl⟩)
  · have hk : ((pre.length : Nat) : Int) < (((pre ++ ps.map pr).length : Nat) : Int) := of_decide_eq_true hk
    cases ps with
    | nil => simp at hk
    | cons x ps =>
      have hx := ok x (by simp)
      have hix : vIx [.lst (pre ++ (x :: ps).map pr)] (.loc 0) (.int pre.length) = some (pr x) := by
        show (ix? _ _).bind _ = _
        unfold ix?
        rw [if_pos (by omega), if_pos hk]
        show (pre ++ (x :: ps).map pr)[((pre.length : Nat) : Int).toNat]? = _
        rw [Int.toNat_natCast, List.getElem?_append_right (Nat.le_refl _), Nat.sub_self]
        rfl
      have next : ∀ (qs : List D), (∀ y ∈ qs, D.ok y = true) → (qs.map (sz 60)).sum + 1 ≤ sz 60 x → ∃ m', m' < m ∧ AI d m' [some d, some d, some (.loc 0), some (.int ((pre.length : Nat) + 1 : Int)), none, none] [.lst (pre ++ (x :: ps).map pr ++ qs.map pr)] := fun qs hq hz => by
        rw [List.map_cons, List.sum_cons] at hm
        refine ⟨((ps ++ qs).map (sz 60)).sum, by rw [List.map_append, List.sum_append]; omega, pre ++ [pr x], ps ++ qs, by simp, by simp, fun y hy => ?_, rfl, by rw [List.map_append, List.sum_append, List.length_append, List.length_singleton]; omega⟩
        rcases List.mem_append.mp hy with h | h
        · exact ok y (List.mem_cons_of_mem _ h)
        · exact hq y h
      have stay := next [] (by simp) (by have := sz_pos 60 x; simpa using this)
      rw [List.map_nil, List.append_nil] at stay
      have more : ∀ xs : List D, (x = .tup xs ∨ x = .lst xs) → xs.all (okd 59) = true ∧ ∃ m', m' < m ∧ AI d m' [some d, some d, some (.loc 0), some (.int ((pre.length : Nat) + 1 : Int)), none, none] [.lst (pre ++ (x :: ps).map pr ++ xs.map pr)] := fun xs e => by
        have h59 : xs.all (okd 59) = true := by rcases e with rfl | rfl <;> exact hx
        refine ⟨h59, next xs (fun y hy => okd_up (List.all_eq_true.mp h59 y hy)) ?_⟩
        have : sz 60 x = 1 + (xs.map (sz 59)).sum := by rcases e with rfl | rfl <;> rfl
        rw [this, sz_monos (n := 59) xs h59]; omega
      have room : ∀ xs : List D, (x = .tup xs ∨ x = .lst xs) → (pre ++ (x :: ps).map pr).length + (xs.map pr).length ≤ PySem.sizeLine := fun xs e => by
        have : sz 60 x = 1 + (xs.map (sz 59)).sum := by rcases e with rfl | rfl <;> rfl
        have h1 := sz_len (n := 59) xs
        have h2 := sz_len (n := 60) ps
        rw [List.map_cons, List.sum_cons] at hm
        rw [PySem.sizeLine_eq]
        simp only [List.length_append, List.length_map, List.length_cons]
        omega
      unfold b__law_alike_w1
      refine w_then (w_asg (w_op2 (w_var rfl (w_var rfl ⟨_, hix, _, _, rfl, ?_⟩))))
      refine w_then (w_aug ⟨_, rfl, w_c ⟨_, rfl, ?_⟩⟩)
      cases x with
      | non =>
        (repeat (first | (with_reducible refine w_then ?_) | (with_reducible refine w_set ?_) | (with_reducible refine w_asg ?_) | (with_reducible refine w_do ?_) | (with_reducible refine w_ret ?_) | (with_reducible refine w_sif ?_) | (with_reducible refine w_par ?_) | (with_reducible refine w_skip ?_) | (with_reducible refine w_break ?_) | (with_reducible refine w_cont ?_) | (with_reducible refine w_tv ?_) | (with_reducible refine w_not ?_) | (with_reducible refine w_and ?_) | (with_reducible refine w_or ?_) | (with_reducible refine w_if ?_) | (with_reducible refine w_eand ?_) | (with_reducible refine w_eor ?_) | (with_reducible refine w_chain ?_) | (with_reducible refine w_op1 ?_) | (with_reducible refine w_enot ?_) | (with_reducible refine w_op2 ?_) | (with_reducible refine w_opA ?_) | (with_reducible refine w_opAS ?_) | (with_reducible refine w_meth ?_) | (with_reducible refine w_cons ?_) | (with_reducible refine w_nil ?_) | (with_reducible refine w_tup ?_) | (with_reducible refine w_lst ?_) | (with_reducible refine w_lstC ?_) | (with_reducible refine w_slice ?_) | (with_reducible refine w_psome ?_) | (with_reducible refine w_pnone ?_) | (with_reducible refine w_aug ?_) | (with_reducible refine w_call ?_) | (with_reducible refine w_lc ?_) | (with_reducible refine w_seqi ?_) | (with_reducible refine w_range1 ?_) | (with_reducible refine w_for ?_) | refine w_var rfl ?_ | (with_reducible refine w_c ?_) | refine ⟨_, rfl, ?_⟩ | refine ⟨Nat.le_of_ble_eq_true rfl, ?_⟩ | refine ⟨rfl, ?_⟩ | refine ⟨fun _ => ?_, fun h => absurd h.symm Bool.false_ne_true⟩ | refine ⟨fun h => absurd h Bool.false_ne_true, fun _ => ?_⟩ | refine ⟨fun _ => ?_, fun h => absurd h Bool.false_ne_true⟩ | refine ⟨fun h => absurd h.symm Bool.false_ne_true, fun _ => ?_⟩))
        exact stay
      | bl b =>
        (repeat (first | (with_reducible refine w_then ?_) | (with_reducible refine w_set ?_) | (with_reducible refine w_asg ?_) | (with_reducible refine w_do ?_) | (with_reducible refine w_ret ?_) | (with_reducible refine w_sif ?_) | (with_reducible refine w_par ?_) | (with_reducible refine w_skip ?_) | (with_reducible refine w_break ?_) | (with_reducible refine w_cont ?_) | (with_reducible refine w_tv ?_) | (with_reducible refine w_not ?_) | (with_reducible refine w_and ?_) | (with_reducible refine w_or ?_) | (with_reducible refine w_if ?_) | (with_reducible refine w_eand ?_) | (with_reducible refine w_eor ?_) | (with_reducible refine w_chain ?_) | (with_reducible refine w_op1 ?_) | (with_reducible refine w_enot ?_) | (with_reducible refine w_op2 ?_) | (with_reducible refine w_opA ?_) | (with_reducible refine w_opAS ?_) | (with_reducible refine w_meth ?_) | (with_reducible refine w_cons ?_) | (with_reducible refine w_nil ?_) | (with_reducible refine w_tup ?_) | (with_reducible refine w_lst ?_) | (with_reducible refine w_lstC ?_) | (with_reducible refine w_slice ?_) | (with_reducible refine w_psome ?_) | (with_reducible refine w_pnone ?_) | (with_reducible refine w_aug ?_) | (with_reducible refine w_call ?_) | (with_reducible refine w_lc ?_) | (with_reducible refine w_seqi ?_) | (with_reducible refine w_range1 ?_) | (with_reducible refine w_for ?_) | refine w_var rfl ?_ | (with_reducible refine w_c ?_) | refine ⟨_, rfl, ?_⟩ | refine ⟨Nat.le_of_ble_eq_true rfl, ?_⟩ | refine ⟨rfl, ?_⟩ | refine ⟨fun _ => ?_, fun h => absurd h.symm Bool.false_ne_true⟩ | refine ⟨fun h => absurd h Bool.false_ne_true, fun _ => ?_⟩ | refine ⟨fun _ => ?_, fun h => absurd h Bool.false_ne_true⟩ | refine ⟨fun h => absurd h.symm Bool.false_ne_true, fun _ => ?_⟩))
        refine ⟨fun h => ?_, fun _ => w_skip stay⟩
        exfalso
        simp [D.eqv, see, eqn] at h
      | int i =>
        (repeat (first | (with_reducible refine w_then ?_) | (with_reducible refine w_set ?_) | (with_reducible refine w_asg ?_) | (with_reducible refine w_do ?_) | (with_reducible refine w_ret ?_) | (with_reducible refine w_sif ?_) | (with_reducible refine w_par ?_) | (with_reducible refine w_skip ?_) | (with_reducible refine w_break ?_) | (with_reducible refine w_cont ?_) | (with_reducible refine w_tv ?_) | (with_reducible refine w_not ?_) | (with_reducible refine w_and ?_) | (with_reducible refine w_or ?_) | (with_reducible refine w_if ?_) | (with_reducible refine w_eand ?_) | (with_reducible refine w_eor ?_) | (with_reducible refine w_chain ?_) | (with_reducible refine w_op1 ?_) | (with_reducible refine w_enot ?_) | (with_reducible refine w_op2 ?_) | (with_reducible refine w_opA ?_) | (with_reducible refine w_opAS ?_) | (with_reducible refine w_meth ?_) | (with_reducible refine w_cons ?_) | (with_reducible refine w_nil ?_) | (with_reducible refine w_tup ?_) | (with_reducible refine w_lst ?_) | (with_reducible refine w_lstC ?_) | (with_reducible refine w_slice ?_) | (with_reducible refine w_psome ?_) | (with_reducible refine w_pnone ?_) | (with_reducible refine w_aug ?_) | (with_reducible refine w_call ?_) | (with_reducible refine w_lc ?_) | (with_reducible refine w_seqi ?_) | (with_reducible refine w_range1 ?_) | (with_reducible refine w_for ?_) | refine w_var rfl ?_ | (with_reducible refine w_c ?_) | refine ⟨_, rfl, ?_⟩ | refine ⟨Nat.le_of_ble_eq_true rfl, ?_⟩ | refine ⟨rfl, ?_⟩ | refine ⟨fun _ => ?_, fun h => absurd h.symm Bool.false_ne_true⟩ | refine ⟨fun h => absurd h Bool.false_ne_true, fun _ => ?_⟩ | refine ⟨fun _ => ?_, fun h => absurd h Bool.false_ne_true⟩ | refine ⟨fun h => absurd h.symm Bool.false_ne_true, fun _ => ?_⟩))
        refine ⟨fun h => ?_, fun _ => w_skip stay⟩
        exfalso
        simp [D.eqv, see, eqn] at h
      | str x =>
        (repeat (first | (with_reducible refine w_then ?_) | (with_reducible refine w_set ?_) | (with_reducible refine w_asg ?_) | (with_reducible refine w_do ?_) | (with_reducible refine w_ret ?_) | (with_reducible refine w_sif ?_) | (with_reducible refine w_par ?_) | (with_reducible refine w_skip ?_) | (with_reducible refine w_break ?_) | (with_reducible refine w_cont ?_) | (with_reducible refine w_tv ?_) | (with_reducible refine w_not ?_) | (with_reducible refine w_and ?_) | (with_reducible refine w_or ?_) | (with_reducible refine w_if ?_) | (with_reducible refine w_eand ?_) | (with_reducible refine w_eor ?_) | (with_reducible refine w_chain ?_) | (with_reducible refine w_op1 ?_) | (with_reducible refine w_enot ?_) | (with_reducible refine w_op2 ?_) | (with_reducible refine w_opA ?_) | (with_reducible refine w_opAS ?_) | (with_reducible refine w_meth ?_) | (with_reducible refine w_cons ?_) | (with_reducible refine w_nil ?_) | (with_reducible refine w_tup ?_) | (with_reducible refine w_lst ?_) | (with_reducible refine w_lstC ?_) | (with_reducible refine w_slice ?_) | (with_reducible refine w_psome ?_) | (with_reducible refine w_pnone ?_) | (with_reducible refine w_aug ?_) | (with_reducible refine w_call ?_) | (with_reducible refine w_lc ?_) | (with_reducible refine w_seqi ?_) | (with_reducible refine w_range1 ?_) | (with_reducible refine w_for ?_) | refine w_var rfl ?_ | (with_reducible refine w_c ?_) | refine ⟨_, rfl, ?_⟩ | refine ⟨Nat.le_of_ble_eq_true rfl, ?_⟩ | refine ⟨rfl, ?_⟩ | refine ⟨fun _ => ?_, fun h => absurd h.symm Bool.false_ne_true⟩ | refine ⟨fun h => absurd h Bool.false_ne_true, fun _ => ?_⟩ | refine ⟨fun _ => ?_, fun h => absurd h Bool.false_ne_true⟩ | refine ⟨fun h => absurd h.symm Bool.false_ne_true, fun _ => ?_⟩))
        refine ⟨fun h => ?_, fun _ => w_skip stay⟩
        exfalso
        simp [D.eqv, see, eqn] at h
      | tup xs =>
        obtain ⟨h59, nx⟩ := more xs (.inl rfl)
        (repeat (first | (with_reducible refine w_then ?_) | (with_reducible refine w_set ?_) | (with_reducible refine w_asg ?_) | (with_reducible refine w_do ?_) | (with_reducible refine w_ret ?_) | (with_reducible refine w_sif ?_) | (with_reducible refine w_par ?_) | (with_reducible refine w_skip ?_) | (with_reducible refine w_break ?_) | (with_reducible refine w_cont ?_) | (with_reducible refine w_tv ?_) | (with_reducible refine w_not ?_) | (with_reducible refine w_and ?_) | (with_reducible refine w_or ?_) | (with_reducible refine w_if ?_) | (with_reducible refine w_eand ?_) | (with_reducible refine w_eor ?_) | (with_reducible refine w_chain ?_) | (with_reducible refine w_op1 ?_) | (with_reducible refine w_enot ?_) | (with_reducible refine w_op2 ?_) | (with_reducible refine w_opA ?_) | (with_reducible refine w_opAS ?_) | (with_reducible refine w_meth ?_) | (with_reducible refine w_cons ?_) | (with_reducible refine w_nil ?_) | (with_reducible refine w_tup ?_) | (with_reducible refine w_lst ?_) | (with_reducible refine w_lstC ?_) | (with_reducible refine w_slice ?_) | (with_reducible refine w_psome ?_) | (with_reducible refine w_pnone ?_) | (with_reducible refine w_aug ?_) | (with_reducible refine w_call ?_) | (with_reducible refine w_lc ?_) | (with_reducible refine w_seqi ?_) | (with_reducible refine w_range1 ?_) | (with_reducible refine w_for ?_) | refine w_var rfl ?_ | (with_reducible refine w_c ?_) | refine ⟨_, rfl, ?_⟩ | refine ⟨Nat.le_of_ble_eq_true rfl, ?_⟩ | refine ⟨rfl, ?_⟩ | refine ⟨fun _ => ?_, fun h => absurd h.symm Bool.false_ne_true⟩ | refine ⟨fun h => absurd h Bool.false_ne_true, fun _ => ?_⟩ | refine ⟨fun _ => ?_, fun h => absurd h Bool.false_ne_true⟩ | refine ⟨fun h => absurd h.symm Bool.false_ne_true, fun _ => ?_⟩))
        refine ⟨fun h => ?_, fun _ => ?_⟩
        · exfalso
          simp [D.eqv, see, eqn] at h
        (repeat (first | (with_reducible refine w_then ?_) | (with_reducible refine w_set ?_) | (with_reducible refine w_asg ?_) | (with_reducible refine w_do ?_) | (with_reducible refine w_ret ?_) | (with_reducible refine w_sif ?_) | (with_reducible refine w_par ?_) | (with_reducible refine w_skip ?_) | (with_reducible refine w_break ?_) | (with_reducible refine w_cont ?_) | (with_reducible refine w_tv ?_) | (with_reducible refine w_not ?_) | (with_reducible refine w_and ?_) | (with_reducible refine w_or ?_) | (with_reducible refine w_if ?_) | (with_reducible refine w_eand ?_) | (with_reducible refine w_eor ?_) | (with_reducible refine w_chain ?_) | (with_reducible refine w_op1 ?_) | (with_reducible refine w_enot ?_) | (with_reducible refine w_op2 ?_) | (with_reducible refine w_opA ?_) | (with_reducible refine w_opAS ?_) | (with_reducible refine w_meth ?_) | (with_reducible refine w_cons ?_) | (with_reducible refine w_nil ?_) | (with_reducible refine w_tup ?_) | (with_reducible refine w_lst ?_) | (with_reducible refine w_lstC ?_) | (with_reducible refine w_slice ?_) | (with_reducible refine w_psome ?_) | (with_reducible refine w_pnone ?_) | (with_reducible refine w_aug ?_) | (with_reducible refine w_call ?_) | (with_reducible refine w_lc ?_) | (with_reducible refine w_seqi ?_) | (with_reducible refine w_range1 ?_) | (with_reducible refine w_for ?_) | refine w_var rfl ?_ | (with_reducible refine w_c ?_) | refine ⟨_, rfl, ?_⟩ | refine ⟨Nat.le_of_ble_eq_true rfl, ?_⟩ | refine ⟨rfl, ?_⟩ | refine ⟨fun _ => ?_, fun h => absurd h.symm Bool.false_ne_true⟩ | refine ⟨fun h => absurd h Bool.false_ne_true, fun _ => ?_⟩ | refine ⟨fun _ => ?_, fun h => absurd h Bool.false_ne_true⟩ | refine ⟨fun h => absurd h.symm Bool.false_ne_true, fun _ => ?_⟩))
        rw [zip_self]
        exact ⟨_, _, if_pos (room xs (.inl rfl)), nx⟩
      | lst xs =>
        obtain ⟨h59, nx⟩ := more xs (.inr rfl)
        (repeat (first | (with_reducible refine w_then ?_) | (with_reducible refine w_set ?_) | (with_reducible refine w_asg ?_) | (with_reducible refine w_do ?_) | (with_reducible refine w_ret ?_) | (with_reducible refine w_sif ?_) | (with_reducible refine w_par ?_) | (with_reducible refine w_skip ?_) | (with_reducible refine w_break ?_) | (with_reducible refine w_cont ?_) | (with_reducible refine w_tv ?_) | (with_reducible refine w_not ?_) | (with_reducible refine w_and ?_) | (with_reducible refine w_or ?_) | (with_reducible refine w_if ?_) | (with_reducible refine w_eand ?_) | (with_reducible refine w_eor ?_) | (with_reducible refine w_chain ?_) | (with_reducible refine w_op1 ?_) | (with_reducible refine w_enot ?_) | (with_reducible refine w_op2 ?_) | (with_reducible refine w_opA ?_) | (with_reducible refine w_opAS ?_) | (with_reducible refine w_meth ?_) | (with_reducible refine w_cons ?_) | (with_reducible refine w_nil ?_) | (with_reducible refine w_tup ?_) | (with_reducible refine w_lst ?_) | (with_reducible refine w_lstC ?_) | (with_reducible refine w_slice ?_) | (with_reducible refine w_psome ?_) | (with_reducible refine w_pnone ?_) | (with_reducible refine w_aug ?_) | (with_reducible refine w_call ?_) | (with_reducible refine w_lc ?_) | (with_reducible refine w_seqi ?_) | (with_reducible refine w_range1 ?_) | (with_reducible refine w_for ?_) | refine w_var rfl ?_ | (with_reducible refine w_c ?_) | refine ⟨_, rfl, ?_⟩ | refine ⟨Nat.le_of_ble_eq_true rfl, ?_⟩ | refine ⟨rfl, ?_⟩ | refine ⟨fun _ => ?_, fun h => absurd h.symm Bool.false_ne_true⟩ | refine ⟨fun h => absurd h Bool.false_ne_true, fun _ => ?_⟩ | refine ⟨fun _ => ?_, fun h => absurd h Bool.false_ne_true⟩ | refine ⟨fun h => absurd h.symm Bool.false_ne_true, fun _ => ?_⟩))
        refine ⟨fun h => ?_, fun _ => ?_⟩
        · exfalso
          simp [D.eqv, see, eqn] at h
        (repeat (first | (with_reducible refine w_then ?_) | (with_reducible refine w_set ?_) | (with_reducible refine w_asg ?_) | (with_reducible refine w_do ?_) | (with_reducible refine w_ret ?_) | (with_reducible refine w_sif ?_) | (with_reducible refine w_par ?_) | (with_reducible refine w_skip ?_) | (with_reducible refine w_break ?_) | (with_reducible refine w_cont ?_) | (with_reducible refine w_tv ?_) | (with_reducible refine w_not ?_) | (with_reducible refine w_and ?_) | (with_reducible refine w_or ?_) | (with_reducible refine w_if ?_) | (with_reducible refine w_eand ?_) | (with_reducible refine w_eor ?_) | (with_reducible refine w_chain ?_) | (with_reducible refine w_op1 ?_) | (with_reducible refine w_enot ?_) | (with_reducible refine w_op2 ?_) | (with_reducible refine w_opA ?_) | (with_reducible refine w_opAS ?_) | (with_reducible refine w_meth ?_) | (with_reducible refine w_cons ?_) | (with_reducible refine w_nil ?_) | (with_reducible refine w_tup ?_) | (with_reducible refine w_lst ?_) | (with_reducible refine w_lstC ?_) | (with_reducible refine w_slice ?_) | (with_reducible refine w_psome ?_) | (with_reducible refine w_pnone ?_) | (with_reducible refine w_aug ?_) | (with_reducible refine w_call ?_) | (with_reducible refine w_lc ?_) | (with_reducible refine w_seqi ?_) | (with_reducible refine w_range1 ?_) | (with_reducible refine w_for ?_) | refine w_var rfl ?_ | (with_reducible refine w_c ?_) | refine ⟨_, rfl, ?_⟩ | refine ⟨Nat.le_of_ble_eq_true rfl, ?_⟩ | refine ⟨rfl, ?_⟩ | refine ⟨fun _ => ?_, fun h => absurd h.symm Bool.false_ne_true⟩ | refine ⟨fun h => absurd h Bool.false_ne_true, fun _ => ?_⟩ | refine ⟨fun _ => ?_, fun h => absurd h Bool.false_ne_true⟩ | refine ⟨fun h => absurd h.symm Bool.false_ne_true, fun _ => ?_⟩))
        dsimp only
        rw [zip_self]
        exact ⟨_, _, if_pos (room xs (.inr rfl)), nx⟩
      | loc n => cases hx
      | scr ns => cases hx
/-! ### calls of the helpers -/
theorem take_call {c : Cell} (h : BagC c) {st : Store} {n : Nat} (hn : st[n]? = some c) {many : Int} (h0 : 0 < many) (h1 : many < 1073741824) {Q : D → Store → Prop} (k : ∀ v c', BagC c' → 0 ≤ v → v < many → Q (.int v) (st.set n c')) : ∃ r s2, viewCall F__law_take [.loc n, .int many] st = some (.ok r, s2) ∧ Q r s2 := by
  obtain ⟨v, c', e, hc', hv0, hv1⟩ := take_spec h h0 h1
  exact ⟨_, _, call_1 (ds := [.int many]) hn (by simp [D.ok, okd]) (bag_ok h) e (bag_ok hc') rfl, k v c' hc' hv0 hv1⟩
theorem some_call {c : Cell} (h : BagC c) {st : Store} {n : Nat} (hn : st[n]? = some c) {t : D} {xs : List D} (ht : t = .lst xs ∨ t = .tup xs) (hok : t.ok = true) (h0 : 0 < xs.length) (h1 : xs.length < 1073741824) {Q : D → Store → Prop} (k : ∀ d c', BagC c' → d ∈ xs → d.ok = true → Q d (st.set n c')) :
    ∃ r s2, viewCall F__law_some [.loc n, t] st = some (.ok r, s2) ∧ Q r s2 := by
  obtain ⟨d, c', e, hc', hm, hd⟩ := some_spec h ht hok h0 h1
  exact ⟨_, _, call_1 (ds := [t]) hn (by simpa using hok) (bag_ok h) e (bag_ok hc') hd, k d c' hc' hm hd⟩
theorem alike_call {st : Store} {d d' : D} (e : d = d') (hd : d.ok = true) (hs : Nat.ble (sz 60 d) 1000000 = true) {Q : D → Store → Prop} (k : Q (.bl true) st) : ∃ r s2, viewCall F__law_alike [d, d'] st = some (.ok r, s2) ∧ Q r s2 := by
  subst e
  exact ⟨_, _, call_0 (by intro x hx; simp at hx; rw [hx]; exact hd) (alike_spec hd (Nat.le_of_ble_eq_true hs)) rfl, k⟩
theorem bag_call {ns : List Int} {st : Store} {Q : D → Store → Prop} (k : ∀ c, BagC c → Q (.loc st.length) (st ++ [c])) : ∃ r s2, viewCall F__law_bag [.scr ns] st = some (.ok r, s2) ∧ Q r s2 := by
  obtain ⟨c, e, hc⟩ := bag_spec ns
  refine ⟨_, _, ?_, k c hc⟩
  unfold viewCall
  have e0 : locIds [D.scr ns] = [] := rfl
  rw [e0]
  have e1 : ([] : List Nat).mapM (fun n => st[n]?) = some [] := rfl
  dsimp only
  rw [e1]
  dsimp only
  have e2 : ([D.scr ns].all isTop && ([] : List Cell).all Cell.ok) = true := rfl
  have e3 : [D.scr ns].map (inView []) = [D.scr ns] := rfl
  rw [if_pos e2, e3, e]
  dsimp only
  rw [if_pos (by simp [bag_ok hc]), if_pos (by rfl)]
  simp [putBack, outOf]
/-- a call of a def without cells, told by its spec -/
theorem plain_call {F : Fn} {ds : List D} {st : Store} {r : D} (hd : ds.all D.ok = true) (hF : F ds [] = some (.ok r, [])) (hr : r.ok = true) {Q : D → Store → Prop} (k : Q r st) : ∃ r s2, viewCall F ds st = some (.ok r, s2) ∧ Q r s2 :=
  ⟨r, st, call_0 (fun d h => List.all_eq_true.mp hd d h) hF hr, k⟩
theorem okd_le {n m : Nat} {d : D} (h : okd n d = true) (hl : n ≤ m) : okd m d = true := by
  induction hl with
  | refl => exact h
  | step _ ih => exact okd_mono ih
end Sw.Lib

namespace Sw.K01
open PySem (Str)
open Lib
def g_LETTERS : D := (.str "abcdefghijklmnopqrstuvwxyz")
def g_RESERVED : D := (.tup [(.str "free"), (.str "hears"), (.str "many"), (.str "no"), (.str "open"), (.str "signs"), (.str "size"), (.str "yes")])
def g_MOST_NAME : D := (.int 8)
noncomputable def b_is_integer : Sx := (sRet (eAnd (op1 (vIsi ["int"]) (eVar 0)) (eNotT (op1 (vIsi ["bool"]) (eVar 0)))))
noncomputable def F_is_integer : Fn := fn 1 1 b_is_integer
noncomputable def b_is_name : Sx := (sSeq (sIf (tOr (tNot (tV (op1 (vIsi ["str"]) (eVar 0)))) (tOr (tNot (tV (eChain vLe vLe (eC (.int 1)) (opA gLen (aCons (eVar 0) aNil)) (eC g_MOST_NAME)))) (tV (op2 vIn (eVar 0) (eC g_RESERVED)))))
  (sRet (eC (.bl false)))
  sSkip)
  (sRet (opA gAll (aCons (eLc (iSeq (eVar 0)) (gName 2) [1, 2] tYes (op2 vIn (eVar 2) (eC g_LETTERS))) aNil))))
noncomputable def F_is_name : Fn := fn 1 3 b_is_name
noncomputable def b__law_is_int : Sx := (sRet (eAnd (op1 (vIsi ["int"]) (eVar 0)) (eNotT (op1 (vIsi ["bool"]) (eVar 0)))))
noncomputable def F__law_is_int : Fn := fn 1 1 b__law_is_int
noncomputable def b__law_is_name : Sx := (sSeq (sSet 1 (eTup (aCons (eC (.str "free")) (aCons (eC (.str "hears")) (aCons (eC (.str "many")) (aCons (eC (.str "no")) (aCons (eC (.str "open")) (aCons (eC (.str "signs")) (aCons (eC (.str "size")) (aCons (eC (.str "yes")) aNil))))))))))
  (sSeq (sIf (tOr (tNot (tV (op1 (vIsi ["str"]) (eVar 0)))) (tOr (tNot (tV (eChain vLe vLe (eC (.int 1)) (opA gLen (aCons (eVar 0) aNil)) (eC (.int 8))))) (tV (op2 vIn (eVar 0) (eVar 1)))))
  (sRet (eC (.bl false)))
  sSkip)
  (sRet (op2 vEq (eLc (iSeq (eVar 0)) (gName 3) [2, 3] (tV (op2 vNin (eVar 3) (eC (.str "abcdefghijklmnopqrstuvwxyz")))) (eC (.int 1))) (eLst aNil)))))
noncomputable def F__law_is_name : Fn := fn 1 4 b__law_is_name
noncomputable def b__law_are_unlike : Sx := (sRet (op2 vEq (eLc (iRange1 (opA gLen (aCons (eVar 0) aNil))) (gName 2) [1, 2] (tV (op2 vIn (op2 vIx (eVar 0) (eVar 2)) (eSlice (eVar 0) pNone (pSome (eVar 2))))) (eC (.int 1))) (eLst aNil)))
noncomputable def F__law_are_unlike : Fn := fn 1 3 b__law_are_unlike
noncomputable def b_is_within : Sx := (sRet (eAnd (eCall F_is_integer (aCons (eVar 0) aNil)) (eChain vLe vLe (eVar 1) (eVar 0) (eVar 2))))
noncomputable def F_is_within : Fn := fn 3 3 b_is_within
noncomputable def b_are_names : Sx := (sSeq (sIf (tOr (tNot (tV (op1 (vIsi ["tuple"]) (eVar 0)))) (tOr (tNot (tV (eChain vLe vLe (eVar 1) (opA gLen (aCons (eVar 0) aNil)) (eVar 2)))) (tNot (tV (opA gAll (aCons (eLc (iSeq (eVar 0)) (gName 4) [3, 4] tYes (eCall F_is_name (aCons (eVar 4) aNil))) aNil))))))
  (sRet (eC (.bl false)))
  sSkip)
  (sRet (op2 vEq (opA gLen (aCons (eDc (iSeq (eVar 0)) (gName 4) [3, 4] tYes (eVar 4) (eC (.bl true))) aNil)) (opA gLen (aCons (eVar 0) aNil)))))
noncomputable def F_are_names : Fn := fn 3 5 b_are_names
noncomputable def b_is_index_lot : Sx := (sSeq (sIf (tOr (tNot (tV (op1 (vIsi ["tuple"]) (eVar 0)))) (tOr (tV (op2 vEq (eVar 0) (eTup aNil))) (tNot (tV (opA gAll (aCons (eLc (iSeq (eVar 0)) (gName 3) [2, 3] tYes (eCall F_is_within (aCons (eVar 3) (aCons (eC (.int 0)) (aCons (op2 vSub (eVar 1) (eC (.int 1))) aNil))))) aNil))))))
  (sRet (eC (.bl false)))
  sSkip)
  (sRet (op2 vEq (opA gList (aCons (eVar 0) aNil)) (opA gSorted (aCons (eDc (iSeq (eVar 0)) (gName 3) [2, 3] tYes (eVar 3) (eC (.bl true))) aNil)))))
noncomputable def F_is_index_lot : Fn := fn 2 4 b_is_index_lot
noncomputable def b__law_word : Sx := (sSeq (sSet 1 (eLst (aCons (eC (.str "a")) (aCons (eC (.str "zz")) (aCons (eC (.str "free")) (aCons (eC (.str "hears")) (aCons (eC (.str "many")) (aCons (eC (.str "no")) (aCons (eC (.str "open")) (aCons (eC (.str "signs")) (aCons (eC (.str "size")) (aCons (eC (.str "yes")) (aCons (eC (.str "abcdefgh")) aNil)))))))))))))
  (sRet (eCall F__law_some (aCons (eVar 0) (aCons (op2 vAdd (eVar 1) (eLst (aCons (eC (.str "abcdefghi")) (aCons (eC (.str "")) (aCons (eC (.str "A")) (aCons (eC (.str "a1")) (aCons (eC (.str "a ")) (aCons (eC (.str "nos")) (aCons (eC (.str "a-b")) (aCons (eC .non) (aCons (eC (.int 7)) (aCons (eC (.bl true)) (aCons (eTup (aCons (eC (.str "a")) aNil)) (aCons (eLst (aCons (eC (.str "a")) aNil)) aNil)))))))))))))) aNil)))))
noncomputable def F__law_word : Fn := fn 1 2 b__law_word
noncomputable def b_law_f1 : Sx := (sSeq (sSet 9 (eAnd (op1 (vIsi ["tuple"]) (eVar 8)) (op2 vEq (eLc (iSeq (eVar 8)) (gName 14) [12, 14] (tNot (tV (eCall F__law_is_name (aCons (eVar 14) aNil)))) (eC (.int 1))) (eLst aNil))))
  (sSeq (sSet 9 (eAnd (eVar 9) (eAnd (eCall F__law_are_unlike (aCons (eVar 8) aNil)) (eChain vLe vLe (eVar 5) (opA gLen (aCons (eVar 8) aNil)) (eVar 6)))))
  (sIf (tNot (tV (eCall F__law_alike (aCons (eCall F_are_names (aCons (eVar 8) (aCons (eVar 5) (aCons (eVar 6) aNil)))) (aCons (eVar 9) aNil)))))
  (sRet (eC (.bl false)))
  sSkip)))
noncomputable def b_law_f2 : Sx := (sSeq (sSet 9 (eAnd (op1 (vIsi ["tuple"]) (eVar 8)) (eAnd (op2 vNe (eVar 8) (eTup aNil)) (op2 vEq (eLc (iSeq (eVar 8)) (gName 14) [12, 14] (tNot (tV (eCall F__law_is_int (aCons (eVar 14) aNil)))) (eC (.int 1))) (eLst aNil)))))
  (sSeq (sSet 9 (eAnd (eVar 9) (op2 vEq (eLc (iSeq (eVar 8)) (gName 14) [12, 14] (tNot (tV (eChain vLe vLt (eC (.int 0)) (eVar 14) (eVar 6)))) (eC (.int 1))) (eLst aNil))))
  (sSeq (sSet 9 (eAnd (eVar 9) (op2 vEq (eLc (iZip2 (eVar 8) (eSlice (eVar 8) (pSome (eC (.int 1))) pNone)) (gTup [(gName 14), (gName 15)]) [12, 14, 15] (tV (op2 vGe (eVar 14) (eVar 15))) (eC (.int 1))) (eLst aNil))))
  (sIf (tNot (tV (eCall F__law_alike (aCons (eCall F_is_index_lot (aCons (eVar 8) (aCons (eVar 6) aNil))) (aCons (eVar 9) aNil)))))
  (sRet (eC (.bl false)))
  sSkip))))
noncomputable def b_law_f3 : Sx := (sSeq (sPar [gName 3, gName 4] (aCons (eCall F__law_word (aCons (eVar 1) aNil)) (aCons (eCall F__law_some (aCons (eVar 1) (aCons (eLst (aCons (eC (.int 0)) (aCons (eC (.int 1)) (aCons (op1 vNeg (eC (.int 1))) (aCons (eC (.int 7)) (aCons (eC (.bl true)) (aCons (eC (.bl false)) (aCons (eC .non) (aCons (eC (.str "1")) (aCons (op2 vPow (eC (.int 10)) (eC (.int 40))) (aCons (eTup (aCons (eC (.int 1)) aNil)) aNil))))))))))) aNil))) aNil)))
  (sSeq (sAsg (eTup (aCons (op2 vSub (eCall F__law_take (aCons (eVar 1) (aCons (eC (.int 4)) aNil))) (eC (.int 1))) (aCons (eCall F__law_take (aCons (eVar 1) (aCons (eC (.int 9)) aNil))) aNil))) (gTup [(gName 5), (gName 6)]))
  (sSeq (sIf (tNot (tV (eCall F__law_alike (aCons (eLst (aCons (eCall F_is_name (aCons (eVar 3) aNil)) (aCons (eCall F_is_integer (aCons (eVar 4) aNil)) aNil))) (aCons (eLst (aCons (eCall F__law_is_name (aCons (eVar 3) aNil)) (aCons (eCall F__law_is_int (aCons (eVar 4) aNil)) aNil))) aNil)))))
  (sRet (eC (.bl false)))
  sSkip)
  (sSeq (sIf (tNot (tV (eCall F__law_alike (aCons (eCall F_is_within (aCons (eVar 4) (aCons (eVar 5) (aCons (eVar 6) aNil)))) (aCons (eAnd (eCall F__law_is_int (aCons (eVar 4) aNil)) (eChain vLe vLe (eVar 5) (eVar 4) (eVar 6))) aNil)))))
  (sRet (eC (.bl false)))
  sSkip)
  (sSeq (sSet 7 (opA gTuple (aCons (eLc (iRange1 (eCall F__law_take (aCons (eVar 1) (aCons (eC (.int 4)) aNil)))) (gName 13) [12, 13] tYes (eCall F__law_word (aCons (eVar 1) aNil))) aNil)))
  (sSeq (sFor (iSeq (eTup (aCons (eVar 7) (aCons (opA gList (aCons (eVar 7) aNil)) (aCons (eC .non) (aCons (op2 vAdd (eVar 7) (eVar 7)) (aCons (eC (.str "ab")) aNil))))))) (gName 8) [8, 9] b_law_f1)
  (sSeq (sSet 10 (opA gTuple (aCons (eLc (iRange1 (eCall F__law_take (aCons (eVar 1) (aCons (eC (.int 4)) aNil)))) (gName 13) [12, 13] tYes (eCall F__law_some (aCons (eVar 1) (aCons (eLst (aCons (eC (.int 0)) (aCons (eC (.int 1)) (aCons (eC (.int 2)) (aCons (eC (.int 3)) (aCons (eC (.int 4)) (aCons (op1 vNeg (eC (.int 1))) (aCons (eC (.bl true)) (aCons (eC .non) (aCons (eC (.str "1")) (aCons (eTup (aCons (eC (.int 0)) aNil)) aNil))))))))))) aNil)))) aNil)))
  (sSeq (sSet 11 (opA gTuple (aCons (op1 vSortSet (eLc (iRange1 (eC (.int 3))) (gName 13) [12, 13] tYes (eCall F__law_take (aCons (eVar 1) (aCons (eC (.int 5)) aNil))))) aNil)))
  (sFor (iSeq (eTup (aCons (eVar 10) (aCons (eVar 11) (aCons (opA gList (aCons (eVar 11) aNil)) (aCons (op1 vRevA (eVar 11)) (aCons (op2 vAdd (eVar 11) (eVar 11)) (aCons (eTup aNil) (aCons (eC .non) (aCons (eC (.int 3)) aNil)))))))))) (gName 8) [8, 9] b_law_f2)))))))))
noncomputable def b_law : Sx := (sSeq (sSet 1 (eCall F__law_bag (aCons (eVar 0) aNil)))
  (sSeq (sFor (iRange1 (eC (.int 10))) (gName 2) [2, 3, 4, 5, 6, 7, 8, 9, 10, 11] b_law_f3)
  (sRet (eC (.bl true)))))
noncomputable def F_law : Fn := fn 1 16 b_law
end Sw.K01
/-! Pk01: k01's plain law. -/
set_option linter.all false
set_option maxRecDepth 100000
set_option maxHeartbeats 4000000
namespace Sw.K01
open PySem (Str)
open Lib
theorem fn_pure {n N : Nat} {b : Sx} {ds : List D} {r : D} (hl : ds.length = n) (hr : r.ok = true) (h : WS b (startE N ds) [] fun q s => q = .rt r ∧ s = []) : fn n N b ds [] = some (.ok r, []) := by
  obtain ⟨q, s, h1, rfl, rfl⟩ := h
  unfold fn
  rw [if_pos hl, h1]
  exact clean_ok rfl hr
/-- whatever is left in the store of one's own -/
theorem fn_own {n N : Nat} {b : Sx} {ds : List D} {r : D} (hl : ds.length = n) (hr : r.ok = true) (h : WS b (startE N ds) [] fun q _ => q = .rt r) : fn n N b ds [] = some (.ok r, []) := by
  obtain ⟨q, s, h1, rfl⟩ := h
  unfold fn
  rw [if_pos hl, h1]
  exact clean_ok rfl hr
theorem call_p {F : Fn} {ds : List D} {st : Store} {r : D} (hd : ∀ d ∈ ds, D.ok d = true) (hF : F ds [] = some (.ok r, [])) (hr : r.ok = true) : ∃ r' s, viewCall F ds st = some (.ok r', s) ∧ r' = r ∧ s = st := ⟨r, st, call_0 hd hF hr, rfl, rfl⟩
def isI : D → Bool
  | .int _ => true
  | _ => false
def isT : D → Bool
  | .tup _ => true
  | _ => false
theorem is_integer_spec {d : D} (h : d.ok = true) : F_is_integer [d] [] = some (.ok (.bl (isI d)), []) := by
  refine fn_pure rfl rfl ?_
  show WS b_is_integer [some d] [] _
  unfold b_is_integer
  cases d with
  | loc _ => cases h
  | scr _ => cases h
  | _ => (repeat (first | (with_reducible refine w_then ?_) | (with_reducible refine w_set ?_) | (with_reducible refine w_asg ?_) | (with_reducible refine w_do ?_) | (with_reducible refine w_ret ?_) | (with_reducible refine w_sif ?_) | (with_reducible refine w_par ?_) | (with_reducible refine w_skip ?_) | (with_reducible refine w_break ?_) | (with_reducible refine w_cont ?_) | (with_reducible refine w_tv ?_) | (with_reducible refine w_not ?_) | (with_reducible refine w_and ?_) | (with_reducible refine w_or ?_) | (with_reducible refine w_if ?_) | (with_reducible refine w_eand ?_) | (with_reducible refine w_eor ?_) | (with_reducible refine w_chain ?_) | (with_reducible refine w_op1 ?_) | (with_reducible refine w_enot ?_) | (with_reducible refine w_op2 ?_) | (with_reducible refine w_opA ?_) | (with_reducible refine w_opAS ?_) | (with_reducible refine w_meth ?_) | (with_reducible refine w_cons ?_) | (with_reducible refine w_nil ?_) | (with_reducible refine w_tup ?_) | (with_reducible refine w_lst ?_) | (with_reducible refine w_lstC ?_) | (with_reducible refine w_slice ?_) | (with_reducible refine w_psome ?_) | (with_reducible refine w_pnone ?_) | (with_reducible refine w_aug ?_) | (with_reducible refine w_call ?_) | (with_reducible refine w_lc ?_) | (with_reducible refine w_seqi ?_) | (with_reducible refine w_range1 ?_) | (with_reducible refine w_for ?_) | refine w_var rfl ?_ | (with_reducible refine w_c ?_) | refine ⟨_, rfl, ?_⟩ | refine ⟨Nat.le_of_ble_eq_true rfl, ?_⟩ | refine ⟨rfl, ?_⟩ | refine ⟨fun _ => ?_, fun h => absurd h.symm Bool.false_ne_true⟩ | refine ⟨fun h => absurd h Bool.false_ne_true, fun _ => ?_⟩ | refine ⟨fun _ => ?_, fun h => absurd h Bool.false_ne_true⟩ | refine ⟨fun h => absurd h.symm Bool.false_ne_true, fun _ => ?_⟩)); first | rfl | exact ⟨rfl, rfl⟩
theorem law_is_int_spec {d : D} (h : d.ok = true) : F__law_is_int [d] [] = some (.ok (.bl (isI d)), []) := by
  refine fn_pure rfl rfl ?_
  show WS b__law_is_int [some d] [] _
  unfold b__law_is_int
  cases d with
  | loc _ => cases h
  | scr _ => cases h
  | _ => (repeat (first | (with_reducible refine w_then ?_) | (with_reducible refine w_set ?_) | (with_reducible refine w_asg ?_) | (with_reducible refine w_do ?_) | (with_reducible refine w_ret ?_) | (with_reducible refine w_sif ?_) | (with_reducible refine w_par ?_) | (with_reducible refine w_skip ?_) | (with_reducible refine w_break ?_) | (with_reducible refine w_cont ?_) | (with_reducible refine w_tv ?_) | (with_reducible refine w_not ?_) | (with_reducible refine w_and ?_) | (with_reducible refine w_or ?_) | (with_reducible refine w_if ?_) | (with_reducible refine w_eand ?_) | (with_reducible refine w_eor ?_) | (with_reducible refine w_chain ?_) | (with_reducible refine w_op1 ?_) | (with_reducible refine w_enot ?_) | (with_reducible refine w_op2 ?_) | (with_reducible refine w_opA ?_) | (with_reducible refine w_opAS ?_) | (with_reducible refine w_meth ?_) | (with_reducible refine w_cons ?_) | (with_reducible refine w_nil ?_) | (with_reducible refine w_tup ?_) | (with_reducible refine w_lst ?_) | (with_reducible refine w_lstC ?_) | (with_reducible refine w_slice ?_) | (with_reducible refine w_psome ?_) | (with_reducible refine w_pnone ?_) | (with_reducible refine w_aug ?_) | (with_reducible refine w_call ?_) | (with_reducible refine w_lc ?_) | (with_reducible refine w_seqi ?_) | (with_reducible refine w_range1 ?_) | (with_reducible refine w_for ?_) | refine w_var rfl ?_ | (with_reducible refine w_c ?_) | refine ⟨_, rfl, ?_⟩ | refine ⟨Nat.le_of_ble_eq_true rfl, ?_⟩ | refine ⟨rfl, ?_⟩ | refine ⟨fun _ => ?_, fun h => absurd h.symm Bool.false_ne_true⟩ | refine ⟨fun h => absurd h Bool.false_ne_true, fun _ => ?_⟩ | refine ⟨fun _ => ?_, fun h => absurd h Bool.false_ne_true⟩ | refine ⟨fun h => absurd h.symm Bool.false_ne_true, fun _ => ?_⟩)); first | rfl | exact ⟨rfl, rfl⟩
def within (d : D) (lo hi : Int) : Bool := match d with
  | .int i => decide (lo ≤ i) && decide (i ≤ hi)
  | _ => false
theorem is_within_spec {d : D} (h : d.ok = true) {lo hi : Int} : F_is_within [d, .int lo, .int hi] [] = some (.ok (.bl (within d lo hi)), []) := by
  refine fn_pure rfl rfl ?_
  show WS b_is_within [some d, some (.int lo), some (.int hi)] [] _
  unfold b_is_within
  refine w_ret (w_eand (w_call (w_cons (w_var rfl (w_nil ?_)))))
  refine ⟨_, _, call_0 (by simpa using h) (is_integer_spec h) rfl, _, rfl, ?_⟩
  cases d with
  | int i =>
    (repeat (first | (with_reducible refine w_then ?_) | (with_reducible refine w_set ?_) | (with_reducible refine w_asg ?_) | (with_reducible refine w_do ?_) | (with_reducible refine w_ret ?_) | (with_reducible refine w_sif ?_) | (with_reducible refine w_par ?_) | (with_reducible refine w_skip ?_) | (with_reducible refine w_break ?_) | (with_reducible refine w_cont ?_) | (with_reducible refine w_tv ?_) | (with_reducible refine w_not ?_) | (with_reducible refine w_and ?_) | (with_reducible refine w_or ?_) | (with_reducible refine w_if ?_) | (with_reducible refine w_eand ?_) | (with_reducible refine w_eor ?_) | (with_reducible refine w_chain ?_) | (with_reducible refine w_op1 ?_) | (with_reducible refine w_enot ?_) | (with_reducible refine w_op2 ?_) | (with_reducible refine w_opA ?_) | (with_reducible refine w_opAS ?_) | (with_reducible refine w_meth ?_) | (with_reducible refine w_cons ?_) | (with_reducible refine w_nil ?_) | (with_reducible refine w_tup ?_) | (with_reducible refine w_lst ?_) | (with_reducible refine w_lstC ?_) | (with_reducible refine w_slice ?_) | (with_reducible refine w_psome ?_) | (with_reducible refine w_pnone ?_) | (with_reducible refine w_aug ?_) | (with_reducible refine w_call ?_) | (with_reducible refine w_lc ?_) | (with_reducible refine w_seqi ?_) | (with_reducible refine w_range1 ?_) | (with_reducible refine w_for ?_) | refine w_var rfl ?_ | (with_reducible refine w_c ?_) | refine ⟨_, rfl, ?_⟩ | refine ⟨Nat.le_of_ble_eq_true rfl, ?_⟩ | refine ⟨rfl, ?_⟩ | refine ⟨fun _ => ?_, fun h => absurd h.symm Bool.false_ne_true⟩ | refine ⟨fun h => absurd h Bool.false_ne_true, fun _ => ?_⟩ | refine ⟨fun _ => ?_, fun h => absurd h Bool.false_ne_true⟩ | refine ⟨fun h => absurd h.symm Bool.false_ne_true, fun _ => ?_⟩))
    refine ⟨fun hk => ?_, fun hk => ?_⟩
    · (repeat (first | (with_reducible refine w_then ?_) | (with_reducible refine w_set ?_) | (with_reducible refine w_asg ?_) | (with_reducible refine w_do ?_) | (with_reducible refine w_ret ?_) | (with_reducible refine w_sif ?_) | (with_reducible refine w_par ?_) | (with_reducible refine w_skip ?_) | (with_reducible refine w_break ?_) | (with_reducible refine w_cont ?_) | (with_reducible refine w_tv ?_) | (with_reducible refine w_not ?_) | (with_reducible refine w_and ?_) | (with_reducible refine w_or ?_) | (with_reducible refine w_if ?_) | (with_reducible refine w_eand ?_) | (with_reducible refine w_eor ?_) | (with_reducible refine w_chain ?_) | (with_reducible refine w_op1 ?_) | (with_reducible refine w_enot ?_) | (with_reducible refine w_op2 ?_) | (with_reducible refine w_opA ?_) | (with_reducible refine w_opAS ?_) | (with_reducible refine w_meth ?_) | (with_reducible refine w_cons ?_) | (with_reducible refine w_nil ?_) | (with_reducible refine w_tup ?_) | (with_reducible refine w_lst ?_) | (with_reducible refine w_lstC ?_) | (with_reducible refine w_slice ?_) | (with_reducible refine w_psome ?_) | (with_reducible refine w_pnone ?_) | (with_reducible refine w_aug ?_) | (with_reducible refine w_call ?_) | (with_reducible refine w_lc ?_) | (with_reducible refine w_seqi ?_) | (with_reducible refine w_range1 ?_) | (with_reducible refine w_for ?_) | refine w_var rfl ?_ | (with_reducible refine w_c ?_) | refine ⟨_, rfl, ?_⟩ | refine ⟨Nat.le_of_ble_eq_true rfl, ?_⟩ | refine ⟨rfl, ?_⟩ | refine ⟨fun _ => ?_, fun h => absurd h.symm Bool.false_ne_true⟩ | refine ⟨fun h => absurd h Bool.false_ne_true, fun _ => ?_⟩ | refine ⟨fun _ => ?_, fun h => absurd h Bool.false_ne_true⟩ | refine ⟨fun h => absurd h.symm Bool.false_ne_true, fun _ => ?_⟩))
      refine ⟨?_, rfl⟩
      show SR.rt (.bl _) = SR.rt (.bl (decide (lo ≤ i) && decide (i ≤ hi)))
      rw [hk, Bool.true_and]
    · refine ⟨?_, rfl⟩
      show SR.rt (.bl _) = SR.rt (.bl (decide (lo ≤ i) && decide (i ≤ hi)))
      rw [hk, Bool.false_and]
  | loc _ => cases h
  | scr _ => cases h
  | _ => (repeat (first | (with_reducible refine w_then ?_) | (with_reducible refine w_set ?_) | (with_reducible refine w_asg ?_) | (with_reducible refine w_do ?_) | (with_reducible refine w_ret ?_) | (with_reducible refine w_sif ?_) | (with_reducible refine w_par ?_) | (with_reducible refine w_skip ?_) | (with_reducible refine w_break ?_) | (with_reducible refine w_cont ?_) | (with_reducible refine w_tv ?_) | (with_reducible refine w_not ?_) | (with_reducible refine w_and ?_) | (with_reducible refine w_or ?_) | (with_reducible refine w_if ?_) | (with_reducible refine w_eand ?_) | (with_reducible refine w_eor ?_) | (with_reducible refine w_chain ?_) | (with_reducible refine w_op1 ?_) | (with_reducible refine w_enot ?_) | (with_reducible refine w_op2 ?_) | (with_reducible refine w_opA ?_) | (with_reducible refine w_opAS ?_) | (with_reducible refine w_meth ?_) | (with_reducible refine w_cons ?_) | (with_reducible refine w_nil ?_) | (with_reducible refine w_tup ?_) | (with_reducible refine w_lst ?_) | (with_reducible refine w_lstC ?_) | (with_reducible refine w_slice ?_) | (with_reducible refine w_psome ?_) | (with_reducible refine w_pnone ?_) | (with_reducible refine w_aug ?_) | (with_reducible refine w_call ?_) | (with_reducible refine w_lc ?_) | (with_reducible refine w_seqi ?_) | (with_reducible refine w_range1 ?_) | (with_reducible refine w_for ?_) | refine w_var rfl ?_ | (with_reducible refine w_c ?_) | refine ⟨_, rfl, ?_⟩ | refine ⟨Nat.le_of_ble_eq_true rfl, ?_⟩ | refine ⟨rfl, ?_⟩ | refine ⟨fun _ => ?_, fun h => absurd h.symm Bool.false_ne_true⟩ | refine ⟨fun h => absurd h Bool.false_ne_true, fun _ => ?_⟩ | refine ⟨fun _ => ?_, fun h => absurd h Bool.false_ne_true⟩ | refine ⟨fun h => absurd h.symm Bool.false_ne_true, fun _ => ?_⟩)); first | rfl | exact ⟨rfl, rfl⟩
def letL : List Nat := ("abcdefghijklmnopqrstuvwxyz" : Str).cps.toList
def resL : List D := [.str "free", .str "hears", .str "many", .str "no", .str "open", .str "signs", .str "size", .str "yes"]
def nameS (x : Str) : Bool := decide (1 ≤ (x.length : Int)) && (decide ((x.length : Int) ≤ 8) && (!(resL.any fun y => y.eqv (.str x)) && x.cps.toList.all fun c => decide (c ∈ letL)))
def nameD : D → Bool
  | .str x => nameS x
  | _ => false
theorem is_name_spec {d : D} (h : d.ok = true) : F_is_name [d] [] = some (.ok (.bl (nameD d)), []) := by
  refine fn_pure rfl rfl ?_
  show WS b_is_name [some d, none, none] [] _
  unfold b_is_name
  cases d with
  | str x =>
    refine w_then (w_sif (w_or ?_))
    (repeat (first | (with_reducible refine w_then ?_) | (with_reducible refine w_set ?_) | (with_reducible refine w_asg ?_) | (with_reducible refine w_do ?_) | (with_reducible refine w_ret ?_) | (with_reducible refine w_sif ?_) | (with_reducible refine w_par ?_) | (with_reducible refine w_skip ?_) | (with_reducible refine w_break ?_) | (with_reducible refine w_cont ?_) | (with_reducible refine w_tv ?_) | (with_reducible refine w_not ?_) | (with_reducible refine w_and ?_) | (with_reducible refine w_or ?_) | (with_reducible refine w_if ?_) | (with_reducible refine w_eand ?_) | (with_reducible refine w_eor ?_) | (with_reducible refine w_chain ?_) | (with_reducible refine w_op1 ?_) | (with_reducible refine w_enot ?_) | (with_reducible refine w_op2 ?_) | (with_reducible refine w_opA ?_) | (with_reducible refine w_opAS ?_) | (with_reducible refine w_meth ?_) | (with_reducible refine w_cons ?_) | (with_reducible refine w_nil ?_) | (with_reducible refine w_tup ?_) | (with_reducible refine w_lst ?_) | (with_reducible refine w_lstC ?_) | (with_reducible refine w_slice ?_) | (with_reducible refine w_psome ?_) | (with_reducible refine w_pnone ?_) | (with_reducible refine w_aug ?_) | (with_reducible refine w_call ?_) | (with_reducible refine w_lc ?_) | (with_reducible refine w_seqi ?_) | (with_reducible refine w_range1 ?_) | (with_reducible refine w_for ?_) | refine w_var rfl ?_ | (with_reducible refine w_c ?_) | refine ⟨_, rfl, ?_⟩ | refine ⟨Nat.le_of_ble_eq_true rfl, ?_⟩ | refine ⟨rfl, ?_⟩ | refine ⟨fun _ => ?_, fun h => absurd h.symm Bool.false_ne_true⟩ | refine ⟨fun h => absurd h Bool.false_ne_true, fun _ => ?_⟩ | refine ⟨fun _ => ?_, fun h => absurd h Bool.false_ne_true⟩ | refine ⟨fun h => absurd h.symm Bool.false_ne_true, fun _ => ?_⟩))
    refine ⟨fun h1 => ?_, fun h1 => ?_⟩
    · (repeat (first | (with_reducible refine w_then ?_) | (with_reducible refine w_set ?_) | (with_reducible refine w_asg ?_) | (with_reducible refine w_do ?_) | (with_reducible refine w_ret ?_) | (with_reducible refine w_sif ?_) | (with_reducible refine w_par ?_) | (with_reducible refine w_skip ?_) | (with_reducible refine w_break ?_) | (with_reducible refine w_cont ?_) | (with_reducible refine w_tv ?_) | (with_reducible refine w_not ?_) | (with_reducible refine w_and ?_) | (with_reducible refine w_or ?_) | (with_reducible refine w_if ?_) | (with_reducible refine w_eand ?_) | (with_reducible refine w_eor ?_) | (with_reducible refine w_chain ?_) | (with_reducible refine w_op1 ?_) | (with_reducible refine w_enot ?_) | (with_reducible refine w_op2 ?_) | (with_reducible refine w_opA ?_) | (with_reducible refine w_opAS ?_) | (with_reducible refine w_meth ?_) | (with_reducible refine w_cons ?_) | (with_reducible refine w_nil ?_) | (with_reducible refine w_tup ?_) | (with_reducible refine w_lst ?_) | (with_reducible refine w_lstC ?_) | (with_reducible refine w_slice ?_) | (with_reducible refine w_psome ?_) | (with_reducible refine w_pnone ?_) | (with_reducible refine w_aug ?_) | (with_reducible refine w_call ?_) | (with_reducible refine w_lc ?_) | (with_reducible refine w_seqi ?_) | (with_reducible refine w_range1 ?_) | (with_reducible refine w_for ?_) | refine w_var rfl ?_ | (with_reducible refine w_c ?_) | refine ⟨_, rfl, ?_⟩ | refine ⟨Nat.le_of_ble_eq_true rfl, ?_⟩ | refine ⟨rfl, ?_⟩ | refine ⟨fun _ => ?_, fun h => absurd h.symm Bool.false_ne_true⟩ | refine ⟨fun h => absurd h Bool.false_ne_true, fun _ => ?_⟩ | refine ⟨fun _ => ?_, fun h => absurd h Bool.false_ne_true⟩ | refine ⟨fun h => absurd h.symm Bool.false_ne_true, fun _ => ?_⟩))
      refine ⟨fun h2 => ?_, fun h2 => ?_⟩
      · (repeat (first | (with_reducible refine w_then ?_) | (with_reducible refine w_set ?_) | (with_reducible refine w_asg ?_) | (with_reducible refine w_do ?_) | (with_reducible refine w_ret ?_) | (with_reducible refine w_sif ?_) | (with_reducible refine w_par ?_) | (with_reducible refine w_skip ?_) | (with_reducible refine w_break ?_) | (with_reducible refine w_cont ?_) | (with_reducible refine w_tv ?_) | (with_reducible refine w_not ?_) | (with_reducible refine w_and ?_) | (with_reducible refine w_or ?_) | (with_reducible refine w_if ?_) | (with_reducible refine w_eand ?_) | (with_reducible refine w_eor ?_) | (with_reducible refine w_chain ?_) | (with_reducible refine w_op1 ?_) | (with_reducible refine w_enot ?_) | (with_reducible refine w_op2 ?_) | (with_reducible refine w_opA ?_) | (with_reducible refine w_opAS ?_) | (with_reducible refine w_meth ?_) | (with_reducible refine w_cons ?_) | (with_reducible refine w_nil ?_) | (with_reducible refine w_tup ?_) | (with_reducible refine w_lst ?_) | (with_reducible refine w_lstC ?_) | (with_reducible refine w_slice ?_) | (with_reducible refine w_psome ?_) | (with_reducible refine w_pnone ?_) | (with_reducible refine w_aug ?_) | (with_reducible refine w_call ?_) | (with_reducible refine w_lc ?_) | (with_reducible refine w_seqi ?_) | (with_reducible refine w_range1 ?_) | (with_reducible refine w_for ?_) | refine w_var rfl ?_ | (with_reducible refine w_c ?_) | refine ⟨_, rfl, ?_⟩ | refine ⟨Nat.le_of_ble_eq_true rfl, ?_⟩ | refine ⟨rfl, ?_⟩ | refine ⟨fun _ => ?_, fun h => absurd h.symm Bool.false_ne_true⟩ | refine ⟨fun h => absurd h Bool.false_ne_true, fun _ => ?_⟩ | refine ⟨fun _ => ?_, fun h => absurd h Bool.false_ne_true⟩ | refine ⟨fun h => absurd h.symm Bool.false_ne_true, fun _ => ?_⟩))
        refine ⟨fun h3 => ?_, fun h3 => ?_⟩
        · (repeat (first | (with_reducible refine w_then ?_) | (with_reducible refine w_set ?_) | (with_reducible refine w_asg ?_) | (with_reducible refine w_do ?_) | (with_reducible refine w_ret ?_) | (with_reducible refine w_sif ?_) | (with_reducible refine w_par ?_) | (with_reducible refine w_skip ?_) | (with_reducible refine w_break ?_) | (with_reducible refine w_cont ?_) | (with_reducible refine w_tv ?_) | (with_reducible refine w_not ?_) | (with_reducible refine w_and ?_) | (with_reducible refine w_or ?_) | (with_reducible refine w_if ?_) | (with_reducible refine w_eand ?_) | (with_reducible refine w_eor ?_) | (with_reducible refine w_chain ?_) | (with_reducible refine w_op1 ?_) | (with_reducible refine w_enot ?_) | (with_reducible refine w_op2 ?_) | (with_reducible refine w_opA ?_) | (with_reducible refine w_opAS ?_) | (with_reducible refine w_meth ?_) | (with_reducible refine w_cons ?_) | (with_reducible refine w_nil ?_) | (with_reducible refine w_tup ?_) | (with_reducible refine w_lst ?_) | (with_reducible refine w_lstC ?_) | (with_reducible refine w_slice ?_) | (with_reducible refine w_psome ?_) | (with_reducible refine w_pnone ?_) | (with_reducible refine w_aug ?_) | (with_reducible refine w_call ?_) | (with_reducible refine w_lc ?_) | (with_reducible refine w_seqi ?_) | (with_reducible refine w_range1 ?_) | (with_reducible refine w_for ?_) | refine w_var rfl ?_ | (with_reducible refine w_c ?_) | refine ⟨_, rfl, ?_⟩ | refine ⟨Nat.le_of_ble_eq_true rfl, ?_⟩ | refine ⟨rfl, ?_⟩ | refine ⟨fun _ => ?_, fun h => absurd h.symm Bool.false_ne_true⟩ | refine ⟨fun h => absurd h Bool.false_ne_true, fun _ => ?_⟩ | refine ⟨fun _ => ?_, fun h => absurd h Bool.false_ne_true⟩ | refine ⟨fun h => absurd h.symm Bool.false_ne_true, fun _ => ?_⟩))
          refine ⟨?_, rfl⟩
          have h3 : (resL.any fun y => y.eqv (.str x)) = true := h3
          have : nameS x = false := by unfold nameS; rw [h3]; simp
          show SR.rt (.bl false) = SR.rt (.bl (nameS x))
          rw [this]
        · have h3 : (resL.any fun y => y.eqv (.str x)) = false := h3
          (repeat (first | (with_reducible refine w_then ?_) | (with_reducible refine w_set ?_) | (with_reducible refine w_asg ?_) | (with_reducible refine w_do ?_) | (with_reducible refine w_ret ?_) | (with_reducible refine w_sif ?_) | (with_reducible refine w_par ?_) | (with_reducible refine w_skip ?_) | (with_reducible refine w_break ?_) | (with_reducible refine w_cont ?_) | (with_reducible refine w_tv ?_) | (with_reducible refine w_not ?_) | (with_reducible refine w_and ?_) | (with_reducible refine w_or ?_) | (with_reducible refine w_if ?_) | (with_reducible refine w_eand ?_) | (with_reducible refine w_eor ?_) | (with_reducible refine w_chain ?_) | (with_reducible refine w_op1 ?_) | (with_reducible refine w_enot ?_) | (with_reducible refine w_op2 ?_) | (with_reducible refine w_opA ?_) | (with_reducible refine w_opAS ?_) | (with_reducible refine w_meth ?_) | (with_reducible refine w_cons ?_) | (with_reducible refine w_nil ?_) | (with_reducible refine w_tup ?_) | (with_reducible refine w_lst ?_) | (with_reducible refine w_lstC ?_) | (with_reducible refine w_slice ?_) | (with_reducible refine w_psome ?_) | (with_reducible refine w_pnone ?_) | (with_reducible refine w_aug ?_) | (with_reducible refine w_call ?_) | (with_reducible refine w_lc ?_) | (with_reducible refine w_seqi ?_) | (with_reducible refine w_range1 ?_) | (with_reducible refine w_for ?_) | refine w_var rfl ?_ | (with_reducible refine w_c ?_) | refine ⟨_, rfl, ?_⟩ | refine ⟨Nat.le_of_ble_eq_true rfl, ?_⟩ | refine ⟨rfl, ?_⟩ | refine ⟨fun _ => ?_, fun h => absurd h.symm Bool.false_ne_true⟩ | refine ⟨fun h => absurd h Bool.false_ne_true, fun _ => ?_⟩ | refine ⟨fun _ => ?_, fun h => absurd h Bool.false_ne_true⟩ | refine ⟨fun h => absurd h.symm Bool.false_ne_true, fun _ => ?_⟩))
          refine ⟨_, _, compL_map (fun c => .str ⟨#[c]⟩) (fun c => .bl (decide (c ∈ letL))) (xs := x.cps.toList) fun c _ => ⟨_, rfl, ?_⟩, ?_⟩
          · (repeat (first | (with_reducible refine w_tv ?_) | (with_reducible refine w_not ?_) | (with_reducible refine w_op1 ?_) | (with_reducible refine w_enot ?_) | (with_reducible refine w_op2 ?_) | (with_reducible refine w_opA ?_) | (with_reducible refine w_opAS ?_) | (with_reducible refine w_meth ?_) | (with_reducible refine w_cons ?_) | (with_reducible refine w_nil ?_) | (with_reducible refine w_tup ?_) | (with_reducible refine w_lst ?_) | (with_reducible refine w_lstC ?_) | (with_reducible refine w_slice ?_) | (with_reducible refine w_psome ?_) | (with_reducible refine w_pnone ?_) | (with_reducible refine w_seqi ?_) | (with_reducible refine w_range1 ?_) | refine w_var rfl ?_ | (with_reducible refine w_c ?_) | refine ⟨_, rfl, ?_⟩ | refine ⟨Nat.le_of_ble_eq_true rfl, ?_⟩ | refine ⟨rfl, ?_⟩ | refine ⟨fun _ => ?_, fun h => absurd h.symm Bool.false_ne_true⟩ | refine ⟨fun h => absurd h Bool.false_ne_true, fun _ => ?_⟩ | refine ⟨fun _ => ?_, fun h => absurd h Bool.false_ne_true⟩ | refine ⟨fun h => absurd h.symm Bool.false_ne_true, fun _ => ?_⟩)); rfl
          · have e := gAll_map (st := []) (x.cps.toList.map fun c => decide (c ∈ letL))
            rw [List.map_map] at e
            refine w_nil ⟨_, e, ?_, rfl⟩
            have : nameS x = (x.cps.toList.map fun c => decide (c ∈ letL)).all id := by
              unfold nameS
              rw [h1, h3, List.all_map]
              rw [Bool.not_eq_false'] at h2
              rw [h2]
              simp
            show SR.rt _ = SR.rt (.bl (nameS x))
            rw [this]
      · (repeat (first | (with_reducible refine w_then ?_) | (with_reducible refine w_set ?_) | (with_reducible refine w_asg ?_) | (with_reducible refine w_do ?_) | (with_reducible refine w_ret ?_) | (with_reducible refine w_sif ?_) | (with_reducible refine w_par ?_) | (with_reducible refine w_skip ?_) | (with_reducible refine w_break ?_) | (with_reducible refine w_cont ?_) | (with_reducible refine w_tv ?_) | (with_reducible refine w_not ?_) | (with_reducible refine w_and ?_) | (with_reducible refine w_or ?_) | (with_reducible refine w_if ?_) | (with_reducible refine w_eand ?_) | (with_reducible refine w_eor ?_) | (with_reducible refine w_chain ?_) | (with_reducible refine w_op1 ?_) | (with_reducible refine w_enot ?_) | (with_reducible refine w_op2 ?_) | (with_reducible refine w_opA ?_) | (with_reducible refine w_opAS ?_) | (with_reducible refine w_meth ?_) | (with_reducible refine w_cons ?_) | (with_reducible refine w_nil ?_) | (with_reducible refine w_tup ?_) | (with_reducible refine w_lst ?_) | (with_reducible refine w_lstC ?_) | (with_reducible refine w_slice ?_) | (with_reducible refine w_psome ?_) | (with_reducible refine w_pnone ?_) | (with_reducible refine w_aug ?_) | (with_reducible refine w_call ?_) | (with_reducible refine w_lc ?_) | (with_reducible refine w_seqi ?_) | (with_reducible refine w_range1 ?_) | (with_reducible refine w_for ?_) | refine w_var rfl ?_ | (with_reducible refine w_c ?_) | refine ⟨_, rfl, ?_⟩ | refine ⟨Nat.le_of_ble_eq_true rfl, ?_⟩ | refine ⟨rfl, ?_⟩ | refine ⟨fun _ => ?_, fun h => absurd h.symm Bool.false_ne_true⟩ | refine ⟨fun h => absurd h Bool.false_ne_true, fun _ => ?_⟩ | refine ⟨fun _ => ?_, fun h => absurd h Bool.false_ne_true⟩ | refine ⟨fun h => absurd h.symm Bool.false_ne_true, fun _ => ?_⟩))
        refine ⟨?_, rfl⟩
        have : nameS x = false := by
          unfold nameS
          rw [Bool.not_eq_true'] at h2
          rw [h2]; simp
        show SR.rt (.bl false) = SR.rt (.bl (nameS x))
        rw [this]
    · (repeat (first | (with_reducible refine w_then ?_) | (with_reducible refine w_set ?_) | (with_reducible refine w_asg ?_) | (with_reducible refine w_do ?_) | (with_reducible refine w_ret ?_) | (with_reducible refine w_sif ?_) | (with_reducible refine w_par ?_) | (with_reducible refine w_skip ?_) | (with_reducible refine w_break ?_) | (with_reducible refine w_cont ?_) | (with_reducible refine w_tv ?_) | (with_reducible refine w_not ?_) | (with_reducible refine w_and ?_) | (with_reducible refine w_or ?_) | (with_reducible refine w_if ?_) | (with_reducible refine w_eand ?_) | (with_reducible refine w_eor ?_) | (with_reducible refine w_chain ?_) | (with_reducible refine w_op1 ?_) | (with_reducible refine w_enot ?_) | (with_reducible refine w_op2 ?_) | (with_reducible refine w_opA ?_) | (with_reducible refine w_opAS ?_) | (with_reducible refine w_meth ?_) | (with_reducible refine w_cons ?_) | (with_reducible refine w_nil ?_) | (with_reducible refine w_tup ?_) | (with_reducible refine w_lst ?_) | (with_reducible refine w_lstC ?_) | (with_reducible refine w_slice ?_) | (with_reducible refine w_psome ?_) | (with_reducible refine w_pnone ?_) | (with_reducible refine w_aug ?_) | (with_reducible refine w_call ?_) | (with_reducible refine w_lc ?_) | (with_reducible refine w_seqi ?_) | (with_reducible refine w_range1 ?_) | (with_reducible refine w_for ?_) | refine w_var rfl ?_ | (with_reducible refine w_c ?_) | refine ⟨_, rfl, ?_⟩ | refine ⟨Nat.le_of_ble_eq_true rfl, ?_⟩ | refine ⟨rfl, ?_⟩ | refine ⟨fun _ => ?_, fun h => absurd h.symm Bool.false_ne_true⟩ | refine ⟨fun h => absurd h Bool.false_ne_true, fun _ => ?_⟩ | refine ⟨fun _ => ?_, fun h => absurd h Bool.false_ne_true⟩ | refine ⟨fun h => absurd h.symm Bool.false_ne_true, fun _ => ?_⟩))
      refine ⟨?_, rfl⟩
      have : nameS x = false := by unfold nameS; rw [h1]; simp
      show SR.rt (.bl false) = SR.rt (.bl (nameS x))
      rw [this]
  | loc _ => cases h
  | scr _ => cases h
  | _ => (repeat (first | (with_reducible refine w_then ?_) | (with_reducible refine w_set ?_) | (with_reducible refine w_asg ?_) | (with_reducible refine w_do ?_) | (with_reducible refine w_ret ?_) | (with_reducible refine w_sif ?_) | (with_reducible refine w_par ?_) | (with_reducible refine w_skip ?_) | (with_reducible refine w_break ?_) | (with_reducible refine w_cont ?_) | (with_reducible refine w_tv ?_) | (with_reducible refine w_not ?_) | (with_reducible refine w_and ?_) | (with_reducible refine w_or ?_) | (with_reducible refine w_if ?_) | (with_reducible refine w_eand ?_) | (with_reducible refine w_eor ?_) | (with_reducible refine w_chain ?_) | (with_reducible refine w_op1 ?_) | (with_reducible refine w_enot ?_) | (with_reducible refine w_op2 ?_) | (with_reducible refine w_opA ?_) | (with_reducible refine w_opAS ?_) | (with_reducible refine w_meth ?_) | (with_reducible refine w_cons ?_) | (with_reducible refine w_nil ?_) | (with_reducible refine w_tup ?_) | (with_reducible refine w_lst ?_) | (with_reducible refine w_lstC ?_) | (with_reducible refine w_slice ?_) | (with_reducible refine w_psome ?_) | (with_reducible refine w_pnone ?_) | (with_reducible refine w_aug ?_) | (with_reducible refine w_call ?_) | (with_reducible refine w_lc ?_) | (with_reducible refine w_seqi ?_) | (with_reducible refine w_range1 ?_) | (with_reducible refine w_for ?_) | refine w_var rfl ?_ | (with_reducible refine w_c ?_) | refine ⟨_, rfl, ?_⟩ | refine ⟨Nat.le_of_ble_eq_true rfl, ?_⟩ | refine ⟨rfl, ?_⟩ | refine ⟨fun _ => ?_, fun h => absurd h.symm Bool.false_ne_true⟩ | refine ⟨fun h => absurd h Bool.false_ne_true, fun _ => ?_⟩ | refine ⟨fun _ => ?_, fun h => absurd h Bool.false_ne_true⟩ | refine ⟨fun h => absurd h.symm Bool.false_ne_true, fun _ => ?_⟩)); first | rfl | exact ⟨rfl, rfl⟩
theorem law_is_name_spec {d : D} (h : d.ok = true) : F__law_is_name [d] [] = some (.ok (.bl (nameD d)), []) := by
  refine fn_pure rfl rfl ?_
  show WS b__law_is_name [some d, none, none, none] [] _
  unfold b__law_is_name
  refine w_then (w_set ?_)
  (repeat (first | (with_reducible refine w_tv ?_) | (with_reducible refine w_not ?_) | (with_reducible refine w_op1 ?_) | (with_reducible refine w_enot ?_) | (with_reducible refine w_op2 ?_) | (with_reducible refine w_opA ?_) | (with_reducible refine w_opAS ?_) | (with_reducible refine w_meth ?_) | (with_reducible refine w_cons ?_) | (with_reducible refine w_nil ?_) | (with_reducible refine w_tup ?_) | (with_reducible refine w_lst ?_) | (with_reducible refine w_lstC ?_) | (with_reducible refine w_slice ?_) | (with_reducible refine w_psome ?_) | (with_reducible refine w_pnone ?_) | (with_reducible refine w_seqi ?_) | (with_reducible refine w_range1 ?_) | refine w_var rfl ?_ | (with_reducible refine w_c ?_) | refine ⟨_, rfl, ?_⟩ | refine ⟨Nat.le_of_ble_eq_true rfl, ?_⟩ | refine ⟨rfl, ?_⟩ | refine ⟨fun _ => ?_, fun h => absurd h.symm Bool.false_ne_true⟩ | refine ⟨fun h => absurd h Bool.false_ne_true, fun _ => ?_⟩ | refine ⟨fun _ => ?_, fun h => absurd h Bool.false_ne_true⟩ | refine ⟨fun h => absurd h.symm Bool.false_ne_true, fun _ => ?_⟩))
  cases d with
  | str x =>
    refine w_then (w_sif (w_or ?_))
    (repeat (first | (with_reducible refine w_then ?_) | (with_reducible refine w_set ?_) | (with_reducible refine w_asg ?_) | (with_reducible refine w_do ?_) | (with_reducible refine w_ret ?_) | (with_reducible refine w_sif ?_) | (with_reducible refine w_par ?_) | (with_reducible refine w_skip ?_) | (with_reducible refine w_break ?_) | (with_reducible refine w_cont ?_) | (with_reducible refine w_tv ?_) | (with_reducible refine w_not ?_) | (with_reducible refine w_and ?_) | (with_reducible refine w_or ?_) | (with_reducible refine w_if ?_) | (with_reducible refine w_eand ?_) | (with_reducible refine w_eor ?_) | (with_reducible refine w_chain ?_) | (with_reducible refine w_op1 ?_) | (with_reducible refine w_enot ?_) | (with_reducible refine w_op2 ?_) | (with_reducible refine w_opA ?_) | (with_reducible refine w_opAS ?_) | (with_reducible refine w_meth ?_) | (with_reducible refine w_cons ?_) | (with_reducible refine w_nil ?_) | (with_reducible refine w_tup ?_) | (with_reducible refine w_lst ?_) | (with_reducible refine w_lstC ?_) | (with_reducible refine w_slice ?_) | (with_reducible refine w_psome ?_) | (with_reducible refine w_pnone ?_) | (with_reducible refine w_aug ?_) | (with_reducible refine w_call ?_) | (with_reducible refine w_lc ?_) | (with_reducible refine w_seqi ?_) | (with_reducible refine w_range1 ?_) | (with_reducible refine w_for ?_) | refine w_var rfl ?_ | (with_reducible refine w_c ?_) | refine ⟨_, rfl, ?_⟩ | refine ⟨Nat.le_of_ble_eq_true rfl, ?_⟩ | refine ⟨rfl, ?_⟩ | refine ⟨fun _ => ?_, fun h => absurd h.symm Bool.false_ne_true⟩ | refine ⟨fun h => absurd h Bool.false_ne_true, fun _ => ?_⟩ | refine ⟨fun _ => ?_, fun h => absurd h Bool.false_ne_true⟩ | refine ⟨fun h => absurd h.symm Bool.false_ne_true, fun _ => ?_⟩))
    refine ⟨fun h1 => ?_, fun h1 => ?_⟩
    · (repeat (first | (with_reducible refine w_then ?_) | (with_reducible refine w_set ?_) | (with_reducible refine w_asg ?_) | (with_reducible refine w_do ?_) | (with_reducible refine w_ret ?_) | (with_reducible refine w_sif ?_) | (with_reducible refine w_par ?_) | (with_reducible refine w_skip ?_) | (with_reducible refine w_break ?_) | (with_reducible refine w_cont ?_) | (with_reducible refine w_tv ?_) | (with_reducible refine w_not ?_) | (with_reducible refine w_and ?_) | (with_reducible refine w_or ?_) | (with_reducible refine w_if ?_) | (with_reducible refine w_eand ?_) | (with_reducible refine w_eor ?_) | (with_reducible refine w_chain ?_) | (with_reducible refine w_op1 ?_) | (with_reducible refine w_enot ?_) | (with_reducible refine w_op2 ?_) | (with_reducible refine w_opA ?_) | (with_reducible refine w_opAS ?_) | (with_reducible refine w_meth ?_) | (with_reducible refine w_cons ?_) | (with_reducible refine w_nil ?_) | (with_reducible refine w_tup ?_) | (with_reducible refine w_lst ?_) | (with_reducible refine w_lstC ?_) | (with_reducible refine w_slice ?_) | (with_reducible refine w_psome ?_) | (with_reducible refine w_pnone ?_) | (with_reducible refine w_aug ?_) | (with_reducible refine w_call ?_) | (with_reducible refine w_lc ?_) | (with_reducible refine w_seqi ?_) | (with_reducible refine w_range1 ?_) | (with_reducible refine w_for ?_) | refine w_var rfl ?_ | (with_reducible refine w_c ?_) | refine ⟨_, rfl, ?_⟩ | refine ⟨Nat.le_of_ble_eq_true rfl, ?_⟩ | refine ⟨rfl, ?_⟩ | refine ⟨fun _ => ?_, fun h => absurd h.symm Bool.false_ne_true⟩ | refine ⟨fun h => absurd h Bool.false_ne_true, fun _ => ?_⟩ | refine ⟨fun _ => ?_, fun h => absurd h Bool.false_ne_true⟩ | refine ⟨fun h => absurd h.symm Bool.false_ne_true, fun _ => ?_⟩))
      refine ⟨fun h2 => ?_, fun h2 => ?_⟩
      · (repeat (first | (with_reducible refine w_then ?_) | (with_reducible refine w_set ?_) | (with_reducible refine w_asg ?_) | (with_reducible refine w_do ?_) | (with_reducible refine w_ret ?_) | (with_reducible refine w_sif ?_) | (with_reducible refine w_par ?_) | (with_reducible refine w_skip ?_) | (with_reducible refine w_break ?_) | (with_reducible refine w_cont ?_) | (with_reducible refine w_tv ?_) | (with_reducible refine w_not ?_) | (with_reducible refine w_and ?_) | (with_reducible refine w_or ?_) | (with_reducible refine w_if ?_) | (with_reducible refine w_eand ?_) | (with_reducible refine w_eor ?_) | (with_reducible refine w_chain ?_) | (with_reducible refine w_op1 ?_) | (with_reducible refine w_enot ?_) | (with_reducible refine w_op2 ?_) | (with_reducible refine w_opA ?_) | (with_reducible refine w_opAS ?_) | (with_reducible refine w_meth ?_) | (with_reducible refine w_cons ?_) | (with_reducible refine w_nil ?_) | (with_reducible refine w_tup ?_) | (with_reducible refine w_lst ?_) | (with_reducible refine w_lstC ?_) | (with_reducible refine w_slice ?_) | (with_reducible refine w_psome ?_) | (with_reducible refine w_pnone ?_) | (with_reducible refine w_aug ?_) | (with_reducible refine w_call ?_) | (with_reducible refine w_lc ?_) | (with_reducible refine w_seqi ?_) | (with_reducible refine w_range1 ?_) | (with_reducible refine w_for ?_) | refine w_var rfl ?_ | (with_reducible refine w_c ?_) | refine ⟨_, rfl, ?_⟩ | refine ⟨Nat.le_of_ble_eq_true rfl, ?_⟩ | refine ⟨rfl, ?_⟩ | refine ⟨fun _ => ?_, fun h => absurd h.symm Bool.false_ne_true⟩ | refine ⟨fun h => absurd h Bool.false_ne_true, fun _ => ?_⟩ | refine ⟨fun _ => ?_, fun h => absurd h Bool.false_ne_true⟩ | refine ⟨fun h => absurd h.symm Bool.false_ne_true, fun _ => ?_⟩))
        refine ⟨fun h3 => ?_, fun h3 => ?_⟩
        · (repeat (first | (with_reducible refine w_then ?_) | (with_reducible refine w_set ?_) | (with_reducible refine w_asg ?_) | (with_reducible refine w_do ?_) | (with_reducible refine w_ret ?_) | (with_reducible refine w_sif ?_) | (with_reducible refine w_par ?_) | (with_reducible refine w_skip ?_) | (with_reducible refine w_break ?_) | (with_reducible refine w_cont ?_) | (with_reducible refine w_tv ?_) | (with_reducible refine w_not ?_) | (with_reducible refine w_and ?_) | (with_reducible refine w_or ?_) | (with_reducible refine w_if ?_) | (with_reducible refine w_eand ?_) | (with_reducible refine w_eor ?_) | (with_reducible refine w_chain ?_) | (with_reducible refine w_op1 ?_) | (with_reducible refine w_enot ?_) | (with_reducible refine w_op2 ?_) | (with_reducible refine w_opA ?_) | (with_reducible refine w_opAS ?_) | (with_reducible refine w_meth ?_) | (with_reducible refine w_cons ?_) | (with_reducible refine w_nil ?_) | (with_reducible refine w_tup ?_) | (with_reducible refine w_lst ?_) | (with_reducible refine w_lstC ?_) | (with_reducible refine w_slice ?_) | (with_reducible refine w_psome ?_) | (with_reducible refine w_pnone ?_) | (with_reducible refine w_aug ?_) | (with_reducible refine w_call ?_) | (with_reducible refine w_lc ?_) | (with_reducible refine w_seqi ?_) | (with_reducible refine w_range1 ?_) | (with_reducible refine w_for ?_) | refine w_var rfl ?_ | (with_reducible refine w_c ?_) | refine ⟨_, rfl, ?_⟩ | refine ⟨Nat.le_of_ble_eq_true rfl, ?_⟩ | refine ⟨rfl, ?_⟩ | refine ⟨fun _ => ?_, fun h => absurd h.symm Bool.false_ne_true⟩ | refine ⟨fun h => absurd h Bool.false_ne_true, fun _ => ?_⟩ | refine ⟨fun _ => ?_, fun h => absurd h Bool.false_ne_true⟩ | refine ⟨fun h => absurd h.symm Bool.false_ne_true, fun _ => ?_⟩))
          refine ⟨?_, rfl⟩
          have h3 : (resL.any fun y => y.eqv (.str x)) = true := h3
          have : nameS x = false := by unfold nameS; rw [h3]; simp
          show SR.rt (.bl false) = SR.rt (.bl (nameS x))
          rw [this]
        · have h3 : (resL.any fun y => y.eqv (.str x)) = false := h3
          (repeat (first | (with_reducible refine w_then ?_) | (with_reducible refine w_set ?_) | (with_reducible refine w_asg ?_) | (with_reducible refine w_do ?_) | (with_reducible refine w_ret ?_) | (with_reducible refine w_sif ?_) | (with_reducible refine w_par ?_) | (with_reducible refine w_skip ?_) | (with_reducible refine w_break ?_) | (with_reducible refine w_cont ?_) | (with_reducible refine w_tv ?_) | (with_reducible refine w_not ?_) | (with_reducible refine w_and ?_) | (with_reducible refine w_or ?_) | (with_reducible refine w_if ?_) | (with_reducible refine w_eand ?_) | (with_reducible refine w_eor ?_) | (with_reducible refine w_chain ?_) | (with_reducible refine w_op1 ?_) | (with_reducible refine w_enot ?_) | (with_reducible refine w_op2 ?_) | (with_reducible refine w_opA ?_) | (with_reducible refine w_opAS ?_) | (with_reducible refine w_meth ?_) | (with_reducible refine w_cons ?_) | (with_reducible refine w_nil ?_) | (with_reducible refine w_tup ?_) | (with_reducible refine w_lst ?_) | (with_reducible refine w_lstC ?_) | (with_reducible refine w_slice ?_) | (with_reducible refine w_psome ?_) | (with_reducible refine w_pnone ?_) | (with_reducible refine w_aug ?_) | (with_reducible refine w_call ?_) | (with_reducible refine w_lc ?_) | (with_reducible refine w_seqi ?_) | (with_reducible refine w_range1 ?_) | (with_reducible refine w_for ?_) | refine w_var rfl ?_ | (with_reducible refine w_c ?_) | refine ⟨_, rfl, ?_⟩ | refine ⟨Nat.le_of_ble_eq_true rfl, ?_⟩ | refine ⟨rfl, ?_⟩ | refine ⟨fun _ => ?_, fun h => absurd h.symm Bool.false_ne_true⟩ | refine ⟨fun h => absurd h Bool.false_ne_true, fun _ => ?_⟩ | refine ⟨fun _ => ?_, fun h => absurd h Bool.false_ne_true⟩ | refine ⟨fun h => absurd h.symm Bool.false_ne_true, fun _ => ?_⟩))
          refine ⟨_, _, compL_filter (fun c => .str ⟨#[c]⟩) (fun _ => .int 1) (fun c => !decide (c ∈ letL)) (xs := x.cps.toList) fun c _ => ⟨_, rfl, ?_, fun _ => ?_⟩, ?_⟩
          · (repeat (first | (with_reducible refine w_tv ?_) | (with_reducible refine w_not ?_) | (with_reducible refine w_op1 ?_) | (with_reducible refine w_enot ?_) | (with_reducible refine w_op2 ?_) | (with_reducible refine w_opA ?_) | (with_reducible refine w_opAS ?_) | (with_reducible refine w_meth ?_) | (with_reducible refine w_cons ?_) | (with_reducible refine w_nil ?_) | (with_reducible refine w_tup ?_) | (with_reducible refine w_lst ?_) | (with_reducible refine w_lstC ?_) | (with_reducible refine w_slice ?_) | (with_reducible refine w_psome ?_) | (with_reducible refine w_pnone ?_) | (with_reducible refine w_seqi ?_) | (with_reducible refine w_range1 ?_) | refine w_var rfl ?_ | (with_reducible refine w_c ?_) | refine ⟨_, rfl, ?_⟩ | refine ⟨Nat.le_of_ble_eq_true rfl, ?_⟩ | refine ⟨rfl, ?_⟩ | refine ⟨fun _ => ?_, fun h => absurd h.symm Bool.false_ne_true⟩ | refine ⟨fun h => absurd h Bool.false_ne_true, fun _ => ?_⟩ | refine ⟨fun _ => ?_, fun h => absurd h Bool.false_ne_true⟩ | refine ⟨fun h => absurd h.symm Bool.false_ne_true, fun _ => ?_⟩)); rfl
          · (repeat (first | (with_reducible refine w_tv ?_) | (with_reducible refine w_not ?_) | (with_reducible refine w_op1 ?_) | (with_reducible refine w_enot ?_) | (with_reducible refine w_op2 ?_) | (with_reducible refine w_opA ?_) | (with_reducible refine w_opAS ?_) | (with_reducible refine w_meth ?_) | (with_reducible refine w_cons ?_) | (with_reducible refine w_nil ?_) | (with_reducible refine w_tup ?_) | (with_reducible refine w_lst ?_) | (with_reducible refine w_lstC ?_) | (with_reducible refine w_slice ?_) | (with_reducible refine w_psome ?_) | (with_reducible refine w_pnone ?_) | (with_reducible refine w_seqi ?_) | (with_reducible refine w_range1 ?_) | refine w_var rfl ?_ | (with_reducible refine w_c ?_) | refine ⟨_, rfl, ?_⟩ | refine ⟨Nat.le_of_ble_eq_true rfl, ?_⟩ | refine ⟨rfl, ?_⟩ | refine ⟨fun _ => ?_, fun h => absurd h.symm Bool.false_ne_true⟩ | refine ⟨fun h => absurd h Bool.false_ne_true, fun _ => ?_⟩ | refine ⟨fun _ => ?_, fun h => absurd h Bool.false_ne_true⟩ | refine ⟨fun h => absurd h.symm Bool.false_ne_true, fun _ => ?_⟩)); rfl
          · (repeat (first | (with_reducible refine w_tv ?_) | (with_reducible refine w_not ?_) | (with_reducible refine w_op1 ?_) | (with_reducible refine w_enot ?_) | (with_reducible refine w_op2 ?_) | (with_reducible refine w_opA ?_) | (with_reducible refine w_opAS ?_) | (with_reducible refine w_meth ?_) | (with_reducible refine w_cons ?_) | (with_reducible refine w_nil ?_) | (with_reducible refine w_tup ?_) | (with_reducible refine w_lst ?_) | (with_reducible refine w_lstC ?_) | (with_reducible refine w_slice ?_) | (with_reducible refine w_psome ?_) | (with_reducible refine w_pnone ?_) | (with_reducible refine w_seqi ?_) | (with_reducible refine w_range1 ?_) | refine w_var rfl ?_ | (with_reducible refine w_c ?_) | refine ⟨_, rfl, ?_⟩ | refine ⟨Nat.le_of_ble_eq_true rfl, ?_⟩ | refine ⟨rfl, ?_⟩ | refine ⟨fun _ => ?_, fun h => absurd h.symm Bool.false_ne_true⟩ | refine ⟨fun h => absurd h Bool.false_ne_true, fun _ => ?_⟩ | refine ⟨fun _ => ?_, fun h => absurd h Bool.false_ne_true⟩ | refine ⟨fun h => absurd h.symm Bool.false_ne_true, fun _ => ?_⟩))
            refine ⟨_, ones_nil _, ?_, rfl⟩
            have : nameS x = (x.cps.toList.filter fun c => !decide (c ∈ letL)).isEmpty := by
              rw [filter_empty]
              unfold nameS
              rw [h1, h3]
              rw [Bool.not_eq_false'] at h2
              rw [h2]
              simp
            show SR.rt _ = SR.rt (.bl (nameS x))
            rw [this]
      · (repeat (first | (with_reducible refine w_then ?_) | (with_reducible refine w_set ?_) | (with_reducible refine w_asg ?_) | (with_reducible refine w_do ?_) | (with_reducible refine w_ret ?_) | (with_reducible refine w_sif ?_) | (with_reducible refine w_par ?_) | (with_reducible refine w_skip ?_) | (with_reducible refine w_break ?_) | (with_reducible refine w_cont ?_) | (with_reducible refine w_tv ?_) | (with_reducible refine w_not ?_) | (with_reducible refine w_and ?_) | (with_reducible refine w_or ?_) | (with_reducible refine w_if ?_) | (with_reducible refine w_eand ?_) | (with_reducible refine w_eor ?_) | (with_reducible refine w_chain ?_) | (with_reducible refine w_op1 ?_) | (with_reducible refine w_enot ?_) | (with_reducible refine w_op2 ?_) | (with_reducible refine w_opA ?_) | (with_reducible refine w_opAS ?_) | (with_reducible refine w_meth ?_) | (with_reducible refine w_cons ?_) | (with_reducible refine w_nil ?_) | (with_reducible refine w_tup ?_) | (with_reducible refine w_lst ?_) | (with_reducible refine w_lstC ?_) | (with_reducible refine w_slice ?_) | (with_reducible refine w_psome ?_) | (with_reducible refine w_pnone ?_) | (with_reducible refine w_aug ?_) | (with_reducible refine w_call ?_) | (with_reducible refine w_lc ?_) | (with_reducible refine w_seqi ?_) | (with_reducible refine w_range1 ?_) | (with_reducible refine w_for ?_) | refine w_var rfl ?_ | (with_reducible refine w_c ?_) | refine ⟨_, rfl, ?_⟩ | refine ⟨Nat.le_of_ble_eq_true rfl, ?_⟩ | refine ⟨rfl, ?_⟩ | refine ⟨fun _ => ?_, fun h => absurd h.symm Bool.false_ne_true⟩ | refine ⟨fun h => absurd h Bool.false_ne_true, fun _ => ?_⟩ | refine ⟨fun _ => ?_, fun h => absurd h Bool.false_ne_true⟩ | refine ⟨fun h => absurd h.symm Bool.false_ne_true, fun _ => ?_⟩))
        refine ⟨?_, rfl⟩
        have : nameS x = false := by
          unfold nameS
          rw [Bool.not_eq_true'] at h2
          rw [h2]; simp
        show SR.rt (.bl false) = SR.rt (.bl (nameS x))
        rw [this]
    · (repeat (first | (with_reducible refine w_then ?_) | (with_reducible refine w_set ?_) | (with_reducible refine w_asg ?_) | (with_reducible refine w_do ?_) | (with_reducible refine w_ret ?_) | (with_reducible refine w_sif ?_) | (with_reducible refine w_par ?_) | (with_reducible refine w_skip ?_) | (with_reducible refine w_break ?_) | (with_reducible refine w_cont ?_) | (with_reducible refine w_tv ?_) | (with_reducible refine w_not ?_) | (with_reducible refine w_and ?_) | (with_reducible refine w_or ?_) | (with_reducible refine w_if ?_) | (with_reducible refine w_eand ?_) | (with_reducible refine w_eor ?_) | (with_reducible refine w_chain ?_) | (with_reducible refine w_op1 ?_) | (with_reducible refine w_enot ?_) | (with_reducible refine w_op2 ?_) | (with_reducible refine w_opA ?_) | (with_reducible refine w_opAS ?_) | (with_reducible refine w_meth ?_) | (with_reducible refine w_cons ?_) | (with_reducible refine w_nil ?_) | (with_reducible refine w_tup ?_) | (with_reducible refine w_lst ?_) | (with_reducible refine w_lstC ?_) | (with_reducible refine w_slice ?_) | (with_reducible refine w_psome ?_) | (with_reducible refine w_pnone ?_) | (with_reducible refine w_aug ?_) | (with_reducible refine w_call ?_) | (with_reducible refine w_lc ?_) | (with_reducible refine w_seqi ?_) | (with_reducible refine w_range1 ?_) | (with_reducible refine w_for ?_) | refine w_var rfl ?_ | (with_reducible refine w_c ?_) | refine ⟨_, rfl, ?_⟩ | refine ⟨Nat.le_of_ble_eq_true rfl, ?_⟩ | refine ⟨rfl, ?_⟩ | refine ⟨fun _ => ?_, fun h => absurd h.symm Bool.false_ne_true⟩ | refine ⟨fun h => absurd h Bool.false_ne_true, fun _ => ?_⟩ | refine ⟨fun _ => ?_, fun h => absurd h Bool.false_ne_true⟩ | refine ⟨fun h => absurd h.symm Bool.false_ne_true, fun _ => ?_⟩))
      refine ⟨?_, rfl⟩
      have : nameS x = false := by unfold nameS; rw [h1]; simp
      show SR.rt (.bl false) = SR.rt (.bl (nameS x))
      rw [this]
  | loc _ => cases h
  | scr _ => cases h
  | _ => (repeat (first | (with_reducible refine w_then ?_) | (with_reducible refine w_set ?_) | (with_reducible refine w_asg ?_) | (with_reducible refine w_do ?_) | (with_reducible refine w_ret ?_) | (with_reducible refine w_sif ?_) | (with_reducible refine w_par ?_) | (with_reducible refine w_skip ?_) | (with_reducible refine w_break ?_) | (with_reducible refine w_cont ?_) | (with_reducible refine w_tv ?_) | (with_reducible refine w_not ?_) | (with_reducible refine w_and ?_) | (with_reducible refine w_or ?_) | (with_reducible refine w_if ?_) | (with_reducible refine w_eand ?_) | (with_reducible refine w_eor ?_) | (with_reducible refine w_chain ?_) | (with_reducible refine w_op1 ?_) | (with_reducible refine w_enot ?_) | (with_reducible refine w_op2 ?_) | (with_reducible refine w_opA ?_) | (with_reducible refine w_opAS ?_) | (with_reducible refine w_meth ?_) | (with_reducible refine w_cons ?_) | (with_reducible refine w_nil ?_) | (with_reducible refine w_tup ?_) | (with_reducible refine w_lst ?_) | (with_reducible refine w_lstC ?_) | (with_reducible refine w_slice ?_) | (with_reducible refine w_psome ?_) | (with_reducible refine w_pnone ?_) | (with_reducible refine w_aug ?_) | (with_reducible refine w_call ?_) | (with_reducible refine w_lc ?_) | (with_reducible refine w_seqi ?_) | (with_reducible refine w_range1 ?_) | (with_reducible refine w_for ?_) | refine w_var rfl ?_ | (with_reducible refine w_c ?_) | refine ⟨_, rfl, ?_⟩ | refine ⟨Nat.le_of_ble_eq_true rfl, ?_⟩ | refine ⟨rfl, ?_⟩ | refine ⟨fun _ => ?_, fun h => absurd h.symm Bool.false_ne_true⟩ | refine ⟨fun h => absurd h Bool.false_ne_true, fun _ => ?_⟩ | refine ⟨fun _ => ?_, fun h => absurd h Bool.false_ne_true⟩ | refine ⟨fun h => absurd h.symm Bool.false_ne_true, fun _ => ?_⟩)); first | rfl | exact ⟨rfl, rfl⟩
/-! ### things unlike -/
def unlikeD (xs : List D) : Bool := (List.range xs.length).all fun k => !((xs.take k).any fun y => y.eqv (xs.getD k .non))
theorem rangeL_len (n : Nat) : rangeL 0 (n : Int) = (List.range n).map fun (k : Nat) => D.int (0 + (k : Int)) := by
  unfold rangeL
  rw [Int.sub_zero, Int.toNat_natCast]
theorem law_unlike_spec {xs : List D} (h : (D.tup xs).ok = true) (hl : xs.length ≤ 1000) : F__law_are_unlike [.tup xs] [] = some (.ok (.bl (unlikeD xs)), []) := by
  have h59 : xs.all (okd 59) = true := h
  have hok : ∀ x ∈ xs, D.ok x = true := fun x hx => okd_up (List.all_eq_true.mp h59 x hx)
  refine fn_pure rfl rfl ?_
  show WS b__law_are_unlike [some (.tup xs), none, none] [] _
  unfold b__law_are_unlike
  refine w_ret (w_op2 (w_lc (w_range1 ?_)))
  (repeat (first | (with_reducible refine w_tv ?_) | (with_reducible refine w_not ?_) | (with_reducible refine w_op1 ?_) | (with_reducible refine w_enot ?_) | (with_reducible refine w_op2 ?_) | (with_reducible refine w_opA ?_) | (with_reducible refine w_opAS ?_) | (with_reducible refine w_meth ?_) | (with_reducible refine w_cons ?_) | (with_reducible refine w_nil ?_) | (with_reducible refine w_tup ?_) | (with_reducible refine w_lst ?_) | (with_reducible refine w_lstC ?_) | (with_reducible refine w_slice ?_) | (with_reducible refine w_psome ?_) | (with_reducible refine w_pnone ?_) | (with_reducible refine w_seqi ?_) | (with_reducible refine w_range1 ?_) | refine w_var rfl ?_ | (with_reducible refine w_c ?_) | refine ⟨_, rfl, ?_⟩ | refine ⟨Nat.le_of_ble_eq_true rfl, ?_⟩ | refine ⟨rfl, ?_⟩ | refine ⟨fun _ => ?_, fun h => absurd h.symm Bool.false_ne_true⟩ | refine ⟨fun h => absurd h Bool.false_ne_true, fun _ => ?_⟩ | refine ⟨fun _ => ?_, fun h => absurd h Bool.false_ne_true⟩ | refine ⟨fun h => absurd h.symm Bool.false_ne_true, fun _ => ?_⟩))
  refine ⟨⟨by rw [PySem.sizeLine_eq]; omega, by omega⟩, ?_⟩
  rw [rangeL_len]
  refine ⟨_, _, compL_filter (fun (k : Nat) => .int (0 + (k : Int))) (fun _ => .int 1) (fun k => (xs.take k).any fun y => y.eqv (xs.getD k .non)) (xs := List.range xs.length) fun k hk => ⟨_, rfl, ?_, fun _ => ?_⟩, ?_⟩
  · have hk : k < xs.length := by simpa using hk
    refine w_tv (w_op2 (w_op2 ?_))
    refine w_var rfl (w_var rfl ?_)
    have hx : vIx [] (.tup xs) (.int (0 + (k : Int))) = some xs[k] := by
      show (ix? _ _).bind _ = _
      unfold ix?
      rw [Int.zero_add, if_pos (by omega), if_pos (by omega), Option.bind_some, Int.toNat_natCast]
      exact List.getElem?_eq_getElem hk
    refine ⟨_, hx, w_slice (w_var rfl (w_pnone (w_psome (w_var rfl ⟨_, rfl, _, rfl, ?_⟩))))⟩
    have hc : cut xs none (some (0 + (k : Int))) = xs.take k := by
      unfold cut cutAt
      dsimp only
      rw [if_neg (by omega), List.drop_zero, Nat.sub_zero, Int.zero_add, Int.toNat_natCast, Nat.min_eq_left (Nat.le_of_lt hk)]
    have hin : vIn [] xs[k] (.tup (cut xs none (some (0 + (k : Int))))) = some (.bl ((xs.take k).any fun y => y.eqv xs[k])) := by
      rw [hc]
      show (mem? _ _).map D.bl = _
      unfold mem?
      rw [hok _ (List.getElem_mem hk), List.all_eq_true.mpr fun x hx => hok x (List.mem_of_mem_take hx)]
      rfl
    refine ⟨_, hin, _, rfl, ?_, rfl⟩
    rw [List.getD_eq_getElem?_getD, List.getElem?_eq_getElem hk]
    rfl
  · (repeat (first | (with_reducible refine w_tv ?_) | (with_reducible refine w_not ?_) | (with_reducible refine w_op1 ?_) | (with_reducible refine w_enot ?_) | (with_reducible refine w_op2 ?_) | (with_reducible refine w_opA ?_) | (with_reducible refine w_opAS ?_) | (with_reducible refine w_meth ?_) | (with_reducible refine w_cons ?_) | (with_reducible refine w_nil ?_) | (with_reducible refine w_tup ?_) | (with_reducible refine w_lst ?_) | (with_reducible refine w_lstC ?_) | (with_reducible refine w_slice ?_) | (with_reducible refine w_psome ?_) | (with_reducible refine w_pnone ?_) | (with_reducible refine w_seqi ?_) | (with_reducible refine w_range1 ?_) | refine w_var rfl ?_ | (with_reducible refine w_c ?_) | refine ⟨_, rfl, ?_⟩ | refine ⟨Nat.le_of_ble_eq_true rfl, ?_⟩ | refine ⟨rfl, ?_⟩ | refine ⟨fun _ => ?_, fun h => absurd h.symm Bool.false_ne_true⟩ | refine ⟨fun h => absurd h Bool.false_ne_true, fun _ => ?_⟩ | refine ⟨fun _ => ?_, fun h => absurd h Bool.false_ne_true⟩ | refine ⟨fun h => absurd h.symm Bool.false_ne_true, fun _ => ?_⟩)); rfl
  · (repeat (first | (with_reducible refine w_tv ?_) | (with_reducible refine w_not ?_) | (with_reducible refine w_op1 ?_) | (with_reducible refine w_enot ?_) | (with_reducible refine w_op2 ?_) | (with_reducible refine w_opA ?_) | (with_reducible refine w_opAS ?_) | (with_reducible refine w_meth ?_) | (with_reducible refine w_cons ?_) | (with_reducible refine w_nil ?_) | (with_reducible refine w_tup ?_) | (with_reducible refine w_lst ?_) | (with_reducible refine w_lstC ?_) | (with_reducible refine w_slice ?_) | (with_reducible refine w_psome ?_) | (with_reducible refine w_pnone ?_) | (with_reducible refine w_seqi ?_) | (with_reducible refine w_range1 ?_) | refine w_var rfl ?_ | (with_reducible refine w_c ?_) | refine ⟨_, rfl, ?_⟩ | refine ⟨Nat.le_of_ble_eq_true rfl, ?_⟩ | refine ⟨rfl, ?_⟩ | refine ⟨fun _ => ?_, fun h => absurd h.symm Bool.false_ne_true⟩ | refine ⟨fun h => absurd h Bool.false_ne_true, fun _ => ?_⟩ | refine ⟨fun _ => ?_, fun h => absurd h Bool.false_ne_true⟩ | refine ⟨fun h => absurd h.symm Bool.false_ne_true, fun _ => ?_⟩))
    refine ⟨_, ones_nil _, ?_, rfl⟩
    rw [filter_empty]
    rfl
theorem unlike_nodup {α : Type} [DecidableEq α] (i : α → D) (hi : ∀ a b, (i a).eqv (i b) = decide (a = b)) (ns : List α) : unlikeD (ns.map i) = decide ns.Nodup := by
  have key : unlikeD (ns.map i) = true ↔ ns.Nodup := by
    unfold unlikeD
    rw [List.all_eq_true]
    have e : ∀ k, k < ns.length → ((!((ns.map i).take k).any fun y => y.eqv ((ns.map i).getD k .non)) = true ↔ ∀ a ∈ ns.take k, some a ≠ ns[k]?) := fun k hk => by
      rw [Bool.not_eq_true', List.any_eq_false, ← List.map_take]
      have hg : (ns.map i).getD k .non = i ns[k] := by rw [List.getD_eq_getElem?_getD, List.getElem?_map, List.getElem?_eq_getElem hk]; rfl
      rw [hg, List.getElem?_eq_getElem hk]
      constructor
      · intro h a ha e
        have := h (i a) (List.mem_map_of_mem ha)
        rw [hi] at this
        exact this (decide_eq_true (Option.some.inj e))
      · intro h y hy he
        obtain ⟨a, ha, rfl⟩ := List.mem_map.mp hy
        rw [hi] at he
        exact h a ha (congrArg some (of_decide_eq_true he))
    rw [List.length_map]
    constructor
    · intro h
      refine List.pairwise_iff_getElem.mpr fun a b ha hb hab e2 => ?_
      have := (e b hb).mp (h b (by simpa using hb)) ns[a] (List.mem_take_iff_getElem.mpr ⟨a, by omega, rfl⟩)
      rw [List.getElem?_eq_getElem hb] at this
      exact this (congrArg some e2)
    · intro h k hk
      have hk : k < ns.length := by simpa using hk
      refine (e k hk).mpr fun a ha e2 => ?_
      obtain ⟨j, hj, rfl⟩ := List.mem_take_iff_getElem.mp ha
      rw [List.getElem?_eq_getElem hk] at e2
      exact List.pairwise_iff_getElem.mp h j k (by omega) hk (by omega) (Option.some.inj e2)
  by_cases hn : ns.Nodup
  · rw [decide_eq_true hn]; exact key.mpr hn
  · rw [decide_eq_false hn]
    exact Bool.eq_false_iff.mpr fun h => hn (key.mp h)
/-! ### names of a tuple -/
def namesD (d : D) (lo hi : Int) : Bool := match d with
  | .tup xs => (decide (lo ≤ (xs.length : Int)) && decide ((xs.length : Int) ≤ hi)) && (xs.all nameD && unlikeD xs)
  | _ => false
theorem names_strs : ∀ {xs : List D}, xs.all nameD = true → ∃ ns : List Str, xs = ns.map D.str
  | [], _ => ⟨[], rfl⟩
  | x :: xs, h => by
    rw [List.all_cons, Bool.and_eq_true] at h
    obtain ⟨ns, e⟩ := names_strs h.2
    cases x with
    | str s => exact ⟨s :: ns, by rw [e]; rfl⟩
    | _ => cases h.1
theorem str_eqv (a b : Str) : (D.str a).eqv (.str b) = decide (a = b) := by
  show (a == b) = _
  by_cases h : a = b <;> simp [h]
theorem str_keq (a b : Str) : keyEq (.str a) (.str b) = decide (a = b) := by
  show (a == b) = _
  by_cases h : a = b <;> simp [h]
theorem int_eqv (a b : Int) : (D.int a).eqv (.int b) = decide (a = b) := by
  show (a == b) = _
  by_cases h : a = b <;> simp [h]
theorem int_keq (a b : Int) : keyEq (.int a) (.int b) = decide (a = b) := by
  show (a == b) = _
  by_cases h : a = b <;> simp [h]
theorem are_names_spec {d : D} (h : d.ok = true) {lo hi : Int} : F_are_names [d, .int lo, .int hi] [] = some (.ok (.bl (namesD d lo hi)), []) := by
  refine fn_own rfl rfl ?_
  show WS b_are_names [some d, some (.int lo), some (.int hi), none, none] [] _
  unfold b_are_names
  cases d with
  | tup xs =>
    have h59 : xs.all (okd 59) = true := h
    have hok : ∀ x ∈ xs, D.ok x = true := fun x hx => okd_up (List.all_eq_true.mp h59 x hx)
    have out : namesD (.tup xs) lo hi = ((decide (lo ≤ (xs.length : Int)) && decide ((xs.length : Int) ≤ hi)) && (xs.all nameD && unlikeD xs)) := rfl
    refine w_then (w_sif (w_or ?_))
    (repeat (first | (with_reducible refine w_then ?_) | (with_reducible refine w_set ?_) | (with_reducible refine w_asg ?_) | (with_reducible refine w_do ?_) | (with_reducible refine w_ret ?_) | (with_reducible refine w_sif ?_) | (with_reducible refine w_par ?_) | (with_reducible refine w_skip ?_) | (with_reducible refine w_break ?_) | (with_reducible refine w_cont ?_) | (with_reducible refine w_tv ?_) | (with_reducible refine w_not ?_) | (with_reducible refine w_and ?_) | (with_reducible refine w_or ?_) | (with_reducible refine w_if ?_) | (with_reducible refine w_eand ?_) | (with_reducible refine w_eor ?_) | (with_reducible refine w_chain ?_) | (with_reducible refine w_op1 ?_) | (with_reducible refine w_enot ?_) | (with_reducible refine w_op2 ?_) | (with_reducible refine w_opA ?_) | (with_reducible refine w_opAS ?_) | (with_reducible refine w_meth ?_) | (with_reducible refine w_cons ?_) | (with_reducible refine w_nil ?_) | (with_reducible refine w_tup ?_) | (with_reducible refine w_lst ?_) | (with_reducible refine w_lstC ?_) | (with_reducible refine w_slice ?_) | (with_reducible refine w_psome ?_) | (with_reducible refine w_pnone ?_) | (with_reducible refine w_aug ?_) | (with_reducible refine w_call ?_) | (with_reducible refine w_lc ?_) | (with_reducible refine w_seqi ?_) | (with_reducible refine w_range1 ?_) | (with_reducible refine w_for ?_) | refine w_var rfl ?_ | (with_reducible refine w_c ?_) | refine ⟨_, rfl, ?_⟩ | refine ⟨Nat.le_of_ble_eq_true rfl, ?_⟩ | refine ⟨rfl, ?_⟩ | refine ⟨fun _ => ?_, fun h => absurd h.symm Bool.false_ne_true⟩ | refine ⟨fun h => absurd h Bool.false_ne_true, fun _ => ?_⟩ | refine ⟨fun _ => ?_, fun h => absurd h Bool.false_ne_true⟩ | refine ⟨fun h => absurd h.symm Bool.false_ne_true, fun _ => ?_⟩))
    refine ⟨fun h1 => ?_, fun h1 => ?_⟩
    · (repeat (first | (with_reducible refine w_then ?_) | (with_reducible refine w_set ?_) | (with_reducible refine w_asg ?_) | (with_reducible refine w_do ?_) | (with_reducible refine w_ret ?_) | (with_reducible refine w_sif ?_) | (with_reducible refine w_par ?_) | (with_reducible refine w_skip ?_) | (with_reducible refine w_break ?_) | (with_reducible refine w_cont ?_) | (with_reducible refine w_tv ?_) | (with_reducible refine w_not ?_) | (with_reducible refine w_and ?_) | (with_reducible refine w_or ?_) | (with_reducible refine w_if ?_) | (with_reducible refine w_eand ?_) | (with_reducible refine w_eor ?_) | (with_reducible refine w_chain ?_) | (with_reducible refine w_op1 ?_) | (with_reducible refine w_enot ?_) | (with_reducible refine w_op2 ?_) | (with_reducible refine w_opA ?_) | (with_reducible refine w_opAS ?_) | (with_reducible refine w_meth ?_) | (with_reducible refine w_cons ?_) | (with_reducible refine w_nil ?_) | (with_reducible refine w_tup ?_) | (with_reducible refine w_lst ?_) | (with_reducible refine w_lstC ?_) | (with_reducible refine w_slice ?_) | (with_reducible refine w_psome ?_) | (with_reducible refine w_pnone ?_) | (with_reducible refine w_aug ?_) | (with_reducible refine w_call ?_) | (with_reducible refine w_lc ?_) | (with_reducible refine w_seqi ?_) | (with_reducible refine w_range1 ?_) | (with_reducible refine w_for ?_) | refine w_var rfl ?_ | (with_reducible refine w_c ?_) | refine ⟨_, rfl, ?_⟩ | refine ⟨Nat.le_of_ble_eq_true rfl, ?_⟩ | refine ⟨rfl, ?_⟩ | refine ⟨fun _ => ?_, fun h => absurd h.symm Bool.false_ne_true⟩ | refine ⟨fun h => absurd h Bool.false_ne_true, fun _ => ?_⟩ | refine ⟨fun _ => ?_, fun h => absurd h Bool.false_ne_true⟩ | refine ⟨fun h => absurd h.symm Bool.false_ne_true, fun _ => ?_⟩))
      refine ⟨fun h2 => ?_, fun h2 => ?_⟩
      · rw [Bool.not_eq_false'] at h2
        (repeat (first | (with_reducible refine w_then ?_) | (with_reducible refine w_set ?_) | (with_reducible refine w_asg ?_) | (with_reducible refine w_do ?_) | (with_reducible refine w_ret ?_) | (with_reducible refine w_sif ?_) | (with_reducible refine w_par ?_) | (with_reducible refine w_skip ?_) | (with_reducible refine w_break ?_) | (with_reducible refine w_cont ?_) | (with_reducible refine w_tv ?_) | (with_reducible refine w_not ?_) | (with_reducible refine w_and ?_) | (with_reducible refine w_or ?_) | (with_reducible refine w_if ?_) | (with_reducible refine w_eand ?_) | (with_reducible refine w_eor ?_) | (with_reducible refine w_chain ?_) | (with_reducible refine w_op1 ?_) | (with_reducible refine w_enot ?_) | (with_reducible refine w_op2 ?_) | (with_reducible refine w_opA ?_) | (with_reducible refine w_opAS ?_) | (with_reducible refine w_meth ?_) | (with_reducible refine w_cons ?_) | (with_reducible refine w_nil ?_) | (with_reducible refine w_tup ?_) | (with_reducible refine w_lst ?_) | (with_reducible refine w_lstC ?_) | (with_reducible refine w_slice ?_) | (with_reducible refine w_psome ?_) | (with_reducible refine w_pnone ?_) | (with_reducible refine w_aug ?_) | (with_reducible refine w_call ?_) | (with_reducible refine w_lc ?_) | (with_reducible refine w_seqi ?_) | (with_reducible refine w_range1 ?_) | (with_reducible refine w_for ?_) | refine w_var rfl ?_ | (with_reducible refine w_c ?_) | refine ⟨_, rfl, ?_⟩ | refine ⟨Nat.le_of_ble_eq_true rfl, ?_⟩ | refine ⟨rfl, ?_⟩ | refine ⟨fun _ => ?_, fun h => absurd h.symm Bool.false_ne_true⟩ | refine ⟨fun h => absurd h Bool.false_ne_true, fun _ => ?_⟩ | refine ⟨fun _ => ?_, fun h => absurd h Bool.false_ne_true⟩ | refine ⟨fun h => absurd h.symm Bool.false_ne_true, fun _ => ?_⟩))
        refine ⟨_, _, compL_mapD (fun x => .bl (nameD x)) fun x hx => ⟨_, rfl, ?_⟩, ?_⟩
        · refine w_call (w_cons (w_var rfl (w_nil ⟨_, _, call_0 (by simpa using hok x hx) (is_name_spec (hok x hx)) rfl, rfl, rfl⟩)))
        have e := gAll_map (st := []) (xs.map nameD)
        rw [List.map_map] at e
        refine w_nil ⟨_, e, _, rfl, ?_⟩
        have e2 : (xs.map nameD).all id = xs.all nameD := by rw [List.all_map]; rfl
        rw [e2]
        refine ⟨fun h3 => ?_, fun h3 => ?_⟩
        · rw [Bool.not_eq_true'] at h3
          (repeat (first | (with_reducible refine w_then ?_) | (with_reducible refine w_set ?_) | (with_reducible refine w_asg ?_) | (with_reducible refine w_do ?_) | (with_reducible refine w_ret ?_) | (with_reducible refine w_sif ?_) | (with_reducible refine w_par ?_) | (with_reducible refine w_skip ?_) | (with_reducible refine w_break ?_) | (with_reducible refine w_cont ?_) | (with_reducible refine w_tv ?_) | (with_reducible refine w_not ?_) | (with_reducible refine w_and ?_) | (with_reducible refine w_or ?_) | (with_reducible refine w_if ?_) | (with_reducible refine w_eand ?_) | (with_reducible refine w_eor ?_) | (with_reducible refine w_chain ?_) | (with_reducible refine w_op1 ?_) | (with_reducible refine w_enot ?_) | (with_reducible refine w_op2 ?_) | (with_reducible refine w_opA ?_) | (with_reducible refine w_opAS ?_) | (with_reducible refine w_meth ?_) | (with_reducible refine w_cons ?_) | (with_reducible refine w_nil ?_) | (with_reducible refine w_tup ?_) | (with_reducible refine w_lst ?_) | (with_reducible refine w_lstC ?_) | (with_reducible refine w_slice ?_) | (with_reducible refine w_psome ?_) | (with_reducible refine w_pnone ?_) | (with_reducible refine w_aug ?_) | (with_reducible refine w_call ?_) | (with_reducible refine w_lc ?_) | (with_reducible refine w_seqi ?_) | (with_reducible refine w_range1 ?_) | (with_reducible refine w_for ?_) | refine w_var rfl ?_ | (with_reducible refine w_c ?_) | refine ⟨_, rfl, ?_⟩ | refine ⟨Nat.le_of_ble_eq_true rfl, ?_⟩ | refine ⟨rfl, ?_⟩ | refine ⟨fun _ => ?_, fun h => absurd h.symm Bool.false_ne_true⟩ | refine ⟨fun h => absurd h Bool.false_ne_true, fun _ => ?_⟩ | refine ⟨fun _ => ?_, fun h => absurd h Bool.false_ne_true⟩ | refine ⟨fun h => absurd h.symm Bool.false_ne_true, fun _ => ?_⟩))
          rw [out, h3, Bool.false_and, Bool.and_false]
        · rw [Bool.not_eq_false'] at h3
          obtain ⟨ns, hns⟩ := names_strs h3
          refine w_skip (w_ret (w_op2 (w_opA (w_cons (w_dc (w_seqi (w_var rfl ⟨xs, rfl, ?_⟩)))))))
          refine ⟨_, _, compD_keys (.bl true) (fun x hx => ⟨_, rfl, ?_, w_var rfl ⟨rfl, rfl⟩, w_c ⟨rfl, rfl⟩⟩), ?_⟩
          · rw [hns] at hx
            obtain ⟨s, _, rfl⟩ := List.mem_map.mp hx
            rfl
          refine w_nil ⟨_, rfl, w_opA (w_cons (w_var rfl (w_nil ⟨_, rfl, _, rfl, ?_⟩)))⟩
          have hk : (xs.foldl (fun acc x => putKv acc x (.bl true)) []).length = (once ns).length := by
            have := congrArg List.length (dict_keys (α := Str) D.str str_keq (.bl true) ns)
            rw [List.length_map, List.length_map] at this
            rw [hns]
            exact this
          have hu : unlikeD xs = decide ns.Nodup := by rw [hns]; exact unlike_nodup (α := Str) D.str str_eqv ns
          show SR.rt (.bl ((((xs.foldl (fun acc x => putKv acc x (.bl true)) []).length : Nat) : Int) == ((xs.length : Nat) : Int))) = _
          rw [out, h1, h2, h3, hu, hk, hns, List.length_map]
          simp only [Bool.and_true, Bool.true_and, SR.rt.injEq, D.bl.injEq]
          by_cases hn : ns.Nodup
          · rw [decide_eq_true hn, (once_nodup ns).mpr hn]; simp
          · rw [decide_eq_false hn]
            have : (once ns).length ≠ ns.length := fun z => hn ((once_nodup ns).mp z)
            simp
            omega
      · rw [Bool.not_eq_true'] at h2
        (repeat (first | (with_reducible refine w_then ?_) | (with_reducible refine w_set ?_) | (with_reducible refine w_asg ?_) | (with_reducible refine w_do ?_) | (with_reducible refine w_ret ?_) | (with_reducible refine w_sif ?_) | (with_reducible refine w_par ?_) | (with_reducible refine w_skip ?_) | (with_reducible refine w_break ?_) | (with_reducible refine w_cont ?_) | (with_reducible refine w_tv ?_) | (with_reducible refine w_not ?_) | (with_reducible refine w_and ?_) | (with_reducible refine w_or ?_) | (with_reducible refine w_if ?_) | (with_reducible refine w_eand ?_) | (with_reducible refine w_eor ?_) | (with_reducible refine w_chain ?_) | (with_reducible refine w_op1 ?_) | (with_reducible refine w_enot ?_) | (with_reducible refine w_op2 ?_) | (with_reducible refine w_opA ?_) | (with_reducible refine w_opAS ?_) | (with_reducible refine w_meth ?_) | (with_reducible refine w_cons ?_) | (with_reducible refine w_nil ?_) | (with_reducible refine w_tup ?_) | (with_reducible refine w_lst ?_) | (with_reducible refine w_lstC ?_) | (with_reducible refine w_slice ?_) | (with_reducible refine w_psome ?_) | (with_reducible refine w_pnone ?_) | (with_reducible refine w_aug ?_) | (with_reducible refine w_call ?_) | (with_reducible refine w_lc ?_) | (with_reducible refine w_seqi ?_) | (with_reducible refine w_range1 ?_) | (with_reducible refine w_for ?_) | refine w_var rfl ?_ | (with_reducible refine w_c ?_) | refine ⟨_, rfl, ?_⟩ | refine ⟨Nat.le_of_ble_eq_true rfl, ?_⟩ | refine ⟨rfl, ?_⟩ | refine ⟨fun _ => ?_, fun h => absurd h.symm Bool.false_ne_true⟩ | refine ⟨fun h => absurd h Bool.false_ne_true, fun _ => ?_⟩ | refine ⟨fun _ => ?_, fun h => absurd h Bool.false_ne_true⟩ | refine ⟨fun h => absurd h.symm Bool.false_ne_true, fun _ => ?_⟩))
        rw [out, h2, Bool.and_false, Bool.false_and]
    · (repeat (first | (with_reducible refine w_then ?_) | (with_reducible refine w_set ?_) | (with_reducible refine w_asg ?_) | (with_reducible refine w_do ?_) | (with_reducible refine w_ret ?_) | (with_reducible refine w_sif ?_) | (with_reducible refine w_par ?_) | (with_reducible refine w_skip ?_) | (with_reducible refine w_break ?_) | (with_reducible refine w_cont ?_) | (with_reducible refine w_tv ?_) | (with_reducible refine w_not ?_) | (with_reducible refine w_and ?_) | (with_reducible refine w_or ?_) | (with_reducible refine w_if ?_) | (with_reducible refine w_eand ?_) | (with_reducible refine w_eor ?_) | (with_reducible refine w_chain ?_) | (with_reducible refine w_op1 ?_) | (with_reducible refine w_enot ?_) | (with_reducible refine w_op2 ?_) | (with_reducible refine w_opA ?_) | (with_reducible refine w_opAS ?_) | (with_reducible refine w_meth ?_) | (with_reducible refine w_cons ?_) | (with_reducible refine w_nil ?_) | (with_reducible refine w_tup ?_) | (with_reducible refine w_lst ?_) | (with_reducible refine w_lstC ?_) | (with_reducible refine w_slice ?_) | (with_reducible refine w_psome ?_) | (with_reducible refine w_pnone ?_) | (with_reducible refine w_aug ?_) | (with_reducible refine w_call ?_) | (with_reducible refine w_lc ?_) | (with_reducible refine w_seqi ?_) | (with_reducible refine w_range1 ?_) | (with_reducible refine w_for ?_) | refine w_var rfl ?_ | (with_reducible refine w_c ?_) | refine ⟨_, rfl, ?_⟩ | refine ⟨Nat.le_of_ble_eq_true rfl, ?_⟩ | refine ⟨rfl, ?_⟩ | refine ⟨fun _ => ?_, fun h => absurd h.symm Bool.false_ne_true⟩ | refine ⟨fun h => absurd h Bool.false_ne_true, fun _ => ?_⟩ | refine ⟨fun _ => ?_, fun h => absurd h Bool.false_ne_true⟩ | refine ⟨fun h => absurd h.symm Bool.false_ne_true, fun _ => ?_⟩))
      rw [out, h1, Bool.false_and, Bool.false_and]
  | loc _ => cases h
  | scr _ => cases h
  | _ => (repeat (first | (with_reducible refine w_then ?_) | (with_reducible refine w_set ?_) | (with_reducible refine w_asg ?_) | (with_reducible refine w_do ?_) | (with_reducible refine w_ret ?_) | (with_reducible refine w_sif ?_) | (with_reducible refine w_par ?_) | (with_reducible refine w_skip ?_) | (with_reducible refine w_break ?_) | (with_reducible refine w_cont ?_) | (with_reducible refine w_tv ?_) | (with_reducible refine w_not ?_) | (with_reducible refine w_and ?_) | (with_reducible refine w_or ?_) | (with_reducible refine w_if ?_) | (with_reducible refine w_eand ?_) | (with_reducible refine w_eor ?_) | (with_reducible refine w_chain ?_) | (with_reducible refine w_op1 ?_) | (with_reducible refine w_enot ?_) | (with_reducible refine w_op2 ?_) | (with_reducible refine w_opA ?_) | (with_reducible refine w_opAS ?_) | (with_reducible refine w_meth ?_) | (with_reducible refine w_cons ?_) | (with_reducible refine w_nil ?_) | (with_reducible refine w_tup ?_) | (with_reducible refine w_lst ?_) | (with_reducible refine w_lstC ?_) | (with_reducible refine w_slice ?_) | (with_reducible refine w_psome ?_) | (with_reducible refine w_pnone ?_) | (with_reducible refine w_aug ?_) | (with_reducible refine w_call ?_) | (with_reducible refine w_lc ?_) | (with_reducible refine w_seqi ?_) | (with_reducible refine w_range1 ?_) | (with_reducible refine w_for ?_) | refine w_var rfl ?_ | (with_reducible refine w_c ?_) | refine ⟨_, rfl, ?_⟩ | refine ⟨Nat.le_of_ble_eq_true rfl, ?_⟩ | refine ⟨rfl, ?_⟩ | refine ⟨fun _ => ?_, fun h => absurd h.symm Bool.false_ne_true⟩ | refine ⟨fun h => absurd h Bool.false_ne_true, fun _ => ?_⟩ | refine ⟨fun _ => ?_, fun h => absurd h Bool.false_ne_true⟩ | refine ⟨fun h => absurd h.symm Bool.false_ne_true, fun _ => ?_⟩)); first | rfl | exact ⟨rfl, rfl⟩
/-! ### lots of places -/
def lotD (d : D) (many : Int) : Bool := match d with
  | .tup xs => !xs.isEmpty && (xs.all (fun x => within x 0 (many - 1)) && (match ints? xs with | some ns => adjI ns | none => false))
  | _ => false
theorem within_ints : ∀ {xs : List D} {lo hi : Int}, xs.all (fun x => within x lo hi) = true → ∃ ns : List Int, xs = ns.map D.int
  | [], _, _, _ => ⟨[], rfl⟩
  | x :: xs, lo, hi, h => by
    rw [List.all_cons, Bool.and_eq_true] at h
    obtain ⟨ns, e⟩ := within_ints h.2
    cases x with
    | int s => exact ⟨s :: ns, by rw [e]; rfl⟩
    | _ => cases h.1
theorem is_index_lot_spec {d : D} (h : d.ok = true) {many : Int} (hl : ∀ xs, d = .tup xs → xs.length < 64) : F_is_index_lot [d, .int many] [] = some (.ok (.bl (lotD d many)), []) := by
  refine fn_own rfl rfl ?_
  show WS b_is_index_lot [some d, some (.int many), none, none] [] _
  unfold b_is_index_lot
  cases d with
  | tup xs =>
    have hl := hl xs rfl
    have h59 : xs.all (okd 59) = true := h
    have hok : ∀ x ∈ xs, D.ok x = true := fun x hx => okd_up (List.all_eq_true.mp h59 x hx)
    have out : lotD (.tup xs) many = (!xs.isEmpty && (xs.all (fun x => within x 0 (many - 1)) && (match ints? xs with | some ns => adjI ns | none => false))) := rfl
    refine w_then (w_sif (w_or ?_))
    (repeat (first | (with_reducible refine w_then ?_) | (with_reducible refine w_set ?_) | (with_reducible refine w_asg ?_) | (with_reducible refine w_do ?_) | (with_reducible refine w_ret ?_) | (with_reducible refine w_sif ?_) | (with_reducible refine w_par ?_) | (with_reducible refine w_skip ?_) | (with_reducible refine w_break ?_) | (with_reducible refine w_cont ?_) | (with_reducible refine w_tv ?_) | (with_reducible refine w_not ?_) | (with_reducible refine w_and ?_) | (with_reducible refine w_or ?_) | (with_reducible refine w_if ?_) | (with_reducible refine w_eand ?_) | (with_reducible refine w_eor ?_) | (with_reducible refine w_chain ?_) | (with_reducible refine w_op1 ?_) | (with_reducible refine w_enot ?_) | (with_reducible refine w_op2 ?_) | (with_reducible refine w_opA ?_) | (with_reducible refine w_opAS ?_) | (with_reducible refine w_meth ?_) | (with_reducible refine w_cons ?_) | (with_reducible refine w_nil ?_) | (with_reducible refine w_tup ?_) | (with_reducible refine w_lst ?_) | (with_reducible refine w_lstC ?_) | (with_reducible refine w_slice ?_) | (with_reducible refine w_psome ?_) | (with_reducible refine w_pnone ?_) | (with_reducible refine w_aug ?_) | (with_reducible refine w_call ?_) | (with_reducible refine w_lc ?_) | (with_reducible refine w_seqi ?_) | (with_reducible refine w_range1 ?_) | (with_reducible refine w_for ?_) | refine w_var rfl ?_ | (with_reducible refine w_c ?_) | refine ⟨_, rfl, ?_⟩ | refine ⟨Nat.le_of_ble_eq_true rfl, ?_⟩ | refine ⟨rfl, ?_⟩ | refine ⟨fun _ => ?_, fun h => absurd h.symm Bool.false_ne_true⟩ | refine ⟨fun h => absurd h Bool.false_ne_true, fun _ => ?_⟩ | refine ⟨fun _ => ?_, fun h => absurd h Bool.false_ne_true⟩ | refine ⟨fun h => absurd h.symm Bool.false_ne_true, fun _ => ?_⟩))
    refine ⟨_, tup_nil h, _, rfl, ?_⟩
    refine ⟨fun h1 => ?_, fun h1 => ?_⟩
    · (repeat (first | (with_reducible refine w_then ?_) | (with_reducible refine w_set ?_) | (with_reducible refine w_asg ?_) | (with_reducible refine w_do ?_) | (with_reducible refine w_ret ?_) | (with_reducible refine w_sif ?_) | (with_reducible refine w_par ?_) | (with_reducible refine w_skip ?_) | (with_reducible refine w_break ?_) | (with_reducible refine w_cont ?_) | (with_reducible refine w_tv ?_) | (with_reducible refine w_not ?_) | (with_reducible refine w_and ?_) | (with_reducible refine w_or ?_) | (with_reducible refine w_if ?_) | (with_reducible refine w_eand ?_) | (with_reducible refine w_eor ?_) | (with_reducible refine w_chain ?_) | (with_reducible refine w_op1 ?_) | (with_reducible refine w_enot ?_) | (with_reducible refine w_op2 ?_) | (with_reducible refine w_opA ?_) | (with_reducible refine w_opAS ?_) | (with_reducible refine w_meth ?_) | (with_reducible refine w_cons ?_) | (with_reducible refine w_nil ?_) | (with_reducible refine w_tup ?_) | (with_reducible refine w_lst ?_) | (with_reducible refine w_lstC ?_) | (with_reducible refine w_slice ?_) | (with_reducible refine w_psome ?_) | (with_reducible refine w_pnone ?_) | (with_reducible refine w_aug ?_) | (with_reducible refine w_call ?_) | (with_reducible refine w_lc ?_) | (with_reducible refine w_seqi ?_) | (with_reducible refine w_range1 ?_) | (with_reducible refine w_for ?_) | refine w_var rfl ?_ | (with_reducible refine w_c ?_) | refine ⟨_, rfl, ?_⟩ | refine ⟨Nat.le_of_ble_eq_true rfl, ?_⟩ | refine ⟨rfl, ?_⟩ | refine ⟨fun _ => ?_, fun h => absurd h.symm Bool.false_ne_true⟩ | refine ⟨fun h => absurd h Bool.false_ne_true, fun _ => ?_⟩ | refine ⟨fun _ => ?_, fun h => absurd h Bool.false_ne_true⟩ | refine ⟨fun h => absurd h.symm Bool.false_ne_true, fun _ => ?_⟩))
      refine ⟨_, _, compL_mapD (fun x => .bl (within x 0 (many - 1))) fun x hx => ⟨_, rfl, ?_⟩, ?_⟩
      · refine w_call (w_cons (w_var rfl (w_cons (w_c (w_cons (w_op2 (w_var rfl (w_c ⟨_, rfl, w_nil ?_⟩))))))))
        exact ⟨_, _, call_0 (ds := [x, .int 0, .int (many - 1)]) (by intro y hy; simp at hy; rcases hy with rfl | rfl | rfl; exact hok _ hx; rfl; rfl) (is_within_spec (hok x hx)) rfl, rfl, rfl⟩
      have e := gAll_map (st := []) (xs.map fun x => within x 0 (many - 1))
      rw [List.map_map] at e
      refine w_nil ⟨_, e, _, rfl, ?_⟩
      have e2 : (xs.map fun x => within x 0 (many - 1)).all id = xs.all fun x => within x 0 (many - 1) := by rw [List.all_map]; rfl
      rw [e2]
      refine ⟨fun h3 => ?_, fun h3 => ?_⟩
      · rw [Bool.not_eq_true'] at h3
        (repeat (first | (with_reducible refine w_then ?_) | (with_reducible refine w_set ?_) | (with_reducible refine w_asg ?_) | (with_reducible refine w_do ?_) | (with_reducible refine w_ret ?_) | (with_reducible refine w_sif ?_) | (with_reducible refine w_par ?_) | (with_reducible refine w_skip ?_) | (with_reducible refine w_break ?_) | (with_reducible refine w_cont ?_) | (with_reducible refine w_tv ?_) | (with_reducible refine w_not ?_) | (with_reducible refine w_and ?_) | (with_reducible refine w_or ?_) | (with_reducible refine w_if ?_) | (with_reducible refine w_eand ?_) | (with_reducible refine w_eor ?_) | (with_reducible refine w_chain ?_) | (with_reducible refine w_op1 ?_) | (with_reducible refine w_enot ?_) | (with_reducible refine w_op2 ?_) | (with_reducible refine w_opA ?_) | (with_reducible refine w_opAS ?_) | (with_reducible refine w_meth ?_) | (with_reducible refine w_cons ?_) | (with_reducible refine w_nil ?_) | (with_reducible refine w_tup ?_) | (with_reducible refine w_lst ?_) | (with_reducible refine w_lstC ?_) | (with_reducible refine w_slice ?_) | (with_reducible refine w_psome ?_) | (with_reducible refine w_pnone ?_) | (with_reducible refine w_aug ?_) | (with_reducible refine w_call ?_) | (with_reducible refine w_lc ?_) | (with_reducible refine w_seqi ?_) | (with_reducible refine w_range1 ?_) | (with_reducible refine w_for ?_) | refine w_var rfl ?_ | (with_reducible refine w_c ?_) | refine ⟨_, rfl, ?_⟩ | refine ⟨Nat.le_of_ble_eq_true rfl, ?_⟩ | refine ⟨rfl, ?_⟩ | refine ⟨fun _ => ?_, fun h => absurd h.symm Bool.false_ne_true⟩ | refine ⟨fun h => absurd h Bool.false_ne_true, fun _ => ?_⟩ | refine ⟨fun _ => ?_, fun h => absurd h Bool.false_ne_true⟩ | refine ⟨fun h => absurd h.symm Bool.false_ne_true, fun _ => ?_⟩))
        rw [out, h3, Bool.false_and, Bool.and_false]
      · rw [Bool.not_eq_false'] at h3
        obtain ⟨ns, hns⟩ := within_ints h3
        refine w_skip (w_ret (w_op2 (w_opA (w_cons (w_var rfl (w_nil ⟨.lst xs, rfl, ?_⟩))))))
        refine w_opA (w_cons (w_dc (w_seqi (w_var rfl ⟨xs, rfl, ?_⟩))))
        refine ⟨_, _, compD_keys (.bl true) (fun x hx => ⟨_, rfl, ?_, w_var rfl ⟨rfl, rfl⟩, w_c ⟨rfl, rfl⟩⟩), ?_⟩
        · rw [hns] at hx
          obtain ⟨s, _, rfl⟩ := List.mem_map.mp hx
          rfl
        have hk : (xs.foldl (fun acc x => putKv acc x (.bl true)) []).map (·.1) = (once ns).map D.int := by
          rw [hns]
          exact dict_keys (α := Int) D.int int_keq (.bl true) ns
        have hs : gSorted ([] ++ [.dct (xs.foldl (fun acc x => putKv acc x (.bl true)) [])]) [.loc 0] = some (.lst ((sortI (once ns)).map D.int)) := by
          show sortD ((xs.foldl (fun acc x => putKv acc x (.bl true)) []).map (·.1)) = _
          rw [hk]
          unfold sortD
          rw [ints_map]
          dsimp only
          rw [if_pos]
          have := (once_len ns [] List.nodup_nil).1
          rw [hns, List.length_map] at hl
          unfold once
          simp at this
          omega
        refine w_nil ⟨_, hs, ?_⟩
        have he : ∀ st, vEq st (.lst xs) (.lst ((sortI (once ns)).map D.int)) = some (.bl (decide (ns = sortI (once ns)))) := fun st => by rw [hns]; exact eq_ints ns _
        refine ⟨_, he _, ?_⟩
        rw [out, h1, h3, hns, ints_map, adj_sort]
        rfl
    · (repeat (first | (with_reducible refine w_then ?_) | (with_reducible refine w_set ?_) | (with_reducible refine w_asg ?_) | (with_reducible refine w_do ?_) | (with_reducible refine w_ret ?_) | (with_reducible refine w_sif ?_) | (with_reducible refine w_par ?_) | (with_reducible refine w_skip ?_) | (with_reducible refine w_break ?_) | (with_reducible refine w_cont ?_) | (with_reducible refine w_tv ?_) | (with_reducible refine w_not ?_) | (with_reducible refine w_and ?_) | (with_reducible refine w_or ?_) | (with_reducible refine w_if ?_) | (with_reducible refine w_eand ?_) | (with_reducible refine w_eor ?_) | (with_reducible refine w_chain ?_) | (with_reducible refine w_op1 ?_) | (with_reducible refine w_enot ?_) | (with_reducible refine w_op2 ?_) | (with_reducible refine w_opA ?_) | (with_reducible refine w_opAS ?_) | (with_reducible refine w_meth ?_) | (with_reducible refine w_cons ?_) | (with_reducible refine w_nil ?_) | (with_reducible refine w_tup ?_) | (with_reducible refine w_lst ?_) | (with_reducible refine w_lstC ?_) | (with_reducible refine w_slice ?_) | (with_reducible refine w_psome ?_) | (with_reducible refine w_pnone ?_) | (with_reducible refine w_aug ?_) | (with_reducible refine w_call ?_) | (with_reducible refine w_lc ?_) | (with_reducible refine w_seqi ?_) | (with_reducible refine w_range1 ?_) | (with_reducible refine w_for ?_) | refine w_var rfl ?_ | (with_reducible refine w_c ?_) | refine ⟨_, rfl, ?_⟩ | refine ⟨Nat.le_of_ble_eq_true rfl, ?_⟩ | refine ⟨rfl, ?_⟩ | refine ⟨fun _ => ?_, fun h => absurd h.symm Bool.false_ne_true⟩ | refine ⟨fun h => absurd h Bool.false_ne_true, fun _ => ?_⟩ | refine ⟨fun _ => ?_, fun h => absurd h Bool.false_ne_true⟩ | refine ⟨fun h => absurd h.symm Bool.false_ne_true, fun _ => ?_⟩))
      rw [out, h1, Bool.not_true, Bool.false_and]
  | loc _ => cases h
  | scr _ => cases h
  | _ => (repeat (first | (with_reducible refine w_then ?_) | (with_reducible refine w_set ?_) | (with_reducible refine w_asg ?_) | (with_reducible refine w_do ?_) | (with_reducible refine w_ret ?_) | (with_reducible refine w_sif ?_) | (with_reducible refine w_par ?_) | (with_reducible refine w_skip ?_) | (with_reducible refine w_break ?_) | (with_reducible refine w_cont ?_) | (with_reducible refine w_tv ?_) | (with_reducible refine w_not ?_) | (with_reducible refine w_and ?_) | (with_reducible refine w_or ?_) | (with_reducible refine w_if ?_) | (with_reducible refine w_eand ?_) | (with_reducible refine w_eor ?_) | (with_reducible refine w_chain ?_) | (with_reducible refine w_op1 ?_) | (with_reducible refine w_enot ?_) | (with_reducible refine w_op2 ?_) | (with_reducible refine w_opA ?_) | (with_reducible refine w_opAS ?_) | (with_reducible refine w_meth ?_) | (with_reducible refine w_cons ?_) | (with_reducible refine w_nil ?_) | (with_reducible refine w_tup ?_) | (with_reducible refine w_lst ?_) | (with_reducible refine w_lstC ?_) | (with_reducible refine w_slice ?_) | (with_reducible refine w_psome ?_) | (with_reducible refine w_pnone ?_) | (with_reducible refine w_aug ?_) | (with_reducible refine w_call ?_) | (with_reducible refine w_lc ?_) | (with_reducible refine w_seqi ?_) | (with_reducible refine w_range1 ?_) | (with_reducible refine w_for ?_) | refine w_var rfl ?_ | (with_reducible refine w_c ?_) | refine ⟨_, rfl, ?_⟩ | refine ⟨Nat.le_of_ble_eq_true rfl, ?_⟩ | refine ⟨rfl, ?_⟩ | refine ⟨fun _ => ?_, fun h => absurd h.symm Bool.false_ne_true⟩ | refine ⟨fun h => absurd h Bool.false_ne_true, fun _ => ?_⟩ | refine ⟨fun _ => ?_, fun h => absurd h Bool.false_ne_true⟩ | refine ⟨fun h => absurd h.symm Bool.false_ne_true, fun _ => ?_⟩)); first | rfl | exact ⟨rfl, rfl⟩
/-! ### words -/
def words : List D := [.str "a", .str "zz", .str "free", .str "hears", .str "many", .str "no", .str "open", .str "signs", .str "size", .str "yes", .str "abcdefgh", .str "abcdefghi", .str "", .str "A", .str "a1", .str "a ", .str "nos", .str "a-b", .non, .int 7, .bl true, .tup [.str "a"], .lst [.str "a"]]
theorem word_spec {c : Cell} (h : BagC c) : ∃ d c', F__law_word [.loc 0] [c] = some (.ok d, [c']) ∧ BagC c' ∧ d ∈ words ∧ d.ok = true := by
  suffices hh : ∃ d s, F__law_word [.loc 0] [c] = some (.ok d, s) ∧ ∃ c', s = [c'] ∧ BagC c' ∧ d ∈ words ∧ d.ok = true by
    obtain ⟨d, s, e, c', rfl, r⟩ := hh
    exact ⟨d, c', e, r⟩
  refine fn_of rfl ?_
  show WS b__law_word [some (.loc 0), none] [c] _
  unfold b__law_word
  refine w_then (w_set ?_)
  (repeat (first | (with_reducible refine w_tv ?_) | (with_reducible refine w_not ?_) | (with_reducible refine w_op1 ?_) | (with_reducible refine w_enot ?_) | (with_reducible refine w_op2 ?_) | (with_reducible refine w_opA ?_) | (with_reducible refine w_opAS ?_) | (with_reducible refine w_meth ?_) | (with_reducible refine w_cons ?_) | (with_reducible refine w_nil ?_) | (with_reducible refine w_tup ?_) | (with_reducible refine w_lst ?_) | (with_reducible refine w_lstC ?_) | (with_reducible refine w_slice ?_) | (with_reducible refine w_psome ?_) | (with_reducible refine w_pnone ?_) | (with_reducible refine w_seqi ?_) | (with_reducible refine w_range1 ?_) | refine w_var rfl ?_ | (with_reducible refine w_c ?_) | refine ⟨_, rfl, ?_⟩ | refine ⟨Nat.le_of_ble_eq_true rfl, ?_⟩ | refine ⟨rfl, ?_⟩ | refine ⟨fun _ => ?_, fun h => absurd h.symm Bool.false_ne_true⟩ | refine ⟨fun h => absurd h Bool.false_ne_true, fun _ => ?_⟩ | refine ⟨fun _ => ?_, fun h => absurd h Bool.false_ne_true⟩ | refine ⟨fun h => absurd h.symm Bool.false_ne_true, fun _ => ?_⟩))
  refine w_ret (w_call (w_cons (w_var rfl (w_cons (w_op2 (w_var rfl ?_))))))
  (repeat (first | (with_reducible refine w_tv ?_) | (with_reducible refine w_not ?_) | (with_reducible refine w_op1 ?_) | (with_reducible refine w_enot ?_) | (with_reducible refine w_op2 ?_) | (with_reducible refine w_opA ?_) | (with_reducible refine w_opAS ?_) | (with_reducible refine w_meth ?_) | (with_reducible refine w_cons ?_) | (with_reducible refine w_nil ?_) | (with_reducible refine w_tup ?_) | (with_reducible refine w_lst ?_) | (with_reducible refine w_lstC ?_) | (with_reducible refine w_slice ?_) | (with_reducible refine w_psome ?_) | (with_reducible refine w_pnone ?_) | (with_reducible refine w_seqi ?_) | (with_reducible refine w_range1 ?_) | refine w_var rfl ?_ | (with_reducible refine w_c ?_) | refine ⟨_, rfl, ?_⟩ | refine ⟨Nat.le_of_ble_eq_true rfl, ?_⟩ | refine ⟨rfl, ?_⟩ | refine ⟨fun _ => ?_, fun h => absurd h.symm Bool.false_ne_true⟩ | refine ⟨fun h => absurd h Bool.false_ne_true, fun _ => ?_⟩ | refine ⟨fun _ => ?_, fun h => absurd h Bool.false_ne_true⟩ | refine ⟨fun h => absurd h.symm Bool.false_ne_true, fun _ => ?_⟩))
  refine some_call h rfl (xs := words) (.inl rfl) rfl (by decide) (by decide) fun d c' hc' hm hok => ?_
  exact ⟨_, .inl rfl, _, _, clean_ok (by simp [bag_ok hc']) hok, c', rfl, hc', hm, hok⟩
theorem word_call {c : Cell} (h : BagC c) {st : Store} {n : Nat} (hn : st[n]? = some c) {Q : D → Store → Prop} (k : ∀ d c', BagC c' → okd 2 d = true → Q d (st.set n c')) : ∃ r s2, viewCall F__law_word [.loc n] st = some (.ok r, s2) ∧ Q r s2 := by
  obtain ⟨d, c', e, hc', hm, hd⟩ := word_spec h
  have hw : words.all (okd 2) = true := by rfl
  exact ⟨_, _, call_1 (ds := []) hn (by simp) (bag_ok h) e (bag_ok hc') hd, k d c' hc' (List.all_eq_true.mp hw d hm)⟩
end Sw.K01

/-! Pk01b: k01's plain law, the loops. -/
set_option linter.all false
set_option maxRecDepth 100000
set_option maxHeartbeats 4000000
namespace Sw.K01
open PySem (Str)
open Lib
def allN : D → Bool
  | .tup xs => xs.all nameD
  | _ => false
theorem f1_body {st : Store} {d : D} (hd : d.ok = true) (hl : ∀ xs, d = .tup xs → xs.length ≤ 1000) {lo hi : Int} {a0 a1 a2 a3 a4 a7 a10 a11 a12 a13 a14 a15 : Option D} :
    WS b_law_f1 [a0, a1, a2, a3, a4, some (.int lo), some (.int hi), a7, some d, none, a10, a11, a12, a13, a14, a15] st fun r s => s = st ∧ ∃ x, r = .nx [a0, a1, a2, a3, a4, some (.int lo), some (.int hi), a7, some d, x, a10, a11, a12, a13, a14, a15] := by
  unfold b_law_f1
  refine w_then (w_set (WE.mono (Q := fun v s => v = .bl (allN d) ∧ s = st) ?_ ?_))
  · cases d with
    | tup xs =>
      have hok : ∀ x ∈ xs, D.ok x = true := fun x hx => okd_up (List.all_eq_true.mp (show xs.all (okd 59) = true from hd) x hx)
      (repeat (first | (with_reducible refine w_then ?_) | (with_reducible refine w_set ?_) | (with_reducible refine w_asg ?_) | (with_reducible refine w_do ?_) | (with_reducible refine w_ret ?_) | (with_reducible refine w_sif ?_) | (with_reducible refine w_par ?_) | (with_reducible refine w_skip ?_) | (with_reducible refine w_break ?_) | (with_reducible refine w_cont ?_) | (with_reducible refine w_tv ?_) | (with_reducible refine w_not ?_) | (with_reducible refine w_and ?_) | (with_reducible refine w_or ?_) | (with_reducible refine w_if ?_) | (with_reducible refine w_eand ?_) | (with_reducible refine w_eor ?_) | (with_reducible refine w_chain ?_) | (with_reducible refine w_op1 ?_) | (with_reducible refine w_enot ?_) | (with_reducible refine w_op2 ?_) | (with_reducible refine w_opA ?_) | (with_reducible refine w_opAS ?_) | (with_reducible refine w_meth ?_) | (with_reducible refine w_cons ?_) | (with_reducible refine w_nil ?_) | (with_reducible refine w_tup ?_) | (with_reducible refine w_lst ?_) | (with_reducible refine w_lstC ?_) | (with_reducible refine w_slice ?_) | (with_reducible refine w_psome ?_) | (with_reducible refine w_pnone ?_) | (with_reducible refine w_aug ?_) | (with_reducible refine w_call ?_) | (with_reducible refine w_lc ?_) | (with_reducible refine w_seqi ?_) | (with_reducible refine w_range1 ?_) | (with_reducible refine w_for ?_) | refine w_var rfl ?_ | (with_reducible refine w_c ?_) | refine ⟨_, rfl, ?_⟩ | refine ⟨Nat.le_of_ble_eq_true rfl, ?_⟩ | refine ⟨rfl, ?_⟩ | refine ⟨fun _ => ?_, fun h => absurd h.symm Bool.false_ne_true⟩ | refine ⟨fun h => absurd h Bool.false_ne_true, fun _ => ?_⟩ | refine ⟨fun _ => ?_, fun h => absurd h Bool.false_ne_true⟩ | refine ⟨fun h => absurd h.symm Bool.false_ne_true, fun _ => ?_⟩))
      refine ⟨_, _, compL_filterD (fun _ => .int 1) (fun x => !nameD x) fun x hx => ⟨_, rfl, ?_, fun _ => ?_⟩, ?_⟩
      · refine w_not (w_tv (w_call (w_cons (w_var rfl (w_nil (plain_call (by simp [hok x hx]) (law_is_name_spec (hok x hx)) rfl ⟨_, rfl, rfl, rfl⟩))))))
      · exact w_c ⟨rfl, rfl⟩
      · refine w_lst (w_nil ⟨Nat.zero_le _, _, ones_nil _, ?_, rfl⟩)
        rw [filter_empty]
        simp [allN]
    | loc _ => cases hd
    | scr _ => cases hd
    | _ => (repeat (first | (with_reducible refine w_then ?_) | (with_reducible refine w_set ?_) | (with_reducible refine w_asg ?_) | (with_reducible refine w_do ?_) | (with_reducible refine w_ret ?_) | (with_reducible refine w_sif ?_) | (with_reducible refine w_par ?_) | (with_reducible refine w_skip ?_) | (with_reducible refine w_break ?_) | (with_reducible refine w_cont ?_) | (with_reducible refine w_tv ?_) | (with_reducible refine w_not ?_) | (with_reducible refine w_and ?_) | (with_reducible refine w_or ?_) | (with_reducible refine w_if ?_) | (with_reducible refine w_eand ?_) | (with_reducible refine w_eor ?_) | (with_reducible refine w_chain ?_) | (with_reducible refine w_op1 ?_) | (with_reducible refine w_enot ?_) | (with_reducible refine w_op2 ?_) | (with_reducible refine w_opA ?_) | (with_reducible refine w_opAS ?_) | (with_reducible refine w_meth ?_) | (with_reducible refine w_cons ?_) | (with_reducible refine w_nil ?_) | (with_reducible refine w_tup ?_) | (with_reducible refine w_lst ?_) | (with_reducible refine w_lstC ?_) | (with_reducible refine w_slice ?_) | (with_reducible refine w_psome ?_) | (with_reducible refine w_pnone ?_) | (with_reducible refine w_aug ?_) | (with_reducible refine w_call ?_) | (with_reducible refine w_lc ?_) | (with_reducible refine w_seqi ?_) | (with_reducible refine w_range1 ?_) | (with_reducible refine w_for ?_) | refine w_var rfl ?_ | (with_reducible refine w_c ?_) | refine ⟨_, rfl, ?_⟩ | refine ⟨Nat.le_of_ble_eq_true rfl, ?_⟩ | refine ⟨rfl, ?_⟩ | refine ⟨fun _ => ?_, fun h => absurd h.symm Bool.false_ne_true⟩ | refine ⟨fun h => absurd h Bool.false_ne_true, fun _ => ?_⟩ | refine ⟨fun _ => ?_, fun h => absurd h Bool.false_ne_true⟩ | refine ⟨fun h => absurd h.symm Bool.false_ne_true, fun _ => ?_⟩)); first | rfl | exact ⟨rfl, rfl⟩
  rintro v s ⟨rfl, rfl⟩
  refine w_then (w_set (WE.mono (Q := fun v s' => v = .bl (namesD d lo hi) ∧ s' = s) ?_ ?_))
  · refine w_eand (w_var rfl ⟨_, rfl, fun h1 => ?_, fun h1 => ?_⟩)
    · cases d with
      | tup xs =>
        have h1 : xs.all nameD = true := h1
        have out : namesD (.tup xs) lo hi = ((decide (lo ≤ (xs.length : Int)) && decide ((xs.length : Int) ≤ hi)) && (xs.all nameD && unlikeD xs)) := rfl
        refine w_eand (w_call (w_cons (w_var rfl (w_nil (plain_call (by simpa using hd) (law_unlike_spec hd (hl xs rfl)) rfl ⟨_, rfl, fun h2 => ?_, fun h2 => ?_⟩)))))
        · (repeat (first | (with_reducible refine w_then ?_) | (with_reducible refine w_set ?_) | (with_reducible refine w_asg ?_) | (with_reducible refine w_do ?_) | (with_reducible refine w_ret ?_) | (with_reducible refine w_sif ?_) | (with_reducible refine w_par ?_) | (with_reducible refine w_skip ?_) | (with_reducible refine w_break ?_) | (with_reducible refine w_cont ?_) | (with_reducible refine w_tv ?_) | (with_reducible refine w_not ?_) | (with_reducible refine w_and ?_) | (with_reducible refine w_or ?_) | (with_reducible refine w_if ?_) | (with_reducible refine w_eand ?_) | (with_reducible refine w_eor ?_) | (with_reducible refine w_chain ?_) | (with_reducible refine w_op1 ?_) | (with_reducible refine w_enot ?_) | (with_reducible refine w_op2 ?_) | (with_reducible refine w_opA ?_) | (with_reducible refine w_opAS ?_) | (with_reducible refine w_meth ?_) | (with_reducible refine w_cons ?_) | (with_reducible refine w_nil ?_) | (with_reducible refine w_tup ?_) | (with_reducible refine w_lst ?_) | (with_reducible refine w_lstC ?_) | (with_reducible refine w_slice ?_) | (with_reducible refine w_psome ?_) | (with_reducible refine w_pnone ?_) | (with_reducible refine w_aug ?_) | (with_reducible refine w_call ?_) | (with_reducible refine w_lc ?_) | (with_reducible refine w_seqi ?_) | (with_reducible refine w_range1 ?_) | (with_reducible refine w_for ?_) | refine w_var rfl ?_ | (with_reducible refine w_c ?_) | refine ⟨_, rfl, ?_⟩ | refine ⟨Nat.le_of_ble_eq_true rfl, ?_⟩ | refine ⟨rfl, ?_⟩ | refine ⟨fun _ => ?_, fun h => absurd h.symm Bool.false_ne_true⟩ | refine ⟨fun h => absurd h Bool.false_ne_true, fun _ => ?_⟩ | refine ⟨fun _ => ?_, fun h => absurd h Bool.false_ne_true⟩ | refine ⟨fun h => absurd h.symm Bool.false_ne_true, fun _ => ?_⟩))
          refine ⟨fun h3 => ?_, fun h3 => ?_⟩
          · (repeat (first | (with_reducible refine w_then ?_) | (with_reducible refine w_set ?_) | (with_reducible refine w_asg ?_) | (with_reducible refine w_do ?_) | (with_reducible refine w_ret ?_) | (with_reducible refine w_sif ?_) | (with_reducible refine w_par ?_) | (with_reducible refine w_skip ?_) | (with_reducible refine w_break ?_) | (with_reducible refine w_cont ?_) | (with_reducible refine w_tv ?_) | (with_reducible refine w_not ?_) | (with_reducible refine w_and ?_) | (with_reducible refine w_or ?_) | (with_reducible refine w_if ?_) | (with_reducible refine w_eand ?_) | (with_reducible refine w_eor ?_) | (with_reducible refine w_chain ?_) | (with_reducible refine w_op1 ?_) | (with_reducible refine w_enot ?_) | (with_reducible refine w_op2 ?_) | (with_reducible refine w_opA ?_) | (with_reducible refine w_opAS ?_) | (with_reducible refine w_meth ?_) | (with_reducible refine w_cons ?_) | (with_reducible refine w_nil ?_) | (with_reducible refine w_tup ?_) | (with_reducible refine w_lst ?_) | (with_reducible refine w_lstC ?_) | (with_reducible refine w_slice ?_) | (with_reducible refine w_psome ?_) | (with_reducible refine w_pnone ?_) | (with_reducible refine w_aug ?_) | (with_reducible refine w_call ?_) | (with_reducible refine w_lc ?_) | (with_reducible refine w_seqi ?_) | (with_reducible refine w_range1 ?_) | (with_reducible refine w_for ?_) | refine w_var rfl ?_ | (with_reducible refine w_c ?_) | refine ⟨_, rfl, ?_⟩ | refine ⟨Nat.le_of_ble_eq_true rfl, ?_⟩ | refine ⟨rfl, ?_⟩ | refine ⟨fun _ => ?_, fun h => absurd h.symm Bool.false_ne_true⟩ | refine ⟨fun h => absurd h Bool.false_ne_true, fun _ => ?_⟩ | refine ⟨fun _ => ?_, fun h => absurd h Bool.false_ne_true⟩ | refine ⟨fun h => absurd h.symm Bool.false_ne_true, fun _ => ?_⟩))
            refine ⟨?_, rfl⟩
            rw [out, h1, h2, h3]; simp
          · refine ⟨?_, rfl⟩
            rw [out, h3]; simp
        · refine ⟨?_, rfl⟩
          rw [out, h2]; simp
      | _ => cases h1
    · refine ⟨?_, rfl⟩
      cases d with
      | tup xs =>
        have h1 : xs.all nameD = false := h1
        have out : namesD (.tup xs) lo hi = ((decide (lo ≤ (xs.length : Int)) && decide ((xs.length : Int) ≤ hi)) && (xs.all nameD && unlikeD xs)) := rfl
        show D.bl (xs.all nameD) = _
        rw [out, h1]; simp
      | _ => rfl
  rintro v s' ⟨rfl, rfl⟩
  refine w_sif (w_not (w_tv (w_call (w_cons (w_call (w_cons (w_var rfl (w_cons (w_var rfl (w_cons (w_var rfl (w_nil ?_)))))))))))) 
  refine plain_call (by simp [hd, D.ok, okd]) (are_names_spec hd) rfl ?_
  refine w_cons (w_var rfl (w_nil (alike_call rfl rfl rfl ⟨_, rfl, ?_⟩)))
  (repeat (first | (with_reducible refine w_then ?_) | (with_reducible refine w_set ?_) | (with_reducible refine w_asg ?_) | (with_reducible refine w_do ?_) | (with_reducible refine w_ret ?_) | (with_reducible refine w_sif ?_) | (with_reducible refine w_par ?_) | (with_reducible refine w_skip ?_) | (with_reducible refine w_break ?_) | (with_reducible refine w_cont ?_) | (with_reducible refine w_tv ?_) | (with_reducible refine w_not ?_) | (with_reducible refine w_and ?_) | (with_reducible refine w_or ?_) | (with_reducible refine w_if ?_) | (with_reducible refine w_eand ?_) | (with_reducible refine w_eor ?_) | (with_reducible refine w_chain ?_) | (with_reducible refine w_op1 ?_) | (with_reducible refine w_enot ?_) | (with_reducible refine w_op2 ?_) | (with_reducible refine w_opA ?_) | (with_reducible refine w_opAS ?_) | (with_reducible refine w_meth ?_) | (with_reducible refine w_cons ?_) | (with_reducible refine w_nil ?_) | (with_reducible refine w_tup ?_) | (with_reducible refine w_lst ?_) | (with_reducible refine w_lstC ?_) | (with_reducible refine w_slice ?_) | (with_reducible refine w_psome ?_) | (with_reducible refine w_pnone ?_) | (with_reducible refine w_aug ?_) | (with_reducible refine w_call ?_) | (with_reducible refine w_lc ?_) | (with_reducible refine w_seqi ?_) | (with_reducible refine w_range1 ?_) | (with_reducible refine w_for ?_) | refine w_var rfl ?_ | (with_reducible refine w_c ?_) | refine ⟨_, rfl, ?_⟩ | refine ⟨Nat.le_of_ble_eq_true rfl, ?_⟩ | refine ⟨rfl, ?_⟩ | refine ⟨fun _ => ?_, fun h => absurd h.symm Bool.false_ne_true⟩ | refine ⟨fun h => absurd h Bool.false_ne_true, fun _ => ?_⟩ | refine ⟨fun _ => ?_, fun h => absurd h Bool.false_ne_true⟩ | refine ⟨fun h => absurd h.symm Bool.false_ne_true, fun _ => ?_⟩))
  exact ⟨_, rfl⟩
/-! ### the second loop -/
def allI : D → Bool
  | .tup xs => !xs.isEmpty && xs.all isI
  | _ => false
def allW (hi : Int) : D → Bool
  | .tup xs => !xs.isEmpty && xs.all fun x => within x 0 (hi - 1)
  | _ => false
theorem isI_ints : ∀ {xs : List D}, xs.all isI = true → ∃ ns : List Int, xs = ns.map D.int
  | [], _ => ⟨[], rfl⟩
  | x :: xs, h => by
    rw [List.all_cons, Bool.and_eq_true] at h
    obtain ⟨ns, e⟩ := isI_ints h.2
    cases x with
    | int s => exact ⟨s :: ns, by rw [e]; rfl⟩
    | _ => cases h.1
theorem within_isI {xs : List D} {lo hi : Int} (h : (xs.all fun x => within x lo hi) = true) : xs.all isI = true := by
  obtain ⟨ns, rfl⟩ := within_ints h
  rw [List.all_map, List.all_eq_true]
  intro _ _; rfl
theorem zip_drop (ns : List Int) : zipL (ns.map D.int) ((ns.map D.int).drop 1) = (ns.zip (ns.drop 1)).map fun p => D.tup [.int p.1, .int p.2] := by
  unfold zipL
  rw [← List.map_drop, List.zip_map, List.map_map]
  rfl
theorem f2_body {st : Store} {d : D} (hd : d.ok = true) (hl : ∀ xs, d = .tup xs → xs.length < 64) {hi : Int} {a0 a1 a2 a3 a4 a5 a7 a10 a11 a12 a13 a14 a15 : Option D} :
    WS b_law_f2 [a0, a1, a2, a3, a4, a5, some (.int hi), a7, some d, none, a10, a11, a12, a13, a14, a15] st fun r s => s = st ∧ ∃ x, r = .nx [a0, a1, a2, a3, a4, a5, some (.int hi), a7, some d, x, a10, a11, a12, a13, a14, a15] := by
  unfold b_law_f2
  refine w_then (w_set (WE.mono (Q := fun v s => v = .bl (allI d) ∧ s = st) ?_ ?_))
  · cases d with
    | tup xs =>
      have hok : ∀ x ∈ xs, D.ok x = true := fun x hx => okd_up (List.all_eq_true.mp (show xs.all (okd 59) = true from hd) x hx)
      (repeat (first | (with_reducible refine w_then ?_) | (with_reducible refine w_set ?_) | (with_reducible refine w_asg ?_) | (with_reducible refine w_do ?_) | (with_reducible refine w_ret ?_) | (with_reducible refine w_sif ?_) | (with_reducible refine w_par ?_) | (with_reducible refine w_skip ?_) | (with_reducible refine w_break ?_) | (with_reducible refine w_cont ?_) | (with_reducible refine w_tv ?_) | (with_reducible refine w_not ?_) | (with_reducible refine w_and ?_) | (with_reducible refine w_or ?_) | (with_reducible refine w_if ?_) | (with_reducible refine w_eand ?_) | (with_reducible refine w_eor ?_) | (with_reducible refine w_chain ?_) | (with_reducible refine w_op1 ?_) | (with_reducible refine w_enot ?_) | (with_reducible refine w_op2 ?_) | (with_reducible refine w_opA ?_) | (with_reducible refine w_opAS ?_) | (with_reducible refine w_meth ?_) | (with_reducible refine w_cons ?_) | (with_reducible refine w_nil ?_) | (with_reducible refine w_tup ?_) | (with_reducible refine w_lst ?_) | (with_reducible refine w_lstC ?_) | (with_reducible refine w_slice ?_) | (with_reducible refine w_psome ?_) | (with_reducible refine w_pnone ?_) | (with_reducible refine w_aug ?_) | (with_reducible refine w_call ?_) | (with_reducible refine w_lc ?_) | (with_reducible refine w_seqi ?_) | (with_reducible refine w_range1 ?_) | (with_reducible refine w_for ?_) | refine w_var rfl ?_ | (with_reducible refine w_c ?_) | refine ⟨_, rfl, ?_⟩ | refine ⟨Nat.le_of_ble_eq_true rfl, ?_⟩ | refine ⟨rfl, ?_⟩ | refine ⟨fun _ => ?_, fun h => absurd h.symm Bool.false_ne_true⟩ | refine ⟨fun h => absurd h Bool.false_ne_true, fun _ => ?_⟩ | refine ⟨fun _ => ?_, fun h => absurd h Bool.false_ne_true⟩ | refine ⟨fun h => absurd h.symm Bool.false_ne_true, fun _ => ?_⟩))
      refine ⟨_, tup_nnil hd, _, rfl, fun h1 => ?_, fun h1 => ?_⟩
      · (repeat (first | (with_reducible refine w_then ?_) | (with_reducible refine w_set ?_) | (with_reducible refine w_asg ?_) | (with_reducible refine w_do ?_) | (with_reducible refine w_ret ?_) | (with_reducible refine w_sif ?_) | (with_reducible refine w_par ?_) | (with_reducible refine w_skip ?_) | (with_reducible refine w_break ?_) | (with_reducible refine w_cont ?_) | (with_reducible refine w_tv ?_) | (with_reducible refine w_not ?_) | (with_reducible refine w_and ?_) | (with_reducible refine w_or ?_) | (with_reducible refine w_if ?_) | (with_reducible refine w_eand ?_) | (with_reducible refine w_eor ?_) | (with_reducible refine w_chain ?_) | (with_reducible refine w_op1 ?_) | (with_reducible refine w_enot ?_) | (with_reducible refine w_op2 ?_) | (with_reducible refine w_opA ?_) | (with_reducible refine w_opAS ?_) | (with_reducible refine w_meth ?_) | (with_reducible refine w_cons ?_) | (with_reducible refine w_nil ?_) | (with_reducible refine w_tup ?_) | (with_reducible refine w_lst ?_) | (with_reducible refine w_lstC ?_) | (with_reducible refine w_slice ?_) | (with_reducible refine w_psome ?_) | (with_reducible refine w_pnone ?_) | (with_reducible refine w_aug ?_) | (with_reducible refine w_call ?_) | (with_reducible refine w_lc ?_) | (with_reducible refine w_seqi ?_) | (with_reducible refine w_range1 ?_) | (with_reducible refine w_for ?_) | refine w_var rfl ?_ | (with_reducible refine w_c ?_) | refine ⟨_, rfl, ?_⟩ | refine ⟨Nat.le_of_ble_eq_true rfl, ?_⟩ | refine ⟨rfl, ?_⟩ | refine ⟨fun _ => ?_, fun h => absurd h.symm Bool.false_ne_true⟩ | refine ⟨fun h => absurd h Bool.false_ne_true, fun _ => ?_⟩ | refine ⟨fun _ => ?_, fun h => absurd h Bool.false_ne_true⟩ | refine ⟨fun h => absurd h.symm Bool.false_ne_true, fun _ => ?_⟩))
        refine ⟨_, _, compL_filterD (fun _ => .int 1) (fun x => !isI x) fun x hx => ⟨_, rfl, ?_, fun _ => ?_⟩, ?_⟩
        · refine w_not (w_tv (w_call (w_cons (w_var rfl (w_nil (plain_call (by simp [hok x hx]) (law_is_int_spec (hok x hx)) rfl ⟨_, rfl, rfl, rfl⟩))))))
        · exact w_c ⟨rfl, rfl⟩
        · refine w_lst (w_nil ⟨Nat.zero_le _, _, ones_nil _, ?_, rfl⟩)
          rw [filter_empty]
          simp [allI, h1]
      · refine ⟨?_, rfl⟩
        simp [allI, h1]
    | loc _ => cases hd
    | scr _ => cases hd
    | _ => (repeat (first | (with_reducible refine w_then ?_) | (with_reducible refine w_set ?_) | (with_reducible refine w_asg ?_) | (with_reducible refine w_do ?_) | (with_reducible refine w_ret ?_) | (with_reducible refine w_sif ?_) | (with_reducible refine w_par ?_) | (with_reducible refine w_skip ?_) | (with_reducible refine w_break ?_) | (with_reducible refine w_cont ?_) | (with_reducible refine w_tv ?_) | (with_reducible refine w_not ?_) | (with_reducible refine w_and ?_) | (with_reducible refine w_or ?_) | (with_reducible refine w_if ?_) | (with_reducible refine w_eand ?_) | (with_reducible refine w_eor ?_) | (with_reducible refine w_chain ?_) | (with_reducible refine w_op1 ?_) | (with_reducible refine w_enot ?_) | (with_reducible refine w_op2 ?_) | (with_reducible refine w_opA ?_) | (with_reducible refine w_opAS ?_) | (with_reducible refine w_meth ?_) | (with_reducible refine w_cons ?_) | (with_reducible refine w_nil ?_) | (with_reducible refine w_tup ?_) | (with_reducible refine w_lst ?_) | (with_reducible refine w_lstC ?_) | (with_reducible refine w_slice ?_) | (with_reducible refine w_psome ?_) | (with_reducible refine w_pnone ?_) | (with_reducible refine w_aug ?_) | (with_reducible refine w_call ?_) | (with_reducible refine w_lc ?_) | (with_reducible refine w_seqi ?_) | (with_reducible refine w_range1 ?_) | (with_reducible refine w_for ?_) | refine w_var rfl ?_ | (with_reducible refine w_c ?_) | refine ⟨_, rfl, ?_⟩ | refine ⟨Nat.le_of_ble_eq_true rfl, ?_⟩ | refine ⟨rfl, ?_⟩ | refine ⟨fun _ => ?_, fun h => absurd h.symm Bool.false_ne_true⟩ | refine ⟨fun h => absurd h Bool.false_ne_true, fun _ => ?_⟩ | refine ⟨fun _ => ?_, fun h => absurd h Bool.false_ne_true⟩ | refine ⟨fun h => absurd h.symm Bool.false_ne_true, fun _ => ?_⟩)); first | rfl | exact ⟨rfl, rfl⟩
  rintro v s ⟨rfl, rfl⟩
  refine w_then (w_set (WE.mono (Q := fun v s' => v = .bl (allW hi d) ∧ s' = s) ?_ ?_))
  · refine w_eand (w_var rfl ⟨_, rfl, fun h1 => ?_, fun h1 => ?_⟩)
    · cases d with
      | tup xs =>
        have h1 : (!xs.isEmpty && xs.all isI) = true := h1
        rw [Bool.and_eq_true] at h1
        obtain ⟨ns, rfl⟩ := isI_ints h1.2
        (repeat (first | (with_reducible refine w_then ?_) | (with_reducible refine w_set ?_) | (with_reducible refine w_asg ?_) | (with_reducible refine w_do ?_) | (with_reducible refine w_ret ?_) | (with_reducible refine w_sif ?_) | (with_reducible refine w_par ?_) | (with_reducible refine w_skip ?_) | (with_reducible refine w_break ?_) | (with_reducible refine w_cont ?_) | (with_reducible refine w_tv ?_) | (with_reducible refine w_not ?_) | (with_reducible refine w_and ?_) | (with_reducible refine w_or ?_) | (with_reducible refine w_if ?_) | (with_reducible refine w_eand ?_) | (with_reducible refine w_eor ?_) | (with_reducible refine w_chain ?_) | (with_reducible refine w_op1 ?_) | (with_reducible refine w_enot ?_) | (with_reducible refine w_op2 ?_) | (with_reducible refine w_opA ?_) | (with_reducible refine w_opAS ?_) | (with_reducible refine w_meth ?_) | (with_reducible refine w_cons ?_) | (with_reducible refine w_nil ?_) | (with_reducible refine w_tup ?_) | (with_reducible refine w_lst ?_) | (with_reducible refine w_lstC ?_) | (with_reducible refine w_slice ?_) | (with_reducible refine w_psome ?_) | (with_reducible refine w_pnone ?_) | (with_reducible refine w_aug ?_) | (with_reducible refine w_call ?_) | (with_reducible refine w_lc ?_) | (with_reducible refine w_seqi ?_) | (with_reducible refine w_range1 ?_) | (with_reducible refine w_for ?_) | refine w_var rfl ?_ | (with_reducible refine w_c ?_) | refine ⟨_, rfl, ?_⟩ | refine ⟨Nat.le_of_ble_eq_true rfl, ?_⟩ | refine ⟨rfl, ?_⟩ | refine ⟨fun _ => ?_, fun h => absurd h.symm Bool.false_ne_true⟩ | refine ⟨fun h => absurd h Bool.false_ne_true, fun _ => ?_⟩ | refine ⟨fun _ => ?_, fun h => absurd h Bool.false_ne_true⟩ | refine ⟨fun h => absurd h.symm Bool.false_ne_true, fun _ => ?_⟩))
        refine ⟨_, _, compL_filter (fun n => .int n) (fun _ => .int 1) (fun n => !(decide (0 ≤ n) && decide (n < hi))) (xs := ns) fun n _ => ⟨_, rfl, ?_, fun _ => ?_⟩, ?_⟩
        · refine w_not (w_tv (w_chain (w_c (w_var rfl ⟨_, rfl, fun h2 => ?_, fun h2 => ?_⟩))))
          · (repeat (first | (with_reducible refine w_then ?_) | (with_reducible refine w_set ?_) | (with_reducible refine w_asg ?_) | (with_reducible refine w_do ?_) | (with_reducible refine w_ret ?_) | (with_reducible refine w_sif ?_) | (with_reducible refine w_par ?_) | (with_reducible refine w_skip ?_) | (with_reducible refine w_break ?_) | (with_reducible refine w_cont ?_) | (with_reducible refine w_tv ?_) | (with_reducible refine w_not ?_) | (with_reducible refine w_and ?_) | (with_reducible refine w_or ?_) | (with_reducible refine w_if ?_) | (with_reducible refine w_eand ?_) | (with_reducible refine w_eor ?_) | (with_reducible refine w_chain ?_) | (with_reducible refine w_op1 ?_) | (with_reducible refine w_enot ?_) | (with_reducible refine w_op2 ?_) | (with_reducible refine w_opA ?_) | (with_reducible refine w_opAS ?_) | (with_reducible refine w_meth ?_) | (with_reducible refine w_cons ?_) | (with_reducible refine w_nil ?_) | (with_reducible refine w_tup ?_) | (with_reducible refine w_lst ?_) | (with_reducible refine w_lstC ?_) | (with_reducible refine w_slice ?_) | (with_reducible refine w_psome ?_) | (with_reducible refine w_pnone ?_) | (with_reducible refine w_aug ?_) | (with_reducible refine w_call ?_) | (with_reducible refine w_lc ?_) | (with_reducible refine w_seqi ?_) | (with_reducible refine w_range1 ?_) | (with_reducible refine w_for ?_) | refine w_var rfl ?_ | (with_reducible refine w_c ?_) | refine ⟨_, rfl, ?_⟩ | refine ⟨Nat.le_of_ble_eq_true rfl, ?_⟩ | refine ⟨rfl, ?_⟩ | refine ⟨fun _ => ?_, fun h => absurd h.symm Bool.false_ne_true⟩ | refine ⟨fun h => absurd h Bool.false_ne_true, fun _ => ?_⟩ | refine ⟨fun _ => ?_, fun h => absurd h Bool.false_ne_true⟩ | refine ⟨fun h => absurd h.symm Bool.false_ne_true, fun _ => ?_⟩))
            refine ⟨?_, rfl⟩
            rw [h2]; simp
          · refine ⟨_, rfl, ?_, rfl⟩
            rw [h2]; simp
        · exact w_c ⟨rfl, rfl⟩
        · refine w_lst (w_nil ⟨Nat.zero_le _, _, ones_nil _, ?_, rfl⟩)
          rw [filter_empty]
          have e : allW hi (.tup (ns.map D.int)) = (!(ns.map D.int).isEmpty && (ns.map D.int).all fun x => within x 0 (hi - 1)) := rfl
          rw [e, h1.1, List.all_map, Bool.true_and]
          congr 1
          refine congrArg (List.all ns) (funext fun n => ?_)
          show (!!(decide (0 ≤ n) && decide (n < hi))) = (decide (0 ≤ n) && decide (n ≤ hi - 1))
          rw [Bool.not_not]
          congr 1
          exact decide_eq_decide.mpr (by omega)
      | _ => cases h1
    · refine ⟨?_, rfl⟩
      cases d with
      | tup xs =>
        have h1 : (!xs.isEmpty && xs.all isI) = false := h1
        show D.bl (!xs.isEmpty && xs.all isI) = .bl (!xs.isEmpty && xs.all fun x => within x 0 (hi - 1))
        rw [h1]
        cases hw : (!xs.isEmpty && xs.all fun x => within x 0 (hi - 1)) with
        | false => rfl
        | true =>
          rw [Bool.and_eq_true] at hw
          rw [hw.1, within_isI hw.2] at h1
          cases h1
      | _ => rfl
  rintro v s' ⟨rfl, rfl⟩
  refine w_then (w_set (WE.mono (Q := fun v s => v = .bl (lotD d hi) ∧ s = s') ?_ ?_))
  · refine w_eand (w_var rfl ⟨_, rfl, fun h1 => ?_, fun h1 => ?_⟩)
    · cases d with
      | tup xs =>
        have h1 : (!xs.isEmpty && xs.all fun x => within x 0 (hi - 1)) = true := h1
        rw [Bool.and_eq_true] at h1
        obtain ⟨ns, rfl⟩ := within_ints h1.2
        refine w_op2 (w_lc (w_zip2 (w_var rfl (w_slice (w_var rfl (w_psome (w_c ⟨_, rfl, w_pnone ⟨_, rfl, _, rfl, ?_⟩⟩)))))))
        have hc : cut (ns.map D.int) (some 1) none = (ns.map D.int).drop 1 := by
          unfold cut cutAt
          dsimp only
          rw [if_neg (by omega)]
          cases ns with
          | nil => rfl
          | cons n ns =>
            have : min (1 : Int).toNat ((n :: ns).map D.int).length = 1 := by simp
            rw [this, List.take_of_length_le (by simp)]
        rw [hc, zip_drop]
        refine ⟨_, _, compL_filter (fun p : Int × Int => .tup [.int p.1, .int p.2]) (fun _ => .int 1) (fun p => decide (p.2 ≤ p.1)) (xs := ns.zip (ns.drop 1)) fun p _ => ⟨_, rfl, ?_, fun _ => ?_⟩, ?_⟩
        · (repeat (first | (with_reducible refine w_then ?_) | (with_reducible refine w_set ?_) | (with_reducible refine w_asg ?_) | (with_reducible refine w_do ?_) | (with_reducible refine w_ret ?_) | (with_reducible refine w_sif ?_) | (with_reducible refine w_par ?_) | (with_reducible refine w_skip ?_) | (with_reducible refine w_break ?_) | (with_reducible refine w_cont ?_) | (with_reducible refine w_tv ?_) | (with_reducible refine w_not ?_) | (with_reducible refine w_and ?_) | (with_reducible refine w_or ?_) | (with_reducible refine w_if ?_) | (with_reducible refine w_eand ?_) | (with_reducible refine w_eor ?_) | (with_reducible refine w_chain ?_) | (with_reducible refine w_op1 ?_) | (with_reducible refine w_enot ?_) | (with_reducible refine w_op2 ?_) | (with_reducible refine w_opA ?_) | (with_reducible refine w_opAS ?_) | (with_reducible refine w_meth ?_) | (with_reducible refine w_cons ?_) | (with_reducible refine w_nil ?_) | (with_reducible refine w_tup ?_) | (with_reducible refine w_lst ?_) | (with_reducible refine w_lstC ?_) | (with_reducible refine w_slice ?_) | (with_reducible refine w_psome ?_) | (with_reducible refine w_pnone ?_) | (with_reducible refine w_aug ?_) | (with_reducible refine w_call ?_) | (with_reducible refine w_lc ?_) | (with_reducible refine w_seqi ?_) | (with_reducible refine w_range1 ?_) | (with_reducible refine w_for ?_) | refine w_var rfl ?_ | (with_reducible refine w_c ?_) | refine ⟨_, rfl, ?_⟩ | refine ⟨Nat.le_of_ble_eq_true rfl, ?_⟩ | refine ⟨rfl, ?_⟩ | refine ⟨fun _ => ?_, fun h => absurd h.symm Bool.false_ne_true⟩ | refine ⟨fun h => absurd h Bool.false_ne_true, fun _ => ?_⟩ | refine ⟨fun _ => ?_, fun h => absurd h Bool.false_ne_true⟩ | refine ⟨fun h => absurd h.symm Bool.false_ne_true, fun _ => ?_⟩))
          rfl
        · exact w_c ⟨rfl, rfl⟩
        · refine w_lst (w_nil ⟨Nat.zero_le _, _, ones_nil _, ?_, rfl⟩)
          rw [filter_empty]
          have e : lotD (.tup (ns.map D.int)) hi = (!(ns.map D.int).isEmpty && ((ns.map D.int).all (fun x => within x 0 (hi - 1)) && (match ints? (ns.map D.int) with | some ns => adjI ns | none => false))) := rfl
          rw [e, h1.1, h1.2, ints_map]
          show D.bl _ = D.bl (true && (true && adjI ns))
          rw [Bool.true_and, Bool.true_and]
          congr 1
          refine congrArg (List.all _) (funext fun p => ?_)
          rw [← decide_not]
          exact decide_eq_decide.mpr (by omega)
      | _ => cases h1
    · refine ⟨?_, rfl⟩
      cases d with
      | tup xs =>
        have h1 : (!xs.isEmpty && xs.all fun x => within x 0 (hi - 1)) = false := h1
        show D.bl (!xs.isEmpty && xs.all fun x => within x 0 (hi - 1)) = .bl (!xs.isEmpty && (xs.all (fun x => within x 0 (hi - 1)) && (match ints? xs with | some ns => adjI ns | none => false)))
        rw [← Bool.and_assoc, h1, Bool.false_and]
      | _ => rfl
  rintro v s ⟨rfl, rfl⟩
  refine w_sif (w_not (w_tv (w_call (w_cons (w_call (w_cons (w_var rfl (w_cons (w_var rfl (w_nil ?_)))))))))) 
  refine plain_call (by simp [hd, D.ok, okd]) (is_index_lot_spec hd hl) rfl ?_
  refine w_cons (w_var rfl (w_nil (alike_call rfl rfl rfl ⟨_, rfl, ?_⟩)))
  (repeat (first | (with_reducible refine w_then ?_) | (with_reducible refine w_set ?_) | (with_reducible refine w_asg ?_) | (with_reducible refine w_do ?_) | (with_reducible refine w_ret ?_) | (with_reducible refine w_sif ?_) | (with_reducible refine w_par ?_) | (with_reducible refine w_skip ?_) | (with_reducible refine w_break ?_) | (with_reducible refine w_cont ?_) | (with_reducible refine w_tv ?_) | (with_reducible refine w_not ?_) | (with_reducible refine w_and ?_) | (with_reducible refine w_or ?_) | (with_reducible refine w_if ?_) | (with_reducible refine w_eand ?_) | (with_reducible refine w_eor ?_) | (with_reducible refine w_chain ?_) | (with_reducible refine w_op1 ?_) | (with_reducible refine w_enot ?_) | (with_reducible refine w_op2 ?_) | (with_reducible refine w_opA ?_) | (with_reducible refine w_opAS ?_) | (with_reducible refine w_meth ?_) | (with_reducible refine w_cons ?_) | (with_reducible refine w_nil ?_) | (with_reducible refine w_tup ?_) | (with_reducible refine w_lst ?_) | (with_reducible refine w_lstC ?_) | (with_reducible refine w_slice ?_) | (with_reducible refine w_psome ?_) | (with_reducible refine w_pnone ?_) | (with_reducible refine w_aug ?_) | (with_reducible refine w_call ?_) | (with_reducible refine w_lc ?_) | (with_reducible refine w_seqi ?_) | (with_reducible refine w_range1 ?_) | (with_reducible refine w_for ?_) | refine w_var rfl ?_ | (with_reducible refine w_c ?_) | refine ⟨_, rfl, ?_⟩ | refine ⟨Nat.le_of_ble_eq_true rfl, ?_⟩ | refine ⟨rfl, ?_⟩ | refine ⟨fun _ => ?_, fun h => absurd h.symm Bool.false_ne_true⟩ | refine ⟨fun h => absurd h Bool.false_ne_true, fun _ => ?_⟩ | refine ⟨fun _ => ?_, fun h => absurd h Bool.false_ne_true⟩ | refine ⟨fun h => absurd h.symm Bool.false_ne_true, fun _ => ?_⟩))
  exact ⟨_, rfl⟩
end Sw.K01

/-! Pk01c: k01's plain law. -/
set_option linter.all false
set_option maxRecDepth 100000
set_option maxHeartbeats 4000000
namespace Sw.K01
open PySem (Str)
open Lib
theorem okd2 {d : D} (h : okd 2 d = true) : d.ok = true := okd_le h (by decide)
theorem tup_ok {xs : List D} (h : ∀ x ∈ xs, okd 2 x = true) : (D.tup xs).ok = true := List.all_eq_true.mpr fun x hx => okd_le (h x hx) (by decide)
theorem lst_ok {xs : List D} (h : ∀ x ∈ xs, okd 2 x = true) : (D.lst xs).ok = true := List.all_eq_true.mpr fun x hx => okd_le (h x hx) (by decide)
/-- the comparison of a number with bounds, as the law has it -/
theorem right_within {d : D} (hd : d.ok = true) {lo hi : Int} {e : Env} {st : Store} {i j k : Nat} (h1 : e[i]? = some (some d)) (h2 : e[j]? = some (some (.int lo))) (h3 : e[k]? = some (some (.int hi))) {Q : D → Store → Prop} (q : Q (.bl (within d lo hi)) st) :
    WE (eAnd (eCall F__law_is_int (aCons (eVar i) aNil)) (eChain vLe vLe (eVar j) (eVar i) (eVar k))) e st Q := by
  refine w_eand (w_call (w_cons (w_var h1 (w_nil (plain_call (by simp [hd]) (law_is_int_spec hd) rfl ⟨_, rfl, fun h => ?_, fun h => ?_⟩)))))
  · cases d with
    | int n =>
      refine w_chain (w_var h2 (w_var h1 ⟨_, rfl, fun h4 => w_var h3 ⟨_, rfl, ?_⟩, fun h4 => ?_⟩))
      · have : within (.int n) lo hi = decide (n ≤ hi) := by
          show (decide (lo ≤ n) && decide (n ≤ hi)) = _
          rw [h4, Bool.true_and]
        rw [← this]; exact q
      · have : within (.int n) lo hi = false := by
          show (decide (lo ≤ n) && decide (n ≤ hi)) = _
          rw [h4, Bool.false_and]
        rw [← this]; exact q
    | _ => cases h
  · have : within d lo hi = isI d := by
      cases d with
      | int n => cases h
      | _ => rfl
    rw [← this]; exact q
/-- draws one after another -/
theorem draws {P : D → Prop} {y : Ex} {e : Env} {n : Int} (hn : n ≤ 1000) {st : Store} (h0 : ∃ c, st = [c] ∧ BagC c) (h : ∀ (k : D) (c : Cell), BagC c → WE y (e.set 13 (some k)) [c] fun v s => P v ∧ ∃ c, s = [c] ∧ BagC c) :
    ∃ ys s', compL (gName 13) tYes y (rangeL 0 n) e st = some (ys, s') ∧ (∀ v ∈ ys, P v) ∧ (∃ c, s' = [c] ∧ BagC c) ∧ ys.length ≤ n.toNat := by
  obtain ⟨ys, s', h1, h2, h3, h4⟩ := compL_all (g := gName 13) (c := tYes) (y := y) (e := e) (fun st => ∃ c, st = [c] ∧ BagC c) P (ds := rangeL 0 n) h0 fun d _ st hs => by
    obtain ⟨c, rfl, hc⟩ := hs
    exact ⟨_, _, rfl, true, _, rfl, fun _ => h d c hc, fun h => absurd h.symm Bool.false_ne_true⟩
  refine ⟨ys, s', h1, h2, h3, ?_⟩
  have : (rangeL 0 n).length = n.toNat := by unfold rangeL; rw [List.length_map, List.length_range, Int.sub_zero]
  omega
def E0 (ns : List Int) : Env := [some (.scr ns), some (.loc 0), none, none, none, none, none, none, none, none, none, none, none, none, none, none]
theorem f3_body {ns : List Int} {t : D} {c : Cell} (hc : BagC c) : WS b_law_f3 [some (.scr ns), some (.loc 0), some t, none, none, none, none, none, none, none, none, none, none, none, none, none] [c] fun r s => ∃ e2 c', r = .nx e2 ∧ wipe e2 [2, 3, 4, 5, 6, 7, 8, 9, 10, 11] = E0 ns ∧ s = [c'] ∧ BagC c' := by
  unfold b_law_f3
  refine w_then (w_par (w_cons (w_call (w_cons (w_var rfl (w_nil (word_call hc rfl fun w c1 hc1 hw => ?_)))))))
  refine w_cons (w_call (w_cons (w_var rfl (w_cons (w_lst ?_)))))
  (repeat (first | (with_reducible refine w_tv ?_) | (with_reducible refine w_not ?_) | (with_reducible refine w_op1 ?_) | (with_reducible refine w_enot ?_) | (with_reducible refine w_op2 ?_) | (with_reducible refine w_opA ?_) | (with_reducible refine w_opAS ?_) | (with_reducible refine w_meth ?_) | (with_reducible refine w_cons ?_) | (with_reducible refine w_nil ?_) | (with_reducible refine w_tup ?_) | (with_reducible refine w_lst ?_) | (with_reducible refine w_lstC ?_) | (with_reducible refine w_slice ?_) | (with_reducible refine w_psome ?_) | (with_reducible refine w_pnone ?_) | (with_reducible refine w_seqi ?_) | (with_reducible refine w_range1 ?_) | refine w_var rfl ?_ | (with_reducible refine w_c ?_) | refine ⟨_, rfl, ?_⟩ | refine ⟨Nat.le_of_ble_eq_true rfl, ?_⟩ | refine ⟨rfl, ?_⟩ | refine ⟨fun _ => ?_, fun h => absurd h.symm Bool.false_ne_true⟩ | refine ⟨fun h => absurd h Bool.false_ne_true, fun _ => ?_⟩ | refine ⟨fun _ => ?_, fun h => absurd h Bool.false_ne_true⟩ | refine ⟨fun h => absurd h.symm Bool.false_ne_true, fun _ => ?_⟩))
  refine some_call hc1 rfl (.inl rfl) rfl (by decide) (by decide) fun d c2 hc2 _ hd => ?_
  refine w_nil ⟨_, _, rfl, ?_⟩
  refine w_then (w_asg (w_tup (w_cons (w_op2 (w_call (w_cons (w_var rfl (w_cons (w_c (w_nil ?_)))))))))) 
  refine take_call hc2 rfl (by decide) (by decide) fun lo c3 hc3 lo0 lo1 => ?_
  refine w_c ⟨_, rfl, w_cons (w_call (w_cons (w_var rfl (w_cons (w_c (w_nil ?_))))))⟩
  refine take_call hc3 rfl (by decide) (by decide) fun hi c4 hc4 hi0 hi1 => ?_
  refine w_nil ⟨Nat.le_of_ble_eq_true rfl, _, _, rfl, ?_⟩
  have hwo := okd2 hw
  -- names and integers
  refine w_then (w_sif (w_not (w_tv (w_call (w_cons (w_lst (w_cons (w_call (w_cons (w_var rfl (w_nil ?_))))))))))) 
  refine plain_call (by simp [hwo]) (is_name_spec hwo) rfl (w_cons (w_call (w_cons (w_var rfl (w_nil ?_)))))
  refine plain_call (by simp [hd]) (is_integer_spec hd) rfl (w_nil ⟨Nat.le_of_ble_eq_true rfl, ?_⟩)
  refine w_cons (w_lst (w_cons (w_call (w_cons (w_var rfl (w_nil ?_))))))
  refine plain_call (by simp [hwo]) (law_is_name_spec hwo) rfl (w_cons (w_call (w_cons (w_var rfl (w_nil ?_)))))
  refine plain_call (by simp [hd]) (law_is_int_spec hd) rfl (w_nil ⟨Nat.le_of_ble_eq_true rfl, w_nil ?_⟩)
  refine alike_call rfl rfl rfl ⟨_, rfl, fun h => absurd h Bool.false_ne_true, fun _ => w_skip ?_⟩
  -- within
  refine w_then (w_sif (w_not (w_tv (w_call (w_cons (w_call (w_cons (w_var rfl (w_cons (w_var rfl (w_cons (w_var rfl (w_nil ?_)))))))))))) )
  refine plain_call (by simp [hd, D.ok, okd]) (is_within_spec hd) rfl (w_cons (right_within hd rfl rfl rfl (w_nil ?_)))
  refine alike_call rfl rfl rfl ⟨_, rfl, fun h => absurd h Bool.false_ne_true, fun _ => w_skip ?_⟩
  -- a row
  refine w_then (w_set (w_opA (w_cons (w_lc (w_range1 (w_call (w_cons (w_var rfl (w_cons (w_c (w_nil ?_))))))))))) 
  refine take_call hc4 rfl (by decide) (by decide) fun m c5 hc5 m0 m1 => ?_
  refine ⟨m, rfl, ⟨by rw [PySem.sizeLine_eq]; omega, by omega⟩, ?_⟩
  obtain ⟨row, s6, h6, row2, ⟨c6, rfl, hc6⟩, rowl⟩ := draws (P := fun v => okd 2 v = true) (y := eCall F__law_word (aCons (eVar 1) aNil)) (n := m) (e := wipe [some (.scr ns), some (.loc 0), some t, some w, some d, some (.int (lo - 1)), some (.int hi), none, none, none, none, none, none, none, none, none] [12, 13]) (st := [c5]) (by omega) ⟨_, rfl, hc5⟩ fun k c hc => by
    refine w_call (w_cons (w_var rfl (w_nil (word_call hc rfl fun w' c' hc' hw' => ⟨hw', _, rfl, hc'⟩))))
  refine ⟨row, _, h6, w_nil ⟨.tup row, rfl, ?_⟩⟩
  have row2 : ∀ x ∈ row, okd 2 x = true := row2
  have rowl : row.length ≤ 4 := by omega
  have hT : (D.tup row).ok = true := tup_ok row2
  have hL : (D.lst row).ok = true := lst_ok row2
  have hR : (D.tup (row ++ row)).ok = true := tup_ok fun x hx => (List.mem_append.mp hx).elim (row2 x) (row2 x)
  refine w_then (w_for (w_seqi (w_tup (w_cons (w_var rfl (w_cons (w_opA (w_cons (w_var rfl (w_nil ⟨.lst row, rfl, ?_⟩)))))))))) 
  refine w_cons (w_c (w_cons (w_op2 (w_var rfl (w_var rfl ⟨.tup (row ++ row), if_pos (by rw [PySem.sizeLine_eq]; omega), ?_⟩)))))
  refine w_cons (w_c (w_nil ⟨Nat.le_of_ble_eq_true rfl, _, rfl, ?_⟩))
  refine w_forL (fun ds e st => e = [some (.scr ns), some (.loc 0), some t, some w, some d, some (.int (lo - 1)), some (.int hi), some (.tup row), none, none, none, none, none, none, none, none] ∧ st = [c6] ∧ ∀ x ∈ ds, D.ok x = true ∧ ∀ xs, x = .tup xs → xs.length ≤ 1000) ⟨rfl, rfl, ?_⟩ ?_ ?_
  · intro x hx
    simp only [List.mem_cons, List.not_mem_nil, or_false] at hx
    rcases hx with rfl | rfl | rfl | rfl | rfl
    · exact ⟨hT, fun xs e => by cases e; omega⟩
    · exact ⟨hL, fun xs e => by cases e⟩
    · exact ⟨rfl, fun xs e => by cases e⟩
    · exact ⟨hR, fun xs e => by cases e; rw [List.length_append]; omega⟩
    · exact ⟨rfl, fun xs e => by cases e⟩
  · intro x ds e st hI
    obtain ⟨rfl, rfl, hx⟩ := hI
    refine ⟨_, _, rfl, (f1_body (hx x (by simp)).1 (hx x (by simp)).2).mono fun r s hr => ?_⟩
    obtain ⟨rfl, y, rfl⟩ := hr
    exact ⟨rfl, rfl, fun z hz => hx z (List.mem_cons_of_mem _ hz)⟩
  intro e st hI
  obtain ⟨rfl, rfl, _⟩ := hI
  -- some things
  refine w_then (w_set (w_opA (w_cons (w_lc (w_range1 (w_call (w_cons (w_var rfl (w_cons (w_c (w_nil ?_))))))))))) 
  refine take_call hc6 rfl (by decide) (by decide) fun m7 c7 hc7 m70 m71 => ?_
  refine ⟨m7, rfl, ⟨by rw [PySem.sizeLine_eq]; omega, by omega⟩, ?_⟩
  have some2 : ∀ (e : Env) (c : Cell), e[1]? = some (some (.loc 0)) → BagC c → WE (eCall F__law_some (aCons (eVar 1) (aCons (eLst (aCons (eC (.int 0)) (aCons (eC (.int 1)) (aCons (eC (.int 2)) (aCons (eC (.int 3)) (aCons (eC (.int 4)) (aCons (op1 vNeg (eC (.int 1))) (aCons (eC (.bl true)) (aCons (eC .non) (aCons (eC (.str "1")) (aCons (eTup (aCons (eC (.int 0)) aNil)) aNil))))))))))) aNil))) e [c] fun v s => okd 2 v = true ∧ ∃ c, s = [c] ∧ BagC c := fun e c he hc => by
    refine w_call (w_cons (w_var he (w_cons (w_lst ?_))))
    (repeat (first | (with_reducible refine w_tv ?_) | (with_reducible refine w_not ?_) | (with_reducible refine w_op1 ?_) | (with_reducible refine w_enot ?_) | (with_reducible refine w_op2 ?_) | (with_reducible refine w_opA ?_) | (with_reducible refine w_opAS ?_) | (with_reducible refine w_meth ?_) | (with_reducible refine w_cons ?_) | (with_reducible refine w_nil ?_) | (with_reducible refine w_tup ?_) | (with_reducible refine w_lst ?_) | (with_reducible refine w_lstC ?_) | (with_reducible refine w_slice ?_) | (with_reducible refine w_psome ?_) | (with_reducible refine w_pnone ?_) | (with_reducible refine w_seqi ?_) | (with_reducible refine w_range1 ?_) | refine w_var rfl ?_ | (with_reducible refine w_c ?_) | refine ⟨_, rfl, ?_⟩ | refine ⟨Nat.le_of_ble_eq_true rfl, ?_⟩ | refine ⟨rfl, ?_⟩ | refine ⟨fun _ => ?_, fun h => absurd h.symm Bool.false_ne_true⟩ | refine ⟨fun h => absurd h Bool.false_ne_true, fun _ => ?_⟩ | refine ⟨fun _ => ?_, fun h => absurd h Bool.false_ne_true⟩ | refine ⟨fun h => absurd h.symm Bool.false_ne_true, fun _ => ?_⟩))
    refine some_call hc rfl (.inl rfl) rfl (by decide) (by decide) fun d c' hc' hm _ => ⟨?_, _, rfl, hc'⟩
    exact List.all_eq_true.mp (show (_ : List D).all (okd 2) = true from rfl) d hm
  obtain ⟨things, s8, h8, th2, ⟨c8, rfl, hc8⟩, thl⟩ := draws (P := fun v => okd 2 v = true) (y := _) (n := m7) (e := wipe [some (.scr ns), some (.loc 0), some t, some w, some d, some (.int (lo - 1)), some (.int hi), some (.tup row), none, none, none, none, none, none, none, none] [12, 13]) (st := [c7]) (by omega) ⟨_, rfl, hc7⟩ fun k c hc => some2 _ c rfl hc
  have th2 : ∀ x ∈ things, okd 2 x = true := th2
  refine ⟨things, _, h8, w_nil ⟨.tup things, rfl, ?_⟩⟩
  -- a lot
  refine w_then (w_set (w_opA (w_cons (w_op1 (w_lc (w_range1 (w_c ⟨3, rfl, ⟨by decide, by decide⟩, ?_⟩))))))) 
  obtain ⟨lots, s9, h9, lt2, ⟨c9, rfl, hc9⟩, ltl⟩ := draws (P := fun v => ∃ i : Int, v = .int i) (y := eCall F__law_take (aCons (eVar 1) (aCons (eC (.int 5)) aNil))) (n := 3) (e := wipe [some (.scr ns), some (.loc 0), some t, some w, some d, some (.int (lo - 1)), some (.int hi), some (.tup row), none, none, some (.tup things), none, none, none, none, none] [12, 13]) (st := [c8]) (by decide) ⟨_, rfl, hc8⟩ fun k c hc => by
    refine w_call (w_cons (w_var rfl (w_cons (w_c (w_nil (take_call hc rfl (by decide) (by decide) fun v c' hc' _ _ => ⟨⟨v, rfl⟩, _, rfl, hc'⟩))))))
  have hlots : ∃ ks : List Int, lots = ks.map D.int ∧ ks.length ≤ 3 := by
    have : ∀ l : List D, (∀ v ∈ l, ∃ i : Int, v = .int i) → ∃ ks : List Int, l = ks.map D.int := fun l => by
      induction l with
      | nil => exact fun _ => ⟨[], rfl⟩
      | cons x l ih =>
        intro h
        obtain ⟨i, rfl⟩ := h x (by simp)
        obtain ⟨ks, rfl⟩ := ih fun v hv => h v (List.mem_cons_of_mem _ hv)
        exact ⟨i :: ks, rfl⟩
    obtain ⟨ks, e⟩ := this lots lt2
    refine ⟨ks, e, ?_⟩
    rw [e, List.length_map] at ltl
    exact ltl
  obtain ⟨ks, rfl, hks⟩ := hlots
  have hsort : vSortSet [c9] (.lst (ks.map D.int)) = some (.lst ((sortI (dedup ks)).map D.int)) := by
    show (match ints? (ks.map D.int) with | some ns => if ns.length < 64 then some (D.lst ((sortI (dedup ns)).map D.int)) else none | none => none) = _
    rw [ints_map]
    dsimp only
    rw [if_pos (by omega)]
  refine ⟨_, _, h9, _, hsort, w_nil ⟨.tup ((sortI (dedup ks)).map D.int), rfl, ?_⟩⟩
  generalize hlot : (sortI (dedup ks)).map D.int = lot
  have lotl : lot.length ≤ 3 := by
    rw [← hlot, List.length_map, (sortI_perm (dedup ks)).length_eq]
    have := (once_len ks [] List.nodup_nil).1
    have e : (dedup ks).length = (once ks).length := rfl
    rw [e]
    unfold once
    simp at this
    omega
  have lot2 : ∀ x ∈ lot, okd 2 x = true := fun x hx => by
    rw [← hlot] at hx
    obtain ⟨i, _, rfl⟩ := List.mem_map.mp hx
    rfl
  refine w_for (w_seqi (w_tup (w_cons (w_var rfl (w_cons (w_var rfl (w_cons (w_opA (w_cons (w_var rfl (w_nil ⟨.lst lot, rfl, ?_⟩)))))))))))
  refine w_cons (w_op1 (w_var rfl ⟨.tup lot.reverse, rfl, w_cons (w_op2 (w_var rfl (w_var rfl ⟨.tup (lot ++ lot), if_pos (by rw [PySem.sizeLine_eq]; omega), ?_⟩)))⟩))
  refine w_cons (w_tup (w_nil ⟨Nat.zero_le _, w_cons (w_c (w_cons (w_c (w_nil ⟨Nat.le_of_ble_eq_true rfl, _, rfl, ?_⟩))))⟩))
  refine w_forL (fun ds e st => e = [some (.scr ns), some (.loc 0), some t, some w, some d, some (.int (lo - 1)), some (.int hi), some (.tup row), none, none, some (.tup things), some (.tup lot), none, none, none, none] ∧ st = [c9] ∧ ∀ x ∈ ds, D.ok x = true ∧ ∀ xs, x = .tup xs → xs.length < 64) ⟨rfl, rfl, ?_⟩ ?_ ?_
  · intro x hx
    simp only [List.mem_cons, List.not_mem_nil, or_false] at hx
    rcases hx with rfl | rfl | rfl | rfl | rfl | rfl | rfl | rfl
    · exact ⟨tup_ok th2, fun xs e => by cases e; omega⟩
    · exact ⟨tup_ok lot2, fun xs e => by cases e; omega⟩
    · exact ⟨lst_ok lot2, fun xs e => by cases e⟩
    · exact ⟨tup_ok fun x hx => lot2 x (List.mem_reverse.mp hx), fun xs e => by cases e; rw [List.length_reverse]; omega⟩
    · exact ⟨tup_ok fun x hx => (List.mem_append.mp hx).elim (lot2 x) (lot2 x), fun xs e => by cases e; rw [List.length_append]; omega⟩
    · exact ⟨rfl, fun xs e => by cases e; decide⟩
    · exact ⟨rfl, fun xs e => by cases e⟩
    · exact ⟨rfl, fun xs e => by cases e⟩
  · intro x ds e st hI
    obtain ⟨rfl, rfl, hx⟩ := hI
    refine ⟨_, _, rfl, (f2_body (hx x (by simp)).1 (hx x (by simp)).2).mono fun r s hr => ?_⟩
    obtain ⟨rfl, y, rfl⟩ := hr
    exact ⟨rfl, rfl, fun z hz => hx z (List.mem_cons_of_mem _ hz)⟩
  intro e st hI
  obtain ⟨rfl, rfl, _⟩ := hI
  exact ⟨_, _, rfl, rfl, rfl, hc9⟩
theorem law_true (ns : List Int) (_ : ns.length ≤ 63) : ∃ st, F_law [.scr ns] [] = some (.ok (.bl true), st) := by
  refine ⟨[], fn_own rfl rfl ?_⟩
  show WS b_law [some (.scr ns), none, none, none, none, none, none, none, none, none, none, none, none, none, none, none] [] _
  unfold b_law
  refine w_then (w_set (w_call (w_cons (w_var rfl (w_nil (bag_call fun c hc => ?_))))))
  refine w_then (w_for (w_range1 (w_c ⟨10, rfl, ⟨by decide, by decide⟩, ?_⟩)))
  refine w_forL (fun _ e st => e = E0 ns ∧ ∃ c, st = [c] ∧ BagC c) ⟨rfl, c, rfl, hc⟩ ?_ ?_
  · intro d ds e st hI
    obtain ⟨rfl, c, rfl, hc⟩ := hI
    refine ⟨_, _, rfl, (f3_body (ns := ns) (t := d) hc).mono fun r s hr => ?_⟩
    obtain ⟨e2, c', rfl, h2, rfl, hc'⟩ := hr
    exact ⟨h2, c', rfl, hc'⟩
  intro e st hI
  exact w_ret (w_c rfl)
end Sw.K01

namespace Sw.K01
open PySem PySem.Spec PyProof.Rows L2 Lib
def top (i : Nat) : Stmt := PySem.Challenge.pw_smallwatchers_k01_forms_of_any_values.main.body.getD i (.Pass ⟨0, 0, 0, 0⟩)
def fr : List Str := ["abs", "all", "bool", "int", "isinstance", "len", "list", "range", "set", "sorted", "str", "tuple", "zip"]
def cs : List (Str × D) := [("LETTERS", g_LETTERS), ("RESERVED", g_RESERVED), ("MOST_NAME", g_MOST_NAME)]
theorem ok_is_integer {P : Program} {w : World} {K : Frag} {mg : Str → Option Value} {base : Heap} {f : Addr} {fd : FuncData} (MO : Mo K mg fr cs) (F : FunD K "is_integer" "is_integer" (defArgs (top 4)) (defBody (top 4)) (defScope (top 4)) [] [] f fd) (hm : mg "is_integer" = some (.ref f))  :
    Callee P w K mg base "is_integer" F_is_integer 1 1 :=
  callee_of (N := ["thing"]) (ps := ["thing"]) (k := 0) (c := b_is_integer) F hm (by kernel_rfl) (fun _ _ _ _ _ _ us hl => match us, hl with | [_], _ => rfl) fun cdv A outer s H E hN hr => by
    have hu := room66 hr
    have hu1 := room1 hr
    have hc : (cxOf (L2.CX P w) P w K mg base ["thing"] "is_integer" (defScope (top 4)) f cdv A outer s H E).calm = true := rfl
    exact (rs_one (rs_ret (re_and (re_isi (f_v (i := 0) (by kernel_rfl)) (gl_of (by kernel_rfl)) (MO.free "isinstance" (by kernel_rfl)) (gl_of (by kernel_rfl)) (MO.free "int" (by kernel_rfl)) rfl) (re_one (re_not (re_isi (f_v (i := 0) (by kernel_rfl)) (gl_of (by kernel_rfl)) (MO.free "isinstance" (by kernel_rfl)) (gl_of (by kernel_rfl)) (MO.free "bool" (by kernel_rfl)) rfl))))))
theorem ok_is_name {P : Program} {w : World} {K : Frag} {mg : Str → Option Value} {base : Heap} {f : Addr} {fd : FuncData} (MO : Mo K mg fr cs) (F : FunD K "is_name" "is_name" (defArgs (top 6)) (defBody (top 6)) (defScope (top 6)) [] [] f fd) (hm : mg "is_name" = some (.ref f))  :
    Callee P w K mg base "is_name" F_is_name 1 1 :=
  callee_of (N := ["thing", ".0", "sign"]) (ps := ["thing"]) (k := 0) (c := b_is_name) F hm (by kernel_rfl) (fun _ _ _ _ _ _ us hl => match us, hl with | [_], _ => rfl) fun cdv A outer s H E hN hr => by
    have hu := room66 hr
    have hu1 := room1 hr
    have hc : (cxOf (L2.CX P w) P w K mg base ["thing", ".0", "sign"] "is_name" (defScope (top 6)) f cdv A outer s H E).calm = true := rfl
    exact (rs_cons (rs_if (rt_w (rw_or (rt_not (rt_val (re_isi (f_v (i := 0) (by kernel_rfl)) (gl_of (by kernel_rfl)) (MO.free "isinstance" (by kernel_rfl)) (gl_of (by kernel_rfl)) (MO.free "str" (by kernel_rfl)) rfl))) (rw_or (rt_not (rt_chain o_le o_le isB_le isB_le re_int (re_bi c_len (gl_of (by kernel_rfl)) (MO.free "len" (by kernel_rfl)) rfl (ra_cons (f_v (i := 0) (by kernel_rfl)) ra_nil)) (f_glob MO 2 rfl (by kernel_rfl) (by kernel_rfl)))) (rw_or1 (rt_cmp (o_in hu) isB_in (f_v (i := 0) (by kernel_rfl)) (f_glob MO 1 rfl (by kernel_rfl) (by kernel_rfl)))))))
  (rs_one (rs_ret re_bl))
  rs_nil)
  (rs_one (rs_ret (re_bi (c_all hc) (gl_of (by kernel_rfl)) (MO.free "all" (by kernel_rfl)) rfl (ra_cons (re_lc (own := [(".0", 1), ("sign", 2)]) hc hN (ri_seq (f_v (i := 0) (by kernel_rfl))) (blkB_ok (by kernel_rfl)) (fun _ _ _ _ _ => (f_gnamew (i := 2) (by kernel_rfl) hN (by kernel_rfl) (.inr (eqK_ok (by kernel_rfl))))) (fun _ _ _ _ _ => rts_nil) (fun _ _ _ _ _ => (re_cmp (o_in hu) (f_v (i := 2) (by kernel_rfl)) (f_glob MO 0 rfl (by kernel_rfl) (by kernel_rfl))))) ra_nil)))))
theorem ok__law_take {P : Program} {w : World} {K : Frag} {mg : Str → Option Value} {base : Heap} {f : Addr} {fd : FuncData} (MO : Mo K mg fr cs) (F : FunD K "_law_take" "_law_take" (defArgs (top 10)) (defBody (top 10)) (defScope (top 10)) [] [] f fd) (hm : mg "_law_take" = some (.ref f))  :
    Callee P w K mg base "_law_take" F__law_take 2 1 :=
  callee_of (N := ["bag", "many", "cell", "stirred", "value", "begin", "second"]) (ps := ["bag", "many"]) (k := 0) (c := b__law_take) F hm (by kernel_rfl) (fun _ _ _ _ _ _ us hl => match us, hl with | [_, _], _ => rfl) fun cdv A outer s H E hN hr => by
    have hu := room66 hr
    have hu1 := room1 hr
    have hc : (cxOf (L2.CX P w) P w K mg base ["bag", "many", "cell", "stirred", "value", "begin", "second"] "_law_take" (defScope (top 10)) f cdv A outer s H E).calm = true := rfl
    exact (rs_cons (rs_if (rt_cmp (o_eq hu) isB_eq (re_ix (f_v (i := 0) (by kernel_rfl)) re_int) re_int)
  (rs_cons (f_set (i := 2) hN (by kernel_rfl) (.inl rfl) (re_ix (re_op o_add (re_slice (re_ix (f_v (i := 0) (by kernel_rfl)) re_int) (ro_some (re_ix (f_v (i := 0) (by kernel_rfl)) re_int)) ro_none) (re_lst (ra_cons re_int ra_nil))) re_int))
  (rs_cons (rs_augS hu1 (f_v (i := 0) (by kernel_rfl)) re_int re_int ip_aAdd)
  (rs_cons (rs_if (rt_cmp o_ge isB_ge (f_v (i := 2) (by kernel_rfl)) (re_op o_pow re_int re_int))
  (rs_one (rs_asg (f_v (i := 2) (by kernel_rfl)) (rg_sub hu1 (f_v (i := 0) (by kernel_rfl)) re_int)))
  rs_nil)
  (rs_cons (f_set (i := 3) hN (by kernel_rfl) (.inl rfl) (re_op o_add (re_op o_add (re_op o_mul (re_ix (f_v (i := 0) (by kernel_rfl)) re_int) re_int) (re_op o_mod (re_ty c_int (gl_of (by kernel_rfl)) (MO.free "int" (by kernel_rfl)) rfl (ra_cons (f_v (i := 2) (by kernel_rfl)) ra_nil)) re_int)) (re_op o_mul re_int (re_ix (f_v (i := 0) (by kernel_rfl)) re_int))))
  (rs_one (rs_asg (re_op o_mod (re_ty c_int (gl_of (by kernel_rfl)) (MO.free "int" (by kernel_rfl)) rfl (ra_cons (f_v (i := 3) (by kernel_rfl)) ra_nil)) re_int) (rg_sub hu1 (f_v (i := 0) (by kernel_rfl)) re_int)))))))
  rs_nil)
  (rs_cons (rs_if (rt_cmp o_gt isB_gt (re_ix (f_v (i := 0) (by kernel_rfl)) re_int) re_int)
  (rs_cons (f_set (i := 4) hN (by kernel_rfl) (.inl rfl) (re_op o_mod (re_ty c_int (gl_of (by kernel_rfl)) (MO.free "int" (by kernel_rfl)) rfl (ra_cons (re_ix (f_v (i := 0) (by kernel_rfl)) re_int) ra_nil)) (f_v (i := 1) (by kernel_rfl))))
  (rs_cons (rs_asg (re_op o_div (re_ty c_int (gl_of (by kernel_rfl)) (MO.free "int" (by kernel_rfl)) rfl (ra_cons (re_ix (f_v (i := 0) (by kernel_rfl)) re_int) ra_nil)) (f_v (i := 1) (by kernel_rfl))) (rg_sub hu1 (f_v (i := 0) (by kernel_rfl)) re_int))
  (rs_one (rs_ret (f_v (i := 4) (by kernel_rfl))))))
  rs_nil)
  (rs_cons (f_set (i := 5) hN (by kernel_rfl) (.inl rfl) (re_op o_mod (re_ty c_int (gl_of (by kernel_rfl)) (MO.free "int" (by kernel_rfl)) rfl (ra_cons (re_op o_mul (re_op o_add (re_ix (f_v (i := 0) (by kernel_rfl)) re_int) re_int) re_int) ra_nil)) re_int))
  (rs_cons (f_set (i := 6) hN (by kernel_rfl) (.inl rfl) (re_op o_mod (re_ty c_int (gl_of (by kernel_rfl)) (MO.free "int" (by kernel_rfl)) rfl (ra_cons (re_op o_mul (re_op o_mod (re_ty c_int (gl_of (by kernel_rfl)) (MO.free "int" (by kernel_rfl)) rfl (ra_cons (re_op o_mul (f_v (i := 5) (by kernel_rfl)) (f_v (i := 5) (by kernel_rfl))) ra_nil)) re_int) re_int) ra_nil)) re_int))
  (rs_one (rs_ret (re_op o_mod (re_ty c_int (gl_of (by kernel_rfl)) (MO.free "int" (by kernel_rfl)) rfl (ra_cons (re_op o_div (f_v (i := 6) (by kernel_rfl)) re_int) ra_nil)) (f_v (i := 1) (by kernel_rfl)))))))))
theorem ok__law_bag {P : Program} {w : World} {K : Frag} {mg : Str → Option Value} {base : Heap} {f : Addr} {fd : FuncData} (MO : Mo K mg fr cs) (F : FunD K "_law_bag" "_law_bag" (defArgs (top 12)) (defBody (top 12)) (defScope (top 12)) [] [] f fd) (hm : mg "_law_bag" = some (.ref f))  :
    Callee P w K mg base "_law_bag" F__law_bag 1 1 :=
  callee_of (N := ["script", ".0", "cell"]) (ps := ["script"]) (k := 0) (c := b__law_bag) F hm (by kernel_rfl) (fun _ _ _ _ _ _ us hl => match us, hl with | [_], _ => rfl) fun cdv A outer s H E hN hr => by
    have hu := room66 hr
    have hu1 := room1 hr
    have hc : (cxOf (L2.CX P w) P w K mg base ["script", ".0", "cell"] "_law_bag" (defScope (top 12)) f cdv A outer s H E).calm = true := rfl
    exact (rs_one (rs_ret (re_lstC (ra_cons re_int (ra_cons re_int (ra_cons re_int (ra_cons (re_lc (own := [(".0", 1), ("cell", 2)]) hc hN (ri_seq (re_slice (f_v (i := 0) (by kernel_rfl)) ro_none (ro_some re_int))) (blkB_ok (by kernel_rfl)) (fun _ _ _ _ _ => (f_gnamew (i := 2) (by kernel_rfl) hN (by kernel_rfl) (.inr (eqK_ok (by kernel_rfl))))) (fun _ _ _ _ _ => rts_nil) (fun _ _ _ _ _ => (re_bi c_abs (gl_of (by kernel_rfl)) (MO.free "abs" (by kernel_rfl)) rfl (ra_cons (f_v (i := 2) (by kernel_rfl)) ra_nil)))) ra_nil)))))))
theorem ok__law_alike {P : Program} {w : World} {K : Frag} {mg : Str → Option Value} {base : Heap} {f : Addr} {fd : FuncData} (MO : Mo K mg fr cs) (F : FunD K "_law_alike" "_law_alike" (defArgs (top 13)) (defBody (top 13)) (defScope (top 13)) [] [] f fd) (hm : mg "_law_alike" = some (.ref f))  :
    Callee P w K mg base "_law_alike" F__law_alike 2 1 :=
  callee_of (N := ["found", "due", "pairs", "at", "one", "other"]) (ps := ["found", "due"]) (k := 0) (c := b__law_alike) F hm (by kernel_rfl) (fun _ _ _ _ _ _ us hl => match us, hl with | [_, _], _ => rfl) fun cdv A outer s H E hN hr => by
    have hu := room66 hr
    have hu1 := room1 hr
    have hc : (cxOf (L2.CX P w) P w K mg base ["found", "due", "pairs", "at", "one", "other"] "_law_alike" (defScope (top 13)) f cdv A outer s H E).calm = true := rfl
    exact (rs_cons (f_par (i := 2) (j := 3) hc hN (by kernel_rfl) (by kernel_rfl) (by kernel_rfl) (ra_cons (re_lstC (ra_cons (re_tup (ra_cons (f_v (i := 0) (by kernel_rfl)) (ra_cons (f_v (i := 1) (by kernel_rfl)) ra_nil))) ra_nil)) (ra_cons re_int ra_nil)))
  (rs_cons (rs_while (fun _ _ => passes_of rfl) (rt_cmp o_lt isB_lt (f_v (i := 3) (by kernel_rfl)) (re_bi c_len (gl_of (by kernel_rfl)) (MO.free "len" (by kernel_rfl)) rfl (ra_cons (f_v (i := 2) (by kernel_rfl)) ra_nil)))
  (rs_cons (rs_asg (re_ix (f_v (i := 2) (by kernel_rfl)) (f_v (i := 3) (by kernel_rfl))) (rg_tup hc (rgs_cons (f_gname (i := 4) hN (by kernel_rfl) (.inl rfl)) (rgs_cons (f_gname (i := 5) hN (by kernel_rfl) (.inl rfl)) rgs_nil))))
  (rs_cons (f_aug (i := 3) hN (by kernel_rfl) (.inl rfl) ip_aAdd re_int)
  (rs_cons (rs_if (rt_w (rw_or (rt_cmp (o_ne hu) isB_ne (re_isi (f_v (i := 4) (by kernel_rfl)) (gl_of (by kernel_rfl)) (MO.free "isinstance" (by kernel_rfl)) (gl_of (by kernel_rfl)) (MO.free "bool" (by kernel_rfl)) rfl) (re_isi (f_v (i := 5) (by kernel_rfl)) (gl_of (by kernel_rfl)) (MO.free "isinstance" (by kernel_rfl)) (gl_of (by kernel_rfl)) (MO.free "bool" (by kernel_rfl)) rfl)) (rw_or1 (rt_cmp (o_ne hu) isB_ne (re_isi (f_v (i := 4) (by kernel_rfl)) (gl_of (by kernel_rfl)) (MO.free "isinstance" (by kernel_rfl)) (gl_of (by kernel_rfl)) (MO.free "str" (by kernel_rfl)) rfl) (re_isi (f_v (i := 5) (by kernel_rfl)) (gl_of (by kernel_rfl)) (MO.free "isinstance" (by kernel_rfl)) (gl_of (by kernel_rfl)) (MO.free "str" (by kernel_rfl)) rfl)))))
  (rs_one (rs_ret re_bl))
  rs_nil)
  (rs_cons (rs_if (rt_cmp (o_ne hu) isB_ne (re_isi2 (f_v (i := 4) (by kernel_rfl)) (gl_of (by kernel_rfl)) (MO.free "isinstance" (by kernel_rfl)) (gl_of (by kernel_rfl)) (MO.free "tuple" (by kernel_rfl)) rfl (gl_of (by kernel_rfl)) (MO.free "list" (by kernel_rfl)) rfl) (re_isi2 (f_v (i := 5) (by kernel_rfl)) (gl_of (by kernel_rfl)) (MO.free "isinstance" (by kernel_rfl)) (gl_of (by kernel_rfl)) (MO.free "tuple" (by kernel_rfl)) rfl (gl_of (by kernel_rfl)) (MO.free "list" (by kernel_rfl)) rfl))
  (rs_one (rs_ret re_bl))
  rs_nil)
  (rs_one (rs_if (rt_val (re_isi2 (f_v (i := 4) (by kernel_rfl)) (gl_of (by kernel_rfl)) (MO.free "isinstance" (by kernel_rfl)) (gl_of (by kernel_rfl)) (MO.free "tuple" (by kernel_rfl)) rfl (gl_of (by kernel_rfl)) (MO.free "list" (by kernel_rfl)) rfl))
  (rs_cons (rs_if (rt_w (rw_or (rt_cmp (o_ne hu) isB_ne (re_isi (f_v (i := 4) (by kernel_rfl)) (gl_of (by kernel_rfl)) (MO.free "isinstance" (by kernel_rfl)) (gl_of (by kernel_rfl)) (MO.free "tuple" (by kernel_rfl)) rfl) (re_isi (f_v (i := 5) (by kernel_rfl)) (gl_of (by kernel_rfl)) (MO.free "isinstance" (by kernel_rfl)) (gl_of (by kernel_rfl)) (MO.free "tuple" (by kernel_rfl)) rfl)) (rw_or1 (rt_cmp (o_ne hu) isB_ne (re_bi c_len (gl_of (by kernel_rfl)) (MO.free "len" (by kernel_rfl)) rfl (ra_cons (f_v (i := 4) (by kernel_rfl)) ra_nil)) (re_bi c_len (gl_of (by kernel_rfl)) (MO.free "len" (by kernel_rfl)) rfl (ra_cons (f_v (i := 5) (by kernel_rfl)) ra_nil))))))
  (rs_one (rs_ret re_bl))
  rs_nil)
  (rs_one (rs_do (re_bm PySem.F.plainAttrs_list PySem.F.slot_list_extend PySem.F.type_list_extend (by decide) m_extend (f_v (i := 2) (by kernel_rfl)) (ra_cons (re_listzip hc (gl_of (by kernel_rfl)) (MO.free "list" (by kernel_rfl)) (gl_of (by kernel_rfl)) (MO.free "zip" (by kernel_rfl)) (f_v (i := 4) (by kernel_rfl)) (f_v (i := 5) (by kernel_rfl))) ra_nil)))))
  (rs_one (rs_if (rt_cmp (o_ne hu) isB_ne (f_v (i := 4) (by kernel_rfl)) (f_v (i := 5) (by kernel_rfl)))
  (rs_one (rs_ret re_bl))
  rs_nil)))))))))
  (rs_one (rs_ret re_bl))))
theorem ok__law_is_int {P : Program} {w : World} {K : Frag} {mg : Str → Option Value} {base : Heap} {f : Addr} {fd : FuncData} (MO : Mo K mg fr cs) (F : FunD K "_law_is_int" "_law_is_int" (defArgs (top 14)) (defBody (top 14)) (defScope (top 14)) [] [] f fd) (hm : mg "_law_is_int" = some (.ref f))  :
    Callee P w K mg base "_law_is_int" F__law_is_int 1 1 :=
  callee_of (N := ["thing"]) (ps := ["thing"]) (k := 0) (c := b__law_is_int) F hm (by kernel_rfl) (fun _ _ _ _ _ _ us hl => match us, hl with | [_], _ => rfl) fun cdv A outer s H E hN hr => by
    have hu := room66 hr
    have hu1 := room1 hr
    have hc : (cxOf (L2.CX P w) P w K mg base ["thing"] "_law_is_int" (defScope (top 14)) f cdv A outer s H E).calm = true := rfl
    exact (rs_one (rs_ret (re_and (re_isi (f_v (i := 0) (by kernel_rfl)) (gl_of (by kernel_rfl)) (MO.free "isinstance" (by kernel_rfl)) (gl_of (by kernel_rfl)) (MO.free "int" (by kernel_rfl)) rfl) (re_one (re_not (re_isi (f_v (i := 0) (by kernel_rfl)) (gl_of (by kernel_rfl)) (MO.free "isinstance" (by kernel_rfl)) (gl_of (by kernel_rfl)) (MO.free "bool" (by kernel_rfl)) rfl))))))
theorem ok__law_is_name {P : Program} {w : World} {K : Frag} {mg : Str → Option Value} {base : Heap} {f : Addr} {fd : FuncData} (MO : Mo K mg fr cs) (F : FunD K "_law_is_name" "_law_is_name" (defArgs (top 15)) (defBody (top 15)) (defScope (top 15)) [] [] f fd) (hm : mg "_law_is_name" = some (.ref f))  :
    Callee P w K mg base "_law_is_name" F__law_is_name 1 1 :=
  callee_of (N := ["thing", "some", ".0", "sign"]) (ps := ["thing"]) (k := 0) (c := b__law_is_name) F hm (by kernel_rfl) (fun _ _ _ _ _ _ us hl => match us, hl with | [_], _ => rfl) fun cdv A outer s H E hN hr => by
    have hu := room66 hr
    have hu1 := room1 hr
    have hc : (cxOf (L2.CX P w) P w K mg base ["thing", "some", ".0", "sign"] "_law_is_name" (defScope (top 15)) f cdv A outer s H E).calm = true := rfl
    exact (rs_cons (f_set (i := 1) hN (by kernel_rfl) (.inl rfl) (re_tup (ra_cons (f_s (by kernel_rfl)) (ra_cons (f_s (by kernel_rfl)) (ra_cons (f_s (by kernel_rfl)) (ra_cons (f_s (by kernel_rfl)) (ra_cons (f_s (by kernel_rfl)) (ra_cons (f_s (by kernel_rfl)) (ra_cons (f_s (by kernel_rfl)) (ra_cons (f_s (by kernel_rfl)) ra_nil))))))))))
  (rs_cons (rs_if (rt_w (rw_or (rt_not (rt_val (re_isi (f_v (i := 0) (by kernel_rfl)) (gl_of (by kernel_rfl)) (MO.free "isinstance" (by kernel_rfl)) (gl_of (by kernel_rfl)) (MO.free "str" (by kernel_rfl)) rfl))) (rw_or (rt_not (rt_chain o_le o_le isB_le isB_le re_int (re_bi c_len (gl_of (by kernel_rfl)) (MO.free "len" (by kernel_rfl)) rfl (ra_cons (f_v (i := 0) (by kernel_rfl)) ra_nil)) re_int)) (rw_or1 (rt_cmp (o_in hu) isB_in (f_v (i := 0) (by kernel_rfl)) (f_v (i := 1) (by kernel_rfl)))))))
  (rs_one (rs_ret re_bl))
  rs_nil)
  (rs_one (rs_ret (re_cmp (o_eq hu) (re_lc (own := [(".0", 2), ("sign", 3)]) hc hN (ri_seq (f_v (i := 0) (by kernel_rfl))) (blkB_ok (by kernel_rfl)) (fun _ _ _ _ _ => (f_gnamew (i := 3) (by kernel_rfl) hN (by kernel_rfl) (.inr (eqK_ok (by kernel_rfl))))) (fun _ _ _ _ _ => (rts_one (rt_cmp (o_nin hu) isB_nin (f_v (i := 3) (by kernel_rfl)) (f_s (by kernel_rfl))))) (fun _ _ _ _ _ => re_int)) (re_lst ra_nil))))))
theorem ok__law_are_unlike {P : Program} {w : World} {K : Frag} {mg : Str → Option Value} {base : Heap} {f : Addr} {fd : FuncData} (MO : Mo K mg fr cs) (F : FunD K "_law_are_unlike" "_law_are_unlike" (defArgs (top 17)) (defBody (top 17)) (defScope (top 17)) [] [] f fd) (hm : mg "_law_are_unlike" = some (.ref f))  :
    Callee P w K mg base "_law_are_unlike" F__law_are_unlike 1 1 :=
  callee_of (N := ["things", ".0", "at"]) (ps := ["things"]) (k := 0) (c := b__law_are_unlike) F hm (by kernel_rfl) (fun _ _ _ _ _ _ us hl => match us, hl with | [_], _ => rfl) fun cdv A outer s H E hN hr => by
    have hu := room66 hr
    have hu1 := room1 hr
    have hc : (cxOf (L2.CX P w) P w K mg base ["things", ".0", "at"] "_law_are_unlike" (defScope (top 17)) f cdv A outer s H E).calm = true := rfl
    exact (rs_one (rs_ret (re_cmp (o_eq hu) (re_lc (own := [(".0", 1), ("at", 2)]) hc hN (ri_range1 (gl_of (by kernel_rfl)) (MO.free "range" (by kernel_rfl)) (ra_cons (re_bi c_len (gl_of (by kernel_rfl)) (MO.free "len" (by kernel_rfl)) rfl (ra_cons (f_v (i := 0) (by kernel_rfl)) ra_nil)) ra_nil)) (blkB_ok (by kernel_rfl)) (fun _ _ _ _ _ => (f_gnamew (i := 2) (by kernel_rfl) hN (by kernel_rfl) (.inr (eqK_ok (by kernel_rfl))))) (fun _ _ _ _ _ => (rts_one (rt_cmp (o_in hu) isB_in (re_ix (f_v (i := 0) (by kernel_rfl)) (f_v (i := 2) (by kernel_rfl))) (re_slice (f_v (i := 0) (by kernel_rfl)) ro_none (ro_some (f_v (i := 2) (by kernel_rfl))))))) (fun _ _ _ _ _ => re_int)) (re_lst ra_nil))))
theorem ok_is_within {P : Program} {w : World} {K : Frag} {mg : Str → Option Value} {base : Heap} {f : Addr} {fd : FuncData} (MO : Mo K mg fr cs) (F : FunD K "is_within" "is_within" (defArgs (top 5)) (defBody (top 5)) (defScope (top 5)) [] [] f fd) (hm : mg "is_within" = some (.ref f)) (C_is_integer : Callee P w K mg base "is_integer" F_is_integer 1 1) :
    Callee P w K mg base "is_within" F_is_within 3 2 :=
  callee_of (N := ["thing", "least", "most"]) (ps := ["thing", "least", "most"]) (k := 1) (c := b_is_within) F hm (by kernel_rfl) (fun _ _ _ _ _ _ us hl => match us, hl with | [_, _, _], _ => rfl) fun cdv A outer s H E hN hr => by
    have hu := room66 hr
    have hu1 := room1 hr
    have hc : (cxOf (L2.CX P w) P w K mg base ["thing", "least", "most"] "is_within" (defScope (top 5)) f cdv A outer s H E).calm = true := rfl
    exact (rs_one (rs_ret (re_and (f_call C_is_integer hr (by kernel_rfl) (by kernel_rfl) (ra_cons (f_v (i := 0) (by kernel_rfl)) ra_nil)) (re_one (re_chain o_le o_le isB_le (f_v (i := 1) (by kernel_rfl)) (f_v (i := 0) (by kernel_rfl)) (f_v (i := 2) (by kernel_rfl)))))))
theorem ok_are_names {P : Program} {w : World} {K : Frag} {mg : Str → Option Value} {base : Heap} {f : Addr} {fd : FuncData} (MO : Mo K mg fr cs) (F : FunD K "are_names" "are_names" (defArgs (top 7)) (defBody (top 7)) (defScope (top 7)) [] [] f fd) (hm : mg "are_names" = some (.ref f)) (C_is_name : Callee P w K mg base "is_name" F_is_name 1 1) :
    Callee P w K mg base "are_names" F_are_names 3 2 :=
  callee_of (N := ["thing", "least", "most", ".0", "one"]) (ps := ["thing", "least", "most"]) (k := 1) (c := b_are_names) F hm (by kernel_rfl) (fun _ _ _ _ _ _ us hl => match us, hl with | [_, _, _], _ => rfl) fun cdv A outer s H E hN hr => by
    have hu := room66 hr
    have hu1 := room1 hr
    have hc : (cxOf (L2.CX P w) P w K mg base ["thing", "least", "most", ".0", "one"] "are_names" (defScope (top 7)) f cdv A outer s H E).calm = true := rfl
    exact (rs_cons (rs_if (rt_w (rw_or (rt_not (rt_val (re_isi (f_v (i := 0) (by kernel_rfl)) (gl_of (by kernel_rfl)) (MO.free "isinstance" (by kernel_rfl)) (gl_of (by kernel_rfl)) (MO.free "tuple" (by kernel_rfl)) rfl))) (rw_or (rt_not (rt_chain o_le o_le isB_le isB_le (f_v (i := 1) (by kernel_rfl)) (re_bi c_len (gl_of (by kernel_rfl)) (MO.free "len" (by kernel_rfl)) rfl (ra_cons (f_v (i := 0) (by kernel_rfl)) ra_nil)) (f_v (i := 2) (by kernel_rfl)))) (rw_or1 (rt_not (rt_val (re_bi (c_all hc) (gl_of (by kernel_rfl)) (MO.free "all" (by kernel_rfl)) rfl (ra_cons (re_lc (own := [(".0", 3), ("one", 4)]) hc hN (ri_seq (f_v (i := 0) (by kernel_rfl))) (blkB_ok (by kernel_rfl)) (fun _ _ _ _ _ => (f_gnamew (i := 4) (by kernel_rfl) hN (by kernel_rfl) (.inr (eqK_ok (by kernel_rfl))))) (fun _ _ _ _ _ => rts_nil) (fun _ _ _ _ _ => (f_call C_is_name hr (by kernel_rfl) (by kernel_rfl) (ra_cons (f_v (i := 4) (by kernel_rfl)) ra_nil)))) ra_nil))))))))
  (rs_one (rs_ret re_bl))
  rs_nil)
  (rs_one (rs_ret (re_cmp (o_eq hu) (re_bi c_len (gl_of (by kernel_rfl)) (MO.free "len" (by kernel_rfl)) rfl (ra_cons (re_dc (own := [(".0", 3), ("one", 4)]) hc hN (ri_seq (f_v (i := 0) (by kernel_rfl))) (blkB_ok (by kernel_rfl)) (fun _ _ _ _ _ => (f_gnamew (i := 4) (by kernel_rfl) hN (by kernel_rfl) (.inr (eqK_ok (by kernel_rfl))))) (fun _ _ _ _ _ => rts_nil) (fun _ _ _ _ _ => (f_v (i := 4) (by kernel_rfl))) (fun _ _ _ _ _ => re_bl)) ra_nil)) (re_bi c_len (gl_of (by kernel_rfl)) (MO.free "len" (by kernel_rfl)) rfl (ra_cons (f_v (i := 0) (by kernel_rfl)) ra_nil))))))
theorem ok__law_some {P : Program} {w : World} {K : Frag} {mg : Str → Option Value} {base : Heap} {f : Addr} {fd : FuncData} (MO : Mo K mg fr cs) (F : FunD K "_law_some" "_law_some" (defArgs (top 11)) (defBody (top 11)) (defScope (top 11)) [] [] f fd) (hm : mg "_law_some" = some (.ref f)) (C__law_take : Callee P w K mg base "_law_take" F__law_take 2 1) :
    Callee P w K mg base "_law_some" F__law_some 2 2 :=
  callee_of (N := ["bag", "things"]) (ps := ["bag", "things"]) (k := 1) (c := b__law_some) F hm (by kernel_rfl) (fun _ _ _ _ _ _ us hl => match us, hl with | [_, _], _ => rfl) fun cdv A outer s H E hN hr => by
    have hu := room66 hr
    have hu1 := room1 hr
    have hc : (cxOf (L2.CX P w) P w K mg base ["bag", "things"] "_law_some" (defScope (top 11)) f cdv A outer s H E).calm = true := rfl
    exact (rs_one (rs_ret (re_ix (f_v (i := 1) (by kernel_rfl)) (f_call C__law_take hr (by kernel_rfl) (by kernel_rfl) (ra_cons (f_v (i := 0) (by kernel_rfl)) (ra_cons (re_bi c_len (gl_of (by kernel_rfl)) (MO.free "len" (by kernel_rfl)) rfl (ra_cons (f_v (i := 1) (by kernel_rfl)) ra_nil)) ra_nil))))))
theorem ok_is_index_lot {P : Program} {w : World} {K : Frag} {mg : Str → Option Value} {base : Heap} {f : Addr} {fd : FuncData} (MO : Mo K mg fr cs) (F : FunD K "is_index_lot" "is_index_lot" (defArgs (top 8)) (defBody (top 8)) (defScope (top 8)) [] [] f fd) (hm : mg "is_index_lot" = some (.ref f)) (C_is_within : Callee P w K mg base "is_within" F_is_within 3 2) :
    Callee P w K mg base "is_index_lot" F_is_index_lot 2 3 :=
  callee_of (N := ["thing", "many", ".0", "one"]) (ps := ["thing", "many"]) (k := 2) (c := b_is_index_lot) F hm (by kernel_rfl) (fun _ _ _ _ _ _ us hl => match us, hl with | [_, _], _ => rfl) fun cdv A outer s H E hN hr => by
    have hu := room66 hr
    have hu1 := room1 hr
    have hc : (cxOf (L2.CX P w) P w K mg base ["thing", "many", ".0", "one"] "is_index_lot" (defScope (top 8)) f cdv A outer s H E).calm = true := rfl
    exact (rs_cons (rs_if (rt_w (rw_or (rt_not (rt_val (re_isi (f_v (i := 0) (by kernel_rfl)) (gl_of (by kernel_rfl)) (MO.free "isinstance" (by kernel_rfl)) (gl_of (by kernel_rfl)) (MO.free "tuple" (by kernel_rfl)) rfl))) (rw_or (rt_cmp (o_eq hu) isB_eq (f_v (i := 0) (by kernel_rfl)) (re_tup ra_nil)) (rw_or1 (rt_not (rt_val (re_bi (c_all hc) (gl_of (by kernel_rfl)) (MO.free "all" (by kernel_rfl)) rfl (ra_cons (re_lc (own := [(".0", 2), ("one", 3)]) hc hN (ri_seq (f_v (i := 0) (by kernel_rfl))) (blkB_ok (by kernel_rfl)) (fun _ _ _ _ _ => (f_gnamew (i := 3) (by kernel_rfl) hN (by kernel_rfl) (.inr (eqK_ok (by kernel_rfl))))) (fun _ _ _ _ _ => rts_nil) (fun _ _ _ _ _ => (f_call C_is_within hr (by kernel_rfl) (by kernel_rfl) (ra_cons (f_v (i := 3) (by kernel_rfl)) (ra_cons re_int (ra_cons (re_op o_sub (f_v (i := 1) (by kernel_rfl)) re_int) ra_nil)))))) ra_nil))))))))
  (rs_one (rs_ret re_bl))
  rs_nil)
  (rs_one (rs_ret (re_cmp (o_eq hu) (re_ty c_list (gl_of (by kernel_rfl)) (MO.free "list" (by kernel_rfl)) rfl (ra_cons (f_v (i := 0) (by kernel_rfl)) ra_nil)) (re_bi (c_sorted hc) (gl_of (by kernel_rfl)) (MO.free "sorted" (by kernel_rfl)) rfl (ra_cons (re_dc (own := [(".0", 2), ("one", 3)]) hc hN (ri_seq (f_v (i := 0) (by kernel_rfl))) (blkB_ok (by kernel_rfl)) (fun _ _ _ _ _ => (f_gnamew (i := 3) (by kernel_rfl) hN (by kernel_rfl) (.inr (eqK_ok (by kernel_rfl))))) (fun _ _ _ _ _ => rts_nil) (fun _ _ _ _ _ => (f_v (i := 3) (by kernel_rfl))) (fun _ _ _ _ _ => re_bl)) ra_nil))))))
theorem ok__law_word {P : Program} {w : World} {K : Frag} {mg : Str → Option Value} {base : Heap} {f : Addr} {fd : FuncData} (MO : Mo K mg fr cs) (F : FunD K "_law_word" "_law_word" (defArgs (top 16)) (defBody (top 16)) (defScope (top 16)) [] [] f fd) (hm : mg "_law_word" = some (.ref f)) (C__law_some : Callee P w K mg base "_law_some" F__law_some 2 2) :
    Callee P w K mg base "_law_word" F__law_word 1 3 :=
  callee_of (N := ["bag", "some"]) (ps := ["bag"]) (k := 2) (c := b__law_word) F hm (by kernel_rfl) (fun _ _ _ _ _ _ us hl => match us, hl with | [_], _ => rfl) fun cdv A outer s H E hN hr => by
    have hu := room66 hr
    have hu1 := room1 hr
    have hc : (cxOf (L2.CX P w) P w K mg base ["bag", "some"] "_law_word" (defScope (top 16)) f cdv A outer s H E).calm = true := rfl
    exact (rs_cons (f_set (i := 1) hN (by kernel_rfl) (.inl rfl) (re_lst (ra_cons (f_s (by kernel_rfl)) (ra_cons (f_s (by kernel_rfl)) (ra_cons (f_s (by kernel_rfl)) (ra_cons (f_s (by kernel_rfl)) (ra_cons (f_s (by kernel_rfl)) (ra_cons (f_s (by kernel_rfl)) (ra_cons (f_s (by kernel_rfl)) (ra_cons (f_s (by kernel_rfl)) (ra_cons (f_s (by kernel_rfl)) (ra_cons (f_s (by kernel_rfl)) (ra_cons (f_s (by kernel_rfl)) ra_nil)))))))))))))
  (rs_one (rs_ret (f_call C__law_some hr (by kernel_rfl) (by kernel_rfl) (ra_cons (f_v (i := 0) (by kernel_rfl)) (ra_cons (re_op o_add (f_v (i := 1) (by kernel_rfl)) (re_lst (ra_cons (f_s (by kernel_rfl)) (ra_cons (f_s (by kernel_rfl)) (ra_cons (f_s (by kernel_rfl)) (ra_cons (f_s (by kernel_rfl)) (ra_cons (f_s (by kernel_rfl)) (ra_cons (f_s (by kernel_rfl)) (ra_cons (f_s (by kernel_rfl)) (ra_cons re_non (ra_cons re_int (ra_cons re_bl (ra_cons (re_tup (ra_cons (f_s (by kernel_rfl)) ra_nil)) (ra_cons (re_lst (ra_cons (f_s (by kernel_rfl)) ra_nil)) ra_nil)))))))))))))) ra_nil))))))
theorem ok_law {P : Program} {w : World} {K : Frag} {mg : Str → Option Value} {base : Heap} {f : Addr} {fd : FuncData} (MO : Mo K mg fr cs) (F : FunD K "law" "law" (defArgs (top 18)) (defBody (top 18)) (defScope (top 18)) [] [] f fd) (hm : mg "law" = some (.ref f)) (C_is_integer : Callee P w K mg base "is_integer" F_is_integer 1 3) (C_is_name : Callee P w K mg base "is_name" F_is_name 1 3) (C__law_take : Callee P w K mg base "_law_take" F__law_take 2 3) (C__law_bag : Callee P w K mg base "_law_bag" F__law_bag 1 3) (C__law_alike : Callee P w K mg base "_law_alike" F__law_alike 2 3) (C__law_is_int : Callee P w K mg base "_law_is_int" F__law_is_int 1 3) (C__law_is_name : Callee P w K mg base "_law_is_name" F__law_is_name 1 3) (C__law_are_unlike : Callee P w K mg base "_law_are_unlike" F__law_are_unlike 1 3) (C_is_within : Callee P w K mg base "is_within" F_is_within 3 3) (C_are_names : Callee P w K mg base "are_names" F_are_names 3 3) (C__law_some : Callee P w K mg base "_law_some" F__law_some 2 3) (C_is_index_lot : Callee P w K mg base "is_index_lot" F_is_index_lot 2 3) (C__law_word : Callee P w K mg base "_law_word" F__law_word 1 3) :
    FnOk P w K mg base (L2.CX P w) 4 f fd ["script"] (spF K mg F_law 1) :=
  fnok_of (N := ["script", "bag", "turn", "word", "number", "least", "most", "row", "thing", "right", "some", "lot", ".0", "at", "one", "other"]) (ps := ["script"]) (k := 3) (c := b_law) F (by kernel_rfl) fun cdv A outer s H E hN hr => by
    have hu := room66 hr
    have hu1 := room1 hr
    have hc : (cxOf (L2.CX P w) P w K mg base ["script", "bag", "turn", "word", "number", "least", "most", "row", "thing", "right", "some", "lot", ".0", "at", "one", "other"] "law" (defScope (top 18)) f cdv A outer s H E).calm = true := rfl
    exact (rs_cons (f_set (i := 1) hN (by kernel_rfl) (.inl rfl) (f_call C__law_bag hr (by kernel_rfl) (by kernel_rfl) (ra_cons (f_v (i := 0) (by kernel_rfl)) ra_nil)))
  (rs_cons (rs_for (vs := [2, 3, 4, 5, 6, 7, 8, 9, 10, 11]) (fun _ _ => passes_of rfl) hc (ri_range1 (gl_of (by kernel_rfl)) (MO.free "range" (by kernel_rfl)) (ra_cons re_int ra_nil)) (f_gname (i := 2) hN (by kernel_rfl) (.inl rfl))
  (rs_cons (f_par (i := 3) (j := 4) hc hN (by kernel_rfl) (by kernel_rfl) (by kernel_rfl) (ra_cons (f_call C__law_word hr (by kernel_rfl) (by kernel_rfl) (ra_cons (f_v (i := 1) (by kernel_rfl)) ra_nil)) (ra_cons (f_call C__law_some hr (by kernel_rfl) (by kernel_rfl) (ra_cons (f_v (i := 1) (by kernel_rfl)) (ra_cons (re_lst (ra_cons re_int (ra_cons re_int (ra_cons (re_un u_neg re_int) (ra_cons re_int (ra_cons re_bl (ra_cons re_bl (ra_cons re_non (ra_cons (f_s (by kernel_rfl)) (ra_cons (re_op o_pow re_int re_int) (ra_cons (re_tup (ra_cons re_int ra_nil)) ra_nil))))))))))) ra_nil))) ra_nil)))
  (rs_cons (rs_asg (re_tup (ra_cons (re_op o_sub (f_call C__law_take hr (by kernel_rfl) (by kernel_rfl) (ra_cons (f_v (i := 1) (by kernel_rfl)) (ra_cons re_int ra_nil))) re_int) (ra_cons (f_call C__law_take hr (by kernel_rfl) (by kernel_rfl) (ra_cons (f_v (i := 1) (by kernel_rfl)) (ra_cons re_int ra_nil))) ra_nil))) (rg_tup hc (rgs_cons (f_gname (i := 5) hN (by kernel_rfl) (.inl rfl)) (rgs_cons (f_gname (i := 6) hN (by kernel_rfl) (.inl rfl)) rgs_nil))))
  (rs_cons (rs_if (rt_not (rt_val (f_call C__law_alike hr (by kernel_rfl) (by kernel_rfl) (ra_cons (re_lst (ra_cons (f_call C_is_name hr (by kernel_rfl) (by kernel_rfl) (ra_cons (f_v (i := 3) (by kernel_rfl)) ra_nil)) (ra_cons (f_call C_is_integer hr (by kernel_rfl) (by kernel_rfl) (ra_cons (f_v (i := 4) (by kernel_rfl)) ra_nil)) ra_nil))) (ra_cons (re_lst (ra_cons (f_call C__law_is_name hr (by kernel_rfl) (by kernel_rfl) (ra_cons (f_v (i := 3) (by kernel_rfl)) ra_nil)) (ra_cons (f_call C__law_is_int hr (by kernel_rfl) (by kernel_rfl) (ra_cons (f_v (i := 4) (by kernel_rfl)) ra_nil)) ra_nil))) ra_nil)))))
  (rs_one (rs_ret re_bl))
  rs_nil)
  (rs_cons (rs_if (rt_not (rt_val (f_call C__law_alike hr (by kernel_rfl) (by kernel_rfl) (ra_cons (f_call C_is_within hr (by kernel_rfl) (by kernel_rfl) (ra_cons (f_v (i := 4) (by kernel_rfl)) (ra_cons (f_v (i := 5) (by kernel_rfl)) (ra_cons (f_v (i := 6) (by kernel_rfl)) ra_nil)))) (ra_cons (re_and (f_call C__law_is_int hr (by kernel_rfl) (by kernel_rfl) (ra_cons (f_v (i := 4) (by kernel_rfl)) ra_nil)) (re_one (re_chain o_le o_le isB_le (f_v (i := 5) (by kernel_rfl)) (f_v (i := 4) (by kernel_rfl)) (f_v (i := 6) (by kernel_rfl))))) ra_nil)))))
  (rs_one (rs_ret re_bl))
  rs_nil)
  (rs_cons (f_set (i := 7) hN (by kernel_rfl) (.inl rfl) (re_ty c_tuple (gl_of (by kernel_rfl)) (MO.free "tuple" (by kernel_rfl)) rfl (ra_cons (re_lc (own := [(".0", 12), ("at", 13)]) hc hN (ri_range1 (gl_of (by kernel_rfl)) (MO.free "range" (by kernel_rfl)) (ra_cons (f_call C__law_take hr (by kernel_rfl) (by kernel_rfl) (ra_cons (f_v (i := 1) (by kernel_rfl)) (ra_cons re_int ra_nil))) ra_nil)) (blkB_ok (by kernel_rfl)) (fun _ _ _ _ _ => (f_gnamew (i := 13) (by kernel_rfl) hN (by kernel_rfl) (.inr (eqK_ok (by kernel_rfl))))) (fun _ _ _ _ _ => rts_nil) (fun _ _ _ _ _ => (f_call C__law_word hr (by kernel_rfl) (by kernel_rfl) (ra_cons (f_v (i := 1) (by kernel_rfl)) ra_nil)))) ra_nil)))
  (rs_cons (rs_for (vs := [8, 9]) (fun _ _ => passes_of rfl) hc (ri_seq (re_tup (ra_cons (f_v (i := 7) (by kernel_rfl)) (ra_cons (re_ty c_list (gl_of (by kernel_rfl)) (MO.free "list" (by kernel_rfl)) rfl (ra_cons (f_v (i := 7) (by kernel_rfl)) ra_nil)) (ra_cons re_non (ra_cons (re_op o_add (f_v (i := 7) (by kernel_rfl)) (f_v (i := 7) (by kernel_rfl))) (ra_cons (f_s (by kernel_rfl)) ra_nil))))))) (f_gname (i := 8) hN (by kernel_rfl) (.inl rfl))
  (rs_cons (f_set (i := 9) hN (by kernel_rfl) (.inl rfl) (re_and (re_isi (f_v (i := 8) (by kernel_rfl)) (gl_of (by kernel_rfl)) (MO.free "isinstance" (by kernel_rfl)) (gl_of (by kernel_rfl)) (MO.free "tuple" (by kernel_rfl)) rfl) (re_one (re_cmp (o_eq hu) (re_lc (own := [(".0", 12), ("one", 14)]) hc hN (ri_seq (f_v (i := 8) (by kernel_rfl))) (blkB_ok (by kernel_rfl)) (fun _ _ _ _ _ => (f_gnamew (i := 14) (by kernel_rfl) hN (by kernel_rfl) (.inr (eqK_ok (by kernel_rfl))))) (fun _ _ _ _ _ => (rts_one (rt_not (rt_val (f_call C__law_is_name hr (by kernel_rfl) (by kernel_rfl) (ra_cons (f_v (i := 14) (by kernel_rfl)) ra_nil)))))) (fun _ _ _ _ _ => re_int)) (re_lst ra_nil)))))
  (rs_cons (f_set (i := 9) hN (by kernel_rfl) (.inl rfl) (re_and (f_v (i := 9) (by kernel_rfl)) (re_and (f_call C__law_are_unlike hr (by kernel_rfl) (by kernel_rfl) (ra_cons (f_v (i := 8) (by kernel_rfl)) ra_nil)) (re_one (re_chain o_le o_le isB_le (f_v (i := 5) (by kernel_rfl)) (re_bi c_len (gl_of (by kernel_rfl)) (MO.free "len" (by kernel_rfl)) rfl (ra_cons (f_v (i := 8) (by kernel_rfl)) ra_nil)) (f_v (i := 6) (by kernel_rfl)))))))
  (rs_one (rs_if (rt_not (rt_val (f_call C__law_alike hr (by kernel_rfl) (by kernel_rfl) (ra_cons (f_call C_are_names hr (by kernel_rfl) (by kernel_rfl) (ra_cons (f_v (i := 8) (by kernel_rfl)) (ra_cons (f_v (i := 5) (by kernel_rfl)) (ra_cons (f_v (i := 6) (by kernel_rfl)) ra_nil)))) (ra_cons (f_v (i := 9) (by kernel_rfl)) ra_nil)))))
  (rs_one (rs_ret re_bl))
  rs_nil)))))
  (rs_cons (f_set (i := 10) hN (by kernel_rfl) (.inl rfl) (re_ty c_tuple (gl_of (by kernel_rfl)) (MO.free "tuple" (by kernel_rfl)) rfl (ra_cons (re_lc (own := [(".0", 12), ("at", 13)]) hc hN (ri_range1 (gl_of (by kernel_rfl)) (MO.free "range" (by kernel_rfl)) (ra_cons (f_call C__law_take hr (by kernel_rfl) (by kernel_rfl) (ra_cons (f_v (i := 1) (by kernel_rfl)) (ra_cons re_int ra_nil))) ra_nil)) (blkB_ok (by kernel_rfl)) (fun _ _ _ _ _ => (f_gnamew (i := 13) (by kernel_rfl) hN (by kernel_rfl) (.inr (eqK_ok (by kernel_rfl))))) (fun _ _ _ _ _ => rts_nil) (fun _ _ _ _ _ => (f_call C__law_some hr (by kernel_rfl) (by kernel_rfl) (ra_cons (f_v (i := 1) (by kernel_rfl)) (ra_cons (re_lst (ra_cons re_int (ra_cons re_int (ra_cons re_int (ra_cons re_int (ra_cons re_int (ra_cons (re_un u_neg re_int) (ra_cons re_bl (ra_cons re_non (ra_cons (f_s (by kernel_rfl)) (ra_cons (re_tup (ra_cons re_int ra_nil)) ra_nil))))))))))) ra_nil))))) ra_nil)))
  (rs_cons (f_set (i := 11) hN (by kernel_rfl) (.inl rfl) (re_ty c_tuple (gl_of (by kernel_rfl)) (MO.free "tuple" (by kernel_rfl)) rfl (ra_cons (re_sortset hc (gl_of (by kernel_rfl)) (MO.free "sorted" (by kernel_rfl)) (gl_of (by kernel_rfl)) (MO.free "set" (by kernel_rfl)) (re_lc (own := [(".0", 12), ("at", 13)]) hc hN (ri_range1 (gl_of (by kernel_rfl)) (MO.free "range" (by kernel_rfl)) (ra_cons re_int ra_nil)) (blkB_ok (by kernel_rfl)) (fun _ _ _ _ _ => (f_gnamew (i := 13) (by kernel_rfl) hN (by kernel_rfl) (.inr (eqK_ok (by kernel_rfl))))) (fun _ _ _ _ _ => rts_nil) (fun _ _ _ _ _ => (f_call C__law_take hr (by kernel_rfl) (by kernel_rfl) (ra_cons (f_v (i := 1) (by kernel_rfl)) (ra_cons re_int ra_nil)))))) ra_nil)))
  (rs_one (rs_for (vs := [8, 9]) (fun _ _ => passes_of rfl) hc (ri_seq (re_tup (ra_cons (f_v (i := 10) (by kernel_rfl)) (ra_cons (f_v (i := 11) (by kernel_rfl)) (ra_cons (re_ty c_list (gl_of (by kernel_rfl)) (MO.free "list" (by kernel_rfl)) rfl (ra_cons (f_v (i := 11) (by kernel_rfl)) ra_nil)) (ra_cons (re_rev (f_v (i := 11) (by kernel_rfl))) (ra_cons (re_op o_add (f_v (i := 11) (by kernel_rfl)) (f_v (i := 11) (by kernel_rfl))) (ra_cons (re_tup ra_nil) (ra_cons re_non (ra_cons re_int ra_nil)))))))))) (f_gname (i := 8) hN (by kernel_rfl) (.inl rfl))
  (rs_cons (f_set (i := 9) hN (by kernel_rfl) (.inl rfl) (re_and (re_isi (f_v (i := 8) (by kernel_rfl)) (gl_of (by kernel_rfl)) (MO.free "isinstance" (by kernel_rfl)) (gl_of (by kernel_rfl)) (MO.free "tuple" (by kernel_rfl)) rfl) (re_and (re_cmp (o_ne hu) (f_v (i := 8) (by kernel_rfl)) (re_tup ra_nil)) (re_one (re_cmp (o_eq hu) (re_lc (own := [(".0", 12), ("one", 14)]) hc hN (ri_seq (f_v (i := 8) (by kernel_rfl))) (blkB_ok (by kernel_rfl)) (fun _ _ _ _ _ => (f_gnamew (i := 14) (by kernel_rfl) hN (by kernel_rfl) (.inr (eqK_ok (by kernel_rfl))))) (fun _ _ _ _ _ => (rts_one (rt_not (rt_val (f_call C__law_is_int hr (by kernel_rfl) (by kernel_rfl) (ra_cons (f_v (i := 14) (by kernel_rfl)) ra_nil)))))) (fun _ _ _ _ _ => re_int)) (re_lst ra_nil))))))
  (rs_cons (f_set (i := 9) hN (by kernel_rfl) (.inl rfl) (re_and (f_v (i := 9) (by kernel_rfl)) (re_one (re_cmp (o_eq hu) (re_lc (own := [(".0", 12), ("one", 14)]) hc hN (ri_seq (f_v (i := 8) (by kernel_rfl))) (blkB_ok (by kernel_rfl)) (fun _ _ _ _ _ => (f_gnamew (i := 14) (by kernel_rfl) hN (by kernel_rfl) (.inr (eqK_ok (by kernel_rfl))))) (fun _ _ _ _ _ => (rts_one (rt_not (rt_chain o_le o_lt isB_le isB_lt re_int (f_v (i := 14) (by kernel_rfl)) (f_v (i := 6) (by kernel_rfl)))))) (fun _ _ _ _ _ => re_int)) (re_lst ra_nil)))))
  (rs_cons (f_set (i := 9) hN (by kernel_rfl) (.inl rfl) (re_and (f_v (i := 9) (by kernel_rfl)) (re_one (re_cmp (o_eq hu) (re_lc (own := [(".0", 12), ("one", 14), ("other", 15)]) hc hN (ri_zip (gl_of (by kernel_rfl)) (MO.free "zip" (by kernel_rfl)) (ra_cons (f_v (i := 8) (by kernel_rfl)) (ra_cons (re_slice (f_v (i := 8) (by kernel_rfl)) (ro_some re_int) ro_none) ra_nil))) (blkB_ok (by kernel_rfl)) (fun _ _ _ _ _ => (rgw_tup hc (rgws_cons (f_gnamew (i := 14) (by kernel_rfl) hN (by kernel_rfl) (.inr (eqK_ok (by kernel_rfl)))) (rgws_cons (f_gnamew (i := 15) (by kernel_rfl) hN (by kernel_rfl) (.inr (eqK_ok (by kernel_rfl)))) rgws_nil)))) (fun _ _ _ _ _ => (rts_one (rt_cmp o_ge isB_ge (f_v (i := 14) (by kernel_rfl)) (f_v (i := 15) (by kernel_rfl))))) (fun _ _ _ _ _ => re_int)) (re_lst ra_nil)))))
  (rs_one (rs_if (rt_not (rt_val (f_call C__law_alike hr (by kernel_rfl) (by kernel_rfl) (ra_cons (f_call C_is_index_lot hr (by kernel_rfl) (by kernel_rfl) (ra_cons (f_v (i := 8) (by kernel_rfl)) (ra_cons (f_v (i := 6) (by kernel_rfl)) ra_nil))) (ra_cons (f_v (i := 9) (by kernel_rfl)) ra_nil)))))
  (rs_one (rs_ret re_bl))
  rs_nil))))))))))))))))
  (rs_one (rs_ret re_bl))))
def dn_is_integer : He.DefD := ⟨("is_integer", none), "is_integer", "is_integer", defArgs (top 4), defBody (top 4), defScope (top 4), [], []⟩
def dn_is_name : He.DefD := ⟨("is_name", none), "is_name", "is_name", defArgs (top 6), defBody (top 6), defScope (top 6), [], []⟩
def dn__law_take : He.DefD := ⟨("_law_take", none), "_law_take", "_law_take", defArgs (top 10), defBody (top 10), defScope (top 10), [], []⟩
def dn__law_bag : He.DefD := ⟨("_law_bag", none), "_law_bag", "_law_bag", defArgs (top 12), defBody (top 12), defScope (top 12), [], []⟩
def dn__law_alike : He.DefD := ⟨("_law_alike", none), "_law_alike", "_law_alike", defArgs (top 13), defBody (top 13), defScope (top 13), [], []⟩
def dn__law_is_int : He.DefD := ⟨("_law_is_int", none), "_law_is_int", "_law_is_int", defArgs (top 14), defBody (top 14), defScope (top 14), [], []⟩
def dn__law_is_name : He.DefD := ⟨("_law_is_name", none), "_law_is_name", "_law_is_name", defArgs (top 15), defBody (top 15), defScope (top 15), [], []⟩
def dn__law_are_unlike : He.DefD := ⟨("_law_are_unlike", none), "_law_are_unlike", "_law_are_unlike", defArgs (top 17), defBody (top 17), defScope (top 17), [], []⟩
def dn_is_within : He.DefD := ⟨("is_within", none), "is_within", "is_within", defArgs (top 5), defBody (top 5), defScope (top 5), [], []⟩
def dn_are_names : He.DefD := ⟨("are_names", none), "are_names", "are_names", defArgs (top 7), defBody (top 7), defScope (top 7), [], []⟩
def dn__law_some : He.DefD := ⟨("_law_some", none), "_law_some", "_law_some", defArgs (top 11), defBody (top 11), defScope (top 11), [], []⟩
def dn_is_index_lot : He.DefD := ⟨("is_index_lot", none), "is_index_lot", "is_index_lot", defArgs (top 8), defBody (top 8), defScope (top 8), [], []⟩
def dn__law_word : He.DefD := ⟨("_law_word", none), "_law_word", "_law_word", defArgs (top 16), defBody (top 16), defScope (top 16), [], []⟩
def dn_law : He.DefD := ⟨("law", none), "law", "law", defArgs (top 18), defBody (top 18), defScope (top 18), [], []⟩
def fn_ : List He.DefD := [dn_is_integer, dn_is_name, dn__law_take, dn__law_bag, dn__law_alike, dn__law_is_int, dn__law_is_name, dn__law_are_unlike, dn_is_within, dn_are_names, dn__law_some, dn_is_index_lot, dn__law_word, dn_law]
def fa_ : List He.Fa := [.glo "is_integer", .glo "is_name", .glo "_law_take", .glo "_law_bag", .glo "_law_alike", .glo "_law_is_int", .glo "_law_is_name", .glo "_law_are_unlike", .glo "is_within", .glo "are_names", .glo "_law_some", .glo "is_index_lot", .glo "_law_word", .glo "law", .free "abs", .free "all", .free "bool", .free "int", .free "isinstance", .free "len", .free "list", .free "range", .free "set", .free "sorted", .free "str", .free "tuple", .free "zip"]
def loose : List Str := (["LETTERS", "RESERVED", "MOST_NAME", "is_integer", "is_within", "is_name", "are_names", "is_index_lot", "_law_take", "_law_some", "_law_bag", "_law_alike", "_law_is_int", "_law_is_name", "_law_word", "_law_are_unlike"] : List Str)
abbrev R_ : PySem.W.OpenRow := PySem.W.OpenLaw.row PySem.Challenge.rw_smallwatchers_k01_forms_of_any_values
abbrev hk : PySem.W.Hook := hookS 4 fa_ fn_ cs
def ob (s : PySem.W.SharedT) : AlS := obsSG 4 fa_ fn_ cs (HandSHeadRun.getT s)
theorem ob_eq (s : PySem.W.SharedT) : ob s = hk.obs s.abs := obsSG_eq (HandSHeadRun.getT_eq s)
theorem run (w : World) : HandSHeadRun.RunEq R_ (PySem.W.view R_.prog [18]) hk ob 40000 loose w := by
  intro os
  kernel_rfl
theorem facts {P : Program} {w : World} {K : Frag} {h : Heap} {mg : Str → Option Value} {f : Addr} (X : K.In h) (G : h.Ns mainGlobals mg) (hfa : mg ("law" : Str) = some (.ref f)) (c : SaysS fa_ fn_ cs K) :
    ∃ fd : FuncData, (∀ (s : Shared) (v : Value), BindsTo s fd ⟨[v], []⟩ [("script", v)]) ∧ ∀ base : Heap, K.In base → base.Ns mainGlobals mg → FnOk P w K mg base (L2.CX P w) 4 f fd ["script"] (spF K mg F_law 1) := by
  have MO : Mo K mg fr cs := c.mo X G (by kernel_rfl)
  obtain ⟨fd_is_integer, D_is_integer⟩ := c.d.def_ 0 (d := dn_is_integer) rfl
  obtain ⟨fd_is_name, D_is_name⟩ := c.d.def_ 1 (d := dn_is_name) rfl
  obtain ⟨fd__law_take, D__law_take⟩ := c.d.def_ 2 (d := dn__law_take) rfl
  obtain ⟨fd__law_bag, D__law_bag⟩ := c.d.def_ 3 (d := dn__law_bag) rfl
  obtain ⟨fd__law_alike, D__law_alike⟩ := c.d.def_ 4 (d := dn__law_alike) rfl
  obtain ⟨fd__law_is_int, D__law_is_int⟩ := c.d.def_ 5 (d := dn__law_is_int) rfl
  obtain ⟨fd__law_is_name, D__law_is_name⟩ := c.d.def_ 6 (d := dn__law_is_name) rfl
  obtain ⟨fd__law_are_unlike, D__law_are_unlike⟩ := c.d.def_ 7 (d := dn__law_are_unlike) rfl
  obtain ⟨fd_is_within, D_is_within⟩ := c.d.def_ 8 (d := dn_is_within) rfl
  obtain ⟨fd_are_names, D_are_names⟩ := c.d.def_ 9 (d := dn_are_names) rfl
  obtain ⟨fd__law_some, D__law_some⟩ := c.d.def_ 10 (d := dn__law_some) rfl
  obtain ⟨fd_is_index_lot, D_is_index_lot⟩ := c.d.def_ 11 (d := dn_is_index_lot) rfl
  obtain ⟨fd__law_word, D__law_word⟩ := c.d.def_ 12 (d := dn__law_word) rfl
  obtain ⟨fd_law, D_law⟩ := c.d.def_ 13 (d := dn_law) rfl
  have e := hfa.symm.trans (He.glo_ok X G (c.d.fact 13 (f := .glo "law") rfl))
  cases e
  have b := FunD.bindsA (ps := ["script"]) D_law fun _ _ _ _ _ _ us hl => match us, hl with | [_], _ => rfl
  refine ⟨fd_law, fun s v => b s [v] rfl, fun base _ _ => ?_⟩
  have C_is_integer := ok_is_integer (P := P) (w := w) (base := base) MO D_is_integer (He.glo_ok X G (c.d.fact 0 (f := .glo "is_integer") rfl)) 
  have C_is_name := ok_is_name (P := P) (w := w) (base := base) MO D_is_name (He.glo_ok X G (c.d.fact 1 (f := .glo "is_name") rfl)) 
  have C__law_take := ok__law_take (P := P) (w := w) (base := base) MO D__law_take (He.glo_ok X G (c.d.fact 2 (f := .glo "_law_take") rfl)) 
  have C__law_bag := ok__law_bag (P := P) (w := w) (base := base) MO D__law_bag (He.glo_ok X G (c.d.fact 3 (f := .glo "_law_bag") rfl)) 
  have C__law_alike := ok__law_alike (P := P) (w := w) (base := base) MO D__law_alike (He.glo_ok X G (c.d.fact 4 (f := .glo "_law_alike") rfl)) 
  have C__law_is_int := ok__law_is_int (P := P) (w := w) (base := base) MO D__law_is_int (He.glo_ok X G (c.d.fact 5 (f := .glo "_law_is_int") rfl)) 
  have C__law_is_name := ok__law_is_name (P := P) (w := w) (base := base) MO D__law_is_name (He.glo_ok X G (c.d.fact 6 (f := .glo "_law_is_name") rfl)) 
  have C__law_are_unlike := ok__law_are_unlike (P := P) (w := w) (base := base) MO D__law_are_unlike (He.glo_ok X G (c.d.fact 7 (f := .glo "_law_are_unlike") rfl)) 
  have C_is_within := ok_is_within (P := P) (w := w) (base := base) MO D_is_within (He.glo_ok X G (c.d.fact 8 (f := .glo "is_within") rfl)) (C_is_integer.up rfl)
  have C_are_names := ok_are_names (P := P) (w := w) (base := base) MO D_are_names (He.glo_ok X G (c.d.fact 9 (f := .glo "are_names") rfl)) (C_is_name.up rfl)
  have C__law_some := ok__law_some (P := P) (w := w) (base := base) MO D__law_some (He.glo_ok X G (c.d.fact 10 (f := .glo "_law_some") rfl)) (C__law_take.up rfl)
  have C_is_index_lot := ok_is_index_lot (P := P) (w := w) (base := base) MO D_is_index_lot (He.glo_ok X G (c.d.fact 11 (f := .glo "is_index_lot") rfl)) (C_is_within.up rfl)
  have C__law_word := ok__law_word (P := P) (w := w) (base := base) MO D__law_word (He.glo_ok X G (c.d.fact 12 (f := .glo "_law_word") rfl)) (C__law_some.up rfl)
  exact ok_law MO D_law hfa (C_is_integer.up rfl) (C_is_name.up rfl) (C__law_take.up rfl) (C__law_bag.up rfl) (C__law_alike.up rfl) (C__law_is_int.up rfl) (C__law_is_name.up rfl) (C__law_are_unlike.up rfl) (C_is_within.up rfl) (C_are_names.up rfl) (C__law_some.up rfl) (C_is_index_lot.up rfl) (C__law_word.up rfl)
end Sw.K01
open PySem PySem.W PySem.Calls PyProof.Rows
theorem PySem.Challenge.cw_smallwatchers_k01_forms_of_any_values_holds : PySem.Challenge.rw_smallwatchers_k01_forms_of_any_values.Holds := by
  w_on; o_law
  refine HandSHeadRun.head_any (r := OpenLaw.row PySem.Challenge.rw_smallwatchers_k01_forms_of_any_values) (q := view (OpenLaw.row PySem.Challenge.rw_smallwatchers_k01_forms_of_any_values).prog [18]) (H := Sw.K01.hk) (ob := Sw.K01.ob) (M := 40000) (loose := Sw.K01.loose) (d := HandSHeadRun.topDef (OpenLaw.row PySem.Challenge.rw_smallwatchers_k01_forms_of_any_values).prog 18) (kwd := []) Sw.K01.ob_eq
    (by kernel_rfl) (fun s => by kernel_rfl) Sw.K01.run (by kernel_rfl) (by kernel_rfl) (by kernel_rfl) (by rfl) (by first | assumption | decide +kernel) (by decide +kernel) ⟨rfl, rfl, rfl, rfl, rfl, by decide +kernel⟩ ?hw ?hc
  case hw => w_witness2
  case hc =>
    refine Sw.walk_ofX (l := PySem.Challenge.rw_smallwatchers_k01_forms_of_any_values) (n := 63) (k := 4) (x := "script") rfl (by decide) (by kernel_rfl) ⟨rfl, by decide, by decide⟩ Sw.K01.law_true ?W
    intro w mg fa h Y G hmg0
    obtain ⟨K, KX, c⟩ := Y
    have hmg : mg ("law" : PySem.Str) = some (.ref fa) := by
      have e : (HandSHeadRun.topDef (OpenLaw.row PySem.Challenge.rw_smallwatchers_k01_forms_of_any_values).prog 18).name = ("law" : PySem.Str) := by kernel_rfl
      rw [← e]
      exact hmg0
    obtain ⟨fd, hb, hF⟩ := Sw.K01.facts (P := (PySem.Challenge.rw_smallwatchers_k01_forms_of_any_values).prog) (w := w) KX G hmg c
    exact ⟨K, fd, KX, hb, hF⟩
