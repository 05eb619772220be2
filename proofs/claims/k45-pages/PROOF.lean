import PyProof.Rows.All
import Wide.All
import OpenK.AllK
import Wide.FinOn
import HandS.ForMost
import KE.SortData
import KE.SortKeyHeap
import PyProof.EqLayable
import HandS.Exc
import HandS.More
import HandS.ExcOwn
import HandS.Wide
import HandS.TupAny
import HandS.Text
import HandS.Deep
import HandS.Style
import HandS.Conv
import HandS.IsInst
import HandS.RaiseMore
import HandS.FStr
import HandS.Codes
import HandS.Comp
import HandS.Zip
import HandS.Defaults
import HandS.Zip0
import KE.GoesZip
import HandS.Head0
import HandS.Head1
import HandS.Head2
import HandS.HeadEnd
import HandS.HeadHook1
import HandS.HeadHook2
import HandS.HeadHook3
import HandS.HeadHook4
import PySem.Challenge.RW_dunnage_k45_pages_written
set_option Elab.async false
set_option linter.all false
set_option maxRecDepth 100000
set_option maxHeartbeats 0
/-! MpA: a mini interpreter: values as trees, a store of cells that may be changed, expressions and statements without positions. -/
namespace MP
open PySem L2

/-- a value: a tree; ref i is the cell i of the store -/
inductive D where
  | non | bl (b : Bool) | int (i : Int) | str (s : Str)
  | tup (xs : List D) | lst (xs : List D) | dct (kvs : List (Key × D))
  | ref (i : Nat)
  | exn (c : Nat) (p : Option Int)
  /-- a list that is read alone: the script -/
  | scr (xs : List D)
  /-- a dict of the text, with text keys -/
  | kdc (kvs : List (Key × D))
  deriving Inhabited

inductive Cell where
  | lst (xs : List D) | dct (kvs : List (Key × D)) | ins (c : Nat) (fs : List (Nat × D))
  deriving Inhabited
abbrev Sto := List Cell
abbrev Env := List (Option D)
/-- what may be changed: the cells from a number on, but some -/
structure Bar where
  lo : Nat
  lk : List Nat
abbrev Bar.can (b : Bar) (i : Nat) : Bool := decide (b.lo ≤ i) && !b.lk.contains i
abbrev shutBar (st : Sto) : Bar := ⟨st.length, []⟩

inductive Res (α : Type) where
  | ok (a : α) (st : Sto)
  | exn (c : Nat) (p : Option Int) (st : Sto)
  | bad
namespace Res
def bind {α β : Type} (r : Res α) (k : α → Sto → Res β) : Res β := match r with
  | ok a st => k a st
  | exn c p st => exn c p st
  | bad => bad
end Res
abbrev RD := Res D

inductive Op where
  | add | sub | mul | fdiv | mod | pow
  deriving DecidableEq
inductive Cop where
  | eq | ne | lt | le | gt | ge
  deriving DecidableEq
/-- builtin functions of one or two arguments -/
inductive BF where
  | len | abs | min | max | sum | any | all | int | str | list | tuple | dict | sorted | sset
  deriving DecidableEq
/-- methods of built-in types -/
inductive BM where
  | append | extend | pop | get | join | split | index | clear | reverse | values | replace
  deriving DecidableEq
/-- what isinstance asks: a built-in type, a class of the program's -/
inductive Tc where
  | bool | int | str | list | tuple | valueError | cls (c : Nat)
  deriving DecidableEq
/-- what a loop walks: a list, tuple or text; a dict's keys; a range; zip; enumerate -/
inductive IK where
  | val | keys | vals | range1 | range2 | zip | enum
  deriving DecidableEq

inductive E where
  | non | bl (b : Bool) | int (i : Int) | str (s : Str)
  | var (i : Nat) | glob (g : Nat)
  | op (o : Op) (a b : E) | catc (a b : E)
  | neg (a : E) | not (a : E)
  | and (es : List E) | or (es : List E) | orv (a b : E)
  | cmp (o : Cop) (a b : E) | chain (o o' : Cop) (a b c : E)
  | isN (neg : Bool) (a : E) | inn (neg : Bool) (a b : E)
  | ite (c a b : E)
  | call (f : Nat) (keep : Bool) (args : List E)
  | make (c : Nat) (args : List E)
  | meth (o : E) (m : Nat) (keep : Bool) (args : List E)
  | bm (m : BM) (o : E) (args : List E)
  | bf (f : BF) (cell : Bool) (args : List E)
  | sortK (a : E) (f : Nat)
  | isi (a : E) (t : Tc) | isiT (a : E) (ts : List Tc)
  | attr (o : E) (f : Nat)
  | ix (a b : E) | sl (a : E) (lo hi : List E) | rev (a : E)
  | tup (es : List E) | lst (cell : Bool) (es : List E) | dct (cell : Bool) (kvs : List E)
  | lc (cell : Bool) (elt : E) (tg : List Nat) (one : Bool) (k : IK) (src : List E) (cond : List E)
  | fstr (es : List E)
  /-- never asked -/
  | bad

inductive S where
  | expr (e : E) | ret (e : E) | retN | pass
  | asg (i : Nat) (e : E) | asgT (is : List Nat) (e : E) | asgP (is : List Nat) (es : List E)
  | asgA (o : E) (f : Nat) (e : E) | asgI (o i e : E)
  | ite (c : E) (a b : List S)
  | whl (c : E) (b : List S)
  | forr (tg : List Nat) (one : Bool) (k : IK) (src : List E) (body : List S)
  | raise (c : Nat) (args : List E) (fromNone : Bool)
  | tryy (body : List S) (cs : List Nat) (nm : Option Nat) (suites : List (List S))
  /-- never reached -/
  | bad

structure Fn where
  np : Nat
  ns : Nat
  body : List S

/-- what the text around gives: calls (with the barrier), methods, inits, constants, which class stands under which -/
structure Ctx where
  call : Nat → Bar → List D → Sto → RD
  meth : Nat → Nat → Option Nat
  init : Nat → Option Nat
  glob : Nat → Option D
  sub : Nat → Tc → Bool
  whl : Nat

/-! ### plain operations -/
/-- sizes: lists, texts -/
def LIM : Nat := 16777216
@[irreducible] def BIG : Nat := 2 ^ 400000
@[irreducible] def BIG2 : Nat := 2 ^ 8000
def W64 : Nat := 2 ^ 62

def asL (st : Sto) : D → Option (List D)
  | .lst xs => some xs
  | .ref i => match st[i]? with
    | some (.lst xs) => some xs
    | _ => none
  | _ => none
def asT : D → Option (List D)
  | .tup xs => some xs
  | _ => none
def asK (st : Sto) : D → Option (List (Key × D))
  | .dct xs => some xs
  | .ref i => match st[i]? with
    | some (.dct xs) => some xs
    | _ => none
  | _ => none
def key : D → Option Key
  | .int i => some (.inl i)
  | .str s => some (.inr s)
  | _ => none
def unkey : Key → D
  | .inl i => .int i
  | .inr s => .str s
def getK {α : Type} (kvs : List (Key × α)) (k : Key) : Option α := (kvs.find? fun kv => decide (kv.1 = k)).map (·.2)
def putK {α : Type} (kvs : List (Key × α)) (k : Key) (v : α) : List (Key × α) :=
  if kvs.any (fun kv => decide (kv.1 = k)) then kvs.map (fun kv => if kv.1 = k then (kv.1, v) else kv) else kvs ++ [(k, v)]
def delK {α : Type} (kvs : List (Key × α)) (k : Key) : List (Key × α) := kvs.filter fun kv => decide (kv.1 ≠ k)
def mergeK {α : Type} (kvs more : List (Key × α)) : List (Key × α) := more.foldl (fun acc kv => putK acc kv.1 kv.2) kvs
/-- a new list (a cell, or a tree that is never changed) -/
def newL (cell : Bool) (xs : List D) (st : Sto) : RD := if cell then .ok (.ref st.length) (st ++ [.lst xs]) else .ok (.lst xs) st
def newK (cell : Bool) (xs : List (Key × D)) (st : Sto) : RD := if cell then .ok (.ref st.length) (st ++ [.dct xs]) else .ok (.dct xs) st

/-! a tree without cells, as the library's data -/
mutual
def dat (st : Sto) : D → Option PyData
  | .non => some .none
  | .bl b => some (.bool b)
  | .int i => some (.int i)
  | .str s => some (.str s)
  | .tup xs => (dats st xs).map .tuple
  | .lst xs => (dats st xs).map .list
  | .dct _ => none
  | .ref _ => none
  | .exn _ _ => none
  | .scr _ => none
  | .kdc _ => none
def dats (st : Sto) : List D → Option (List PyData)
  | [] => some []
  | x :: xs => match dat st x, dats st xs with
    | some d, some ds => some (d :: ds)
    | _, _ => none
end
/-- a value whose == is asked: a list's cell is read -/
def datS (st : Sto) : D → Option PyData
  | .ref i => match st[i]? with
    | some (.lst xs) => (dats st xs).map .list
    | _ => none
  | d => dat st d

def mapO {α β : Type} (f : α → Option β) : List α → Option (List β)
  | [] => some []
  | x :: xs => match f x, mapO f xs with
    | some y, some ys => some (y :: ys)
    | _, _ => none
/-- at the end of a call: cells from n on become trees -/
def frz (n : Nat) : Nat → Sto → D → Option D
  | 0, _, _ => none
  | k + 1, st, .tup xs => (mapO (frz n k st) xs).map .tup
  | k + 1, st, .lst xs => (mapO (frz n k st) xs).map .lst
  | k + 1, st, .dct kvs => (mapO (fun kv => (frz n k st kv.2).map fun d => (kv.1, d)) kvs).map .dct
  | k + 1, st, .ref i => if i < n then some (.ref i) else match st[i]? with
    | some (.lst xs) => (mapO (frz n k st) xs).map .lst
    | some (.dct kvs) => (mapO (fun kv => (frz n k st kv.2).map fun d => (kv.1, d)) kvs).map .dct
    | _ => none
  | _ + 1, _, .exn _ _ => none
  | _ + 1, _, .scr _ => none
  | _ + 1, _, .kdc _ => none
  | _ + 1, _, d => some d
/-- behind a call that keeps nothing: the store as it was -/
def shut (st : Sto) (r : RD) : RD := match r with
  | .ok d st' => match frz st.length 60 st' d with
    | some d' => .ok d' st
    | none => .bad
  | .exn c p _ => .exn c p st
  | .bad => .bad

/-! ### operators -/
def mulOk (a b : Int) : Bool := decide (a.natAbs < BIG) && decide (b.natAbs < BIG)
def divOk (b : Int) : Bool := decide (0 < b) && decide (b.natAbs < BIG2)
def powOk (a b : Int) : Bool := decide (0 ≤ b) && decide (b ≤ 1000000) && decide (a.natAbs < W64)
def repL {α : Type} (xs : List α) (k : Int) : List α := (List.replicate k.toNat xs).flatten
def opV (st : Sto) (o : Op) (x y : D) : RD := match o, x, y with
  | .add, .int a, .int b => .ok (.int (a + b)) st
  | .sub, .int a, .int b => .ok (.int (a - b)) st
  | .mul, .int a, .int b => if mulOk a b then .ok (.int (a * b)) st else .bad
  | .fdiv, .int a, .int b => if divOk b then .ok (.int (a / b)) st else .bad
  | .mod, .int a, .int b => if decide (0 < b) then .ok (.int (a % b)) st else .bad
  | .pow, .int a, .int b => if powOk a b then .ok (.int (a ^ b.toNat)) st else .bad
  | .add, .str a, .str b => if decide (a.length + b.length ≤ LIM) then .ok (.str (a ++ b)) st else .bad
  | .add, .tup a, .tup b => if decide (a.length + b.length ≤ LIM) then .ok (.tup (a ++ b)) st else .bad
  | .add, x, y => match asL st x, asL st y with
    | some a, some b => if decide (a.length + b.length ≤ LIM) then .ok (.lst (a ++ b)) st else .bad
    | _, _ => .bad
  | .mul, .lst a, .int k => if decide (a.length * k.toNat ≤ LIM) && decide (k < 1000000) && decide (-1000000 < k) then .ok (.lst (repL a k)) st else .bad
  | _, _, _ => .bad
def cmpI (o : Cop) (a b : Int) : Bool := match o with
  | .eq => decide (a = b) | .ne => !decide (a = b) | .lt => decide (a < b) | .le => decide (a ≤ b) | .gt => decide (b < a) | .ge => decide (b ≤ a)
/-- scalars that are compared by themselves -/
def scalD : D → D → Option Bool
  | .str a, .str b => some (decide (a = b))
  | .bl a, .bl b => some (decide (a = b))
  | .int _, .str _ => some false
  | .str _, .int _ => some false
  | _, _ => none
def cmpV (st : Sto) (o : Cop) (x y : D) : RD := match x, y with
  | .int a, .int b => .ok (.bl (cmpI o a b)) st
  | x, y => match o with
    | .eq => match scalD x y with
      | some r => .ok (.bl r) st
      | none => match datS st x, datS st y with
        | some d, some e => if SeqAt.shaped d && SeqAt.shaped e then .ok (.bl (PyData.eqv d e)) st else .bad
        | _, _ => .bad
    | .ne => match scalD x y with
      | some r => .ok (.bl !r) st
      | none => match datS st x, datS st y with
        | some d, some e => if SeqAt.shaped d && SeqAt.shaped e then .ok (.bl (!PyData.eqv d e)) st else .bad
        | _, _ => .bad
    | _ => .bad
/-- flat items: by value -/
def flat : D → Bool
  | .int _ => true | .str _ => true | _ => false
def sameF : D → D → Bool
  | .int a, .int b => decide (a = b)
  | .str a, .str b => decide (a = b)
  | _, _ => false
/-- what a dict has at a key -/
def look (st : Sto) (y x : D) : Option (Option D) := match asK st y with
  | some kvs => (key x).map (getK kvs)
  | none => match y, x with
    | .kdc kvs, .str z => some (getK kvs (.inr z))
    | _, _ => none
def inV (st : Sto) (neg : Bool) (x y : D) : RD := match y with
  | .str z => match x with
    | .str a => match a.cps.toList with
      | [c] => .ok (.bl (neg != decide (c ∈ z.cps.toList))) st
      | _ => .bad
    | _ => .bad
  | y => match look st y x with
    | some r => .ok (.bl (neg != r.isSome)) st
    | none => match y with
      | .tup ys => if flat x && ys.all flat then .ok (.bl (neg != ys.any fun z => sameF z x)) st else .bad
      | y => match datS st x, (asL st y).bind (dats st) with
        | some d, some ds => if SeqAt.shaped d && SeqAt.shaped (.list ds) then .ok (.bl (neg != ds.any fun z => PyData.eqv z d)) st else .bad
        | _, _ => .bad
def ixN (n : Nat) (i : Int) : Option Nat := if 0 ≤ i then (if i < n then some i.toNat else none) else if -(n : Int) ≤ i then some (i + n).toNat else none
def atI {α : Type} (xs : List α) (i : Int) : Option α := (ixN xs.length i).bind fun j => xs[j]?
def opt (st : Sto) : Option D → RD
  | some d => .ok d st
  | none => .bad
def chr1 (c : Nat) : Str := ⟨#[c]⟩
def ixV (st : Sto) (x y : D) : RD := match look st x y with
  | some r => opt st r
  | none => match y with
    | .int i => match x with
      | .tup xs => opt st (atI xs i)
      | .str z => if decide (z.length ≤ LIM) then opt st ((atI z.cps.toList i).map fun c => .str (chr1 c)) else .bad
      | x => opt st ((asL st x).bind fun xs => atI xs i)
    | _ => .bad
/-- the place of a slice's bound -/
def sIx (n d : Nat) : Option Int → Nat
  | none => d
  | some v => if v < 0 then (v + (n : Int)).toNat else min v.toNat n
def cut {α : Type} (xs : List α) (lo hi : Option Int) : List α := (xs.drop (sIx xs.length 0 lo)).take (sIx xs.length xs.length hi - sIx xs.length 0 lo)
def cutS (z : Str) (lo hi : Option Int) : Str := ⟨((z.cps.toList.drop (sIx z.length 0 lo)).take (sIx z.length z.length hi - sIx z.length 0 lo)).toArray⟩
def slV (st : Sto) (x : D) (lo hi : Option Int) : RD := match x with
  | .tup xs => .ok (.tup (cut xs lo hi)) st
  | .scr xs => .ok (.lst (cut xs lo hi)) st
  | .str z => if decide (z.length ≤ LIM) then .ok (.str (cutS z lo hi)) st else .bad
  | x => match asL st x with
    | some xs => .ok (.lst (cut xs lo hi)) st
    | none => .bad
def revV (st : Sto) (x : D) : RD := match asL st x with
  | some xs => .ok (.lst xs.reverse) st
  | none => .bad

/-! ### builtins -/
def allI : List D → Option (List Int)
  | [] => some []
  | .int i :: r => (allI r).map (i :: ·)
  | _ :: _ => none
def allB : List D → Option (List Bool)
  | [] => some []
  | .bl i :: r => (allB r).map (i :: ·)
  | _ :: _ => none
def allS : List D → Option (List Str)
  | [] => some []
  | .str i :: r => (allS r).map (i :: ·)
  | _ :: _ => none
def pairs : List D → Option (List (Key × D))
  | [] => some []
  | .tup [k, v] :: r => match key k, pairs r with
    | some k, some r => some ((k, v) :: r)
    | _, _ => none
  | _ :: _ => none
def maxL : List Int → Int
  | [] => 0
  | [x] => x
  | x :: r => max x (maxL r)
def minL : List Int → Int
  | [] => 0
  | [x] => x
  | x :: r => min x (minL r)
/-- a value as what sorting compares -/
def srt (ds : List D) (st : Sto) : Option (List D) := none
def strOf (i : Int) : Str := (toString i : String)
def bfV (st : Sto) (f : BF) (cell : Bool) (xs : List D) : RD := match f, xs with
  | .len, [.str z] => if decide (z.length ≤ LIM) then .ok (.int z.length) st else .bad
  | .len, [.tup xs] => .ok (.int xs.length) st
  | .len, [x] => match asL st x with
    | some xs => .ok (.int xs.length) st
    | none => .bad
  | .abs, [.int i] => .ok (.int (if i < 0 then -i else i)) st
  | .max, [.int i, .int j] => .ok (.int (if j > i then j else i)) st
  | .min, [.int i, .int j] => .ok (.int (if j < i then j else i)) st
  | .max, [x] => match (asL st x).bind allI with
    | some (n :: ns) => .ok (.int (maxL (n :: ns))) st
    | _ => .bad
  | .min, [x] => match (asL st x).bind allI with
    | some (n :: ns) => .ok (.int (minL (n :: ns))) st
    | _ => .bad
  | .sum, [x] => match (asL st x).bind allI with
    | some ns => .ok (.int ns.sum) st
    | none => .bad
  | .any, [x] => match (asL st x).bind allB with
    | some bs => .ok (.bl (bs.any id)) st
    | none => .bad
  | .all, [x] => match (asL st x).bind allB with
    | some bs => .ok (.bl (bs.all id)) st
    | none => .bad
  | .int, [.int i] => .ok (.int i) st
  | .int, [.bl b] => .ok (.int (if b then 1 else 0)) st
  | .int, [.str z] => match PySem.intText? z with
    | some n => if decide (z.length ≤ 640) then .ok (.int n) st else .bad
    | none => .bad
  | .str, [.str z] => .ok (.str z) st
  | .str, [.int i] => if decide (i.natAbs.log2 < 1920) then .ok (.str (strOf i)) st else .bad
  | .tuple, [.tup xs] => .ok (.tup xs) st
  | .tuple, [x] => match asL st x with
    | some xs => .ok (.tup xs) st
    | none => .bad
  | .list, [.tup xs] => newL cell xs st
  | .list, [x] => match asL st x with
    | some xs => newL cell xs st
    | none => match asK st x with
      | some kvs => newL cell (kvs.map fun kv => unkey kv.1) st
      | none => .bad
  | .dict, [x] => match asK st x with
    | some kvs => newK cell kvs st
    | none => match (asL st x).bind pairs with
      | some kvs => newK cell (mergeK [] kvs) st
      | none => .bad
  | _, _ => .bad
end MP

/-! MpB: the interpreter's run. -/
namespace MP
open PySem L2

def enc (st : Sto) (d : D) : PyData := (dat st d).getD .none
/-- sortable: alike, place by place; all tuples with an item, or none a tuple or None -/
def sortOk (ds : List PyData) : Bool :=
  (ds.all fun d => ds.all fun e => PySem.W.alike d e) && (ds.all fun d => decide (d.depth ≤ 60)) &&
    ((ds.all fun d => match d with
      | .tuple (_ :: _) => true
      | _ => false) || ds.all fun d => match d with
      | .tuple _ => false
      | .none => false
      | _ => true)
/-- triples whose first two are ints: these decide, where no two are the same -/
def two : D → Option (Int × Int)
  | .tup [.int a, .int b, _] => some (a, b)
  | _ => none
def twoOk (xs : List D) : Bool := (xs.all fun x => (two x).isSome) && decide ((xs.map two).Nodup) && decide (xs.length ≤ LIM)
def twoLe (x y : D) : Bool := match two x, two y with
  | some (a, b), some (c, d) => decide (a < c) || (decide (a = c) && decide (b ≤ d))
  | _, _ => true
def sortV (st : Sto) (cell : Bool) (x : D) : RD :=
  let go := fun (xs : List D) => match dats st xs with
    | some ds => if sortOk ds && decide (xs.length ≤ LIM) then newL cell (xs.mergeSort (PySem.W.dataLe false (enc st))) st else if twoOk xs then newL cell (xs.mergeSort twoLe) st else .bad
    | none => if twoOk xs then newL cell (xs.mergeSort twoLe) st else .bad
  match asL st x with
  | some xs => go xs
  | none => match asK st x with
    | some kvs => go (kvs.map fun kv => unkey kv.1)
    | none => .bad

/-- sorted(set(..)) of texts or of ints -/
def undup : List D → List D
  | [] => []
  | [x] => [x]
  | x :: y :: r => if sameF x y then undup (y :: r) else x :: undup (y :: r)
def ssetV (st : Sto) (x : D) : RD := match asL st x with
  | some xs => if xs.all flat then (sortV st false (.lst xs)).bind fun y st1 => match y with
      | .lst ys => .ok (.lst (undup ys)) st1
      | _ => .bad else .bad
  | none => .bad
/-- sorted by a def of one's own, which changes nothing and gives a tuple of ints -/
def keyOf (C : Ctx) (st : Sto) (f : Nat) (x : D) : Option PyData := match shut st (C.call f (shutBar st) [x] st) with
  | .ok d _ => dat st d
  | _ => none
def sortKV (C : Ctx) (st : Sto) (f : Nat) (xs : List D) : RD :=
  if (xs.all fun x => (keyOf C st f x).isSome) && sortOk (xs.map fun x => (keyOf C st f x).getD .none) && decide (xs.length ≤ LIM) then
    .ok (.lst (xs.mergeSort (PySem.W.dataLe false fun x => (keyOf C st f x).getD .none))) st else .bad

/-- a method of a built-in type: lo is the barrier -/
def setC (lo : Bar) (st : Sto) (i : Nat) (c : Cell) (d : D) : RD := if lo.can i then .ok d (st.set i c) else .bad
inductive Kd where
  | list | dict | str | no
  deriving DecidableEq
def kd (st : Sto) : D → Kd
  | .lst _ => .list
  | .dct _ => .dict
  | .kdc _ => .dict
  | .str _ => .str
  | .ref i => match st[i]? with
    | some (.lst _) => .list
    | some (.dct _) => .dict
    | _ => .no
  | _ => .no
def bmOk : BM → Kd → Bool
  | .append, .list => true | .extend, .list => true | .pop, .list => true | .clear, .list => true | .reverse, .list => true | .index, .list => true
  | .pop, .dict => true | .get, .dict => true
  | .join, .str => true | .split, .str => true
  | _, _ => false
def bmV (lo : Bar) (st : Sto) (m : BM) (o : D) (xs : List D) : RD := match m, o, xs with
  | .append, .ref i, [x] => match st[i]? with
    | some (.lst ys) => if decide (ys.length < LIM) then setC lo st i (.lst (ys ++ [x])) .non else .bad
    | _ => .bad
  | .extend, .ref i, [x] => match st[i]?, asL st x with
    | some (.lst ys), some zs => if decide (ys.length + zs.length ≤ LIM) then setC lo st i (.lst (ys ++ zs)) .non else .bad
    | _, _ => .bad
  | .pop, .ref i, [] => match st[i]? with
    | some (.lst ys) => match ys[ys.length - 1]? with
      | some y => setC lo st i (.lst ys.dropLast) y
      | none => .bad
    | _ => .bad
  | .pop, .ref i, [x] => match st[i]? with
    | some (.lst ys) => match x with
      | .int k => match ixN ys.length k with
        | some j => match ys[j]? with
          | some y => setC lo st i (.lst (ys.eraseIdx j)) y
          | none => .bad
        | none => .bad
      | _ => .bad
    | some (.dct kvs) => match key x with
      | some k => match getK kvs k with
        | some v => setC lo st i (.dct (delK kvs k)) v
        | none => .bad
      | none => .bad
    | _ => .bad
  | .pop, .ref i, [x, y] => match st[i]? with
    | some (.dct kvs) => match key x with
      | some k => match getK kvs k with
        | some v => setC lo st i (.dct (delK kvs k)) v
        | none => if lo.can i then .ok y st else .bad
      | none => .bad
    | _ => .bad
  | .clear, .ref i, [] => match st[i]? with
    | some (.lst ys) => setC lo st i (.lst []) .non
    | _ => .bad
  | .reverse, .ref i, [] => match st[i]? with
    | some (.lst ys) => setC lo st i (.lst ys.reverse) .non
    | _ => .bad
  | .get, o, [x, y] => match look st o x with
    | some r => .ok (r.getD y) st
    | none => .bad
  | .join, .str z, [x] => match (asL st x).bind allS with
    | some ys => if decide ((ys.map (·.length)).sum + ys.length * z.length ≤ LIM) then .ok (.str (PySem.Txt.join z ys)) st else .bad
    | none => .bad
  | .split, .str z, [.str b] => if decide (0 < b.length) && decide (z.length + 2 ≤ LIM) then .ok (.lst ((Txt.split z b).map .str)) st else .bad
  | .index, o, [.str z] => match (asL st o).bind allS with
    | some ys => match ys.findIdx? (fun y => decide (y = z)) with
      | some j => if decide (ys.length ≤ LIM) then .ok (.int j) st else .bad
      | none => .bad
    | none => .bad
  | _, _, _ => .bad

/-- isinstance -/
def isiV (C : Ctx) (st : Sto) (x : D) (t : Tc) : Option Bool := match x with
  | .non => some false
  | .bl _ => some (match t with | .bool => true | .int => true | _ => false)
  | .int _ => some (match t with | .int => true | _ => false)
  | .str _ => some (match t with | .str => true | _ => false)
  | .tup _ => some (match t with | .tuple => true | _ => false)
  | .lst _ => some (match t with | .list => true | _ => false)
  | .dct _ => none
  | .scr _ => none
  | .kdc _ => none
  | .ref i => match st[i]? with
    | some (.lst _) => some (match t with | .list => true | _ => false)
    | _ => none
  | .exn c _ => some (C.sub c t)

def getF (fs : List (Nat × D)) (f : Nat) : Option D := (fs.find? fun kv => decide (kv.1 = f)).map (·.2)
def putFd : List (Nat × D) → Nat → D → List (Nat × D)
  | [], f, v => [(f, v)]
  | (g, w) :: r, f, v => if g = f then (f, v) :: r else (g, w) :: putFd r f v
def attrV (st : Sto) (x : D) (f : Nat) : RD := match x with
  | .ref i => match st[i]? with
    | some (.ins _ fs) => opt st (getF fs f)
    | _ => .bad
  | .exn _ (some p) => if f = 0 then .ok (.int p) st else .bad
  | _ => .bad

/-- what is walked: its items, one by one -/
def itemsV (st : Sto) (k : IK) (xs : List D) : Option (List D) := match k, xs with
  | .val, [.tup ys] => some ys
  | .val, [.str z] => some (z.cps.toList.map fun c => .str (chr1 c))
  | .val, [x] => asL st x
  | .keys, [x] => (asK st x).map fun kvs => kvs.map fun kv => unkey kv.1
  | .vals, [x] => (asK st x).map fun kvs => kvs.map fun kv => kv.2
  | .range1, [.int n] => if decide (n < 1000000) && decide (-1000000 < n) then some ((List.range n.toNat).map fun (i : Nat) => .int (i : Int)) else none
  | .range2, [.int a, .int b] => if decide (b < 1000000) && decide (-1000000 < b) && decide (a < 1000000) && decide (-1000000 < a) then some ((List.range (b - a).toNat).map fun (i : Nat) => .int (a + (i : Int))) else none
  | .enum, [x] => (asL st x).map fun ys => ys.mapIdx fun i y => .tup [.int i, y]
  | .zip, [x, y] => match src st x, src st y with
    | some xs, some ys => some (List.zipWith (fun a b => .tup [a, b]) xs ys)
    | _, _ => none
  | _, _ => none
where
  src (st : Sto) : D → Option (List D)
    | .tup ys => some ys
    | .str z => some (z.cps.toList.map fun c => .str (chr1 c))
    | x => asL st x
/-- the cell that a walk reads must stay -/
def cellOf : D → Option Nat
  | .ref i => some i
  | _ => none

/-- an item goes to the loop's names -/
def bindT (one : Bool) (tg : List Nat) (env : Env) (d : D) : Option Env := match one, tg with
  | true, [i] => some (env.set i (some d))
  | false, tg => match d with
    | .tup xs => if xs.length = tg.length then some ((tg.zip xs).foldl (fun e p => e.set p.1 (some p.2)) env) else none
    | _ => none
  | _, _ => none
def wipeE (env : Env) (tg : List Nat) : Env := tg.foldr (fun i e => e.set i none) env

/-- a list comprehension's turns: nothing that stood may change within (the barrier is the store's length) -/
def lcRun (tg : List Nat) (one : Bool) (env : Env) (cond : Env → Sto → Res Bool) (elt : Env → Sto → RD) : List D → Sto → Res (List D)
  | [], st => .ok [] st
  | d :: ds, st => match bindT one tg env d with
    | none => .bad
    | some e => (cond e st).bind fun b st1 => if b then (elt e st1).bind fun y st2 => (lcRun tg one env cond elt ds st2).bind fun ys st3 => .ok (y :: ys) st3
      else lcRun tg one env cond elt ds st1
def pairUp : List D → Option (List (Key × D))
  | [] => some []
  | k :: v :: r => match key k, pairUp r with
    | some k, some r => some ((k, v) :: r)
    | _, _ => none
  | _ => none
def asB : D → Sto → Res Bool
  | .bl b, st => .ok b st
  | _, _ => .bad

def asI : D → Sto → Res (Option Int)
  | .int i, st => .ok (some i) st
  | _, _ => .bad
mutual
def evE (C : Ctx) (lo : Bar) : E → Env → Sto → RD
  | .non, _, st => .ok .non st
  | .bl b, _, st => .ok (.bl b) st
  | .int i, _, st => .ok (.int i) st
  | .str s, _, st => .ok (.str s) st
  | .var i, env, st => match env[i]? with
    | some (some d) => .ok d st
    | _ => .bad
  | .glob g, _, st => opt st (C.glob g)
  | .op o a b, env, st => (evE C lo a env st).bind fun x st1 => (evE C lo b env st1).bind fun y st2 => opV st2 o x y
  | .catc a b, env, st => (evE C lo a env st).bind fun x st1 => (evE C lo b env st1).bind fun y st2 => match asL st2 x, asL st2 y with
    | some a, some b => if decide (a.length + b.length ≤ LIM) then newL true (a ++ b) st2 else .bad
    | _, _ => .bad
  | .neg a, env, st => (evE C lo a env st).bind fun x st1 => match x with
    | .int i => .ok (.int (-i)) st1
    | _ => .bad
  | .not a, env, st => (evE C lo a env st).bind fun x st1 => match x with
    | .bl b => .ok (.bl !b) st1
    | _ => .bad
  | .and es, env, st => evAnd C lo es env st
  | .or es, env, st => evOr C lo es env st
  | .orv a b, env, st => (evE C lo a env st).bind fun x st1 => match asL st1 x with
    | some [] => evE C lo b env st1
    | some _ => .ok x st1
    | none => .bad
  | .cmp o a b, env, st => (evE C lo a env st).bind fun x st1 => (evE C lo b env st1).bind fun y st2 => cmpV st2 o x y
  | .chain o o' a b c, env, st => (evE C lo a env st).bind fun x st1 => (evE C lo b env st1).bind fun y st2 => (cmpV st2 o x y).bind fun z st3 => match z with
    | .bl true => (evE C lo c env st3).bind fun w st4 => cmpV st4 o' y w
    | .bl false => .ok (.bl false) st3
    | _ => .bad
  | .isN neg a, env, st => (evE C lo a env st).bind fun x st1 => .ok (.bl (neg != (match x with | .non => true | _ => false))) st1
  | .inn neg a b, env, st => (evE C lo a env st).bind fun x st1 => (evE C lo b env st1).bind fun y st2 => inV st2 neg x y
  | .ite c a b, env, st => ((evE C lo c env st).bind asB).bind fun k st1 => if k then evE C lo a env st1 else evE C lo b env st1
  | .call f keep args, env, st => (evEs C lo args env st).bind fun xs st1 => if keep then C.call f lo xs st1 else shut st1 (C.call f (shutBar st1) xs st1)
  | .make c args, env, st => (evEs C lo args env st).bind fun xs st1 => match C.init c with
    | some f => match C.call f lo (.ref st1.length :: xs) (st1 ++ [.ins c []]) with
      | .ok .non st2 => .ok (.ref st1.length) st2
      | _ => .bad
    | none => .bad
  | .meth o m keep args, env, st => (evE C lo o env st).bind fun x st1 => match x with
    | .ref i => match st1[i]? with
      | some (.ins c _) => match C.meth c m with
        | some f => (evEs C lo args env st1).bind fun xs st2 => if keep then C.call f lo (.ref i :: xs) st2 else shut st2 (C.call f (shutBar st2) (.ref i :: xs) st2)
        | none => .bad
      | _ => .bad
    | _ => .bad
  | .bm m o args, env, st => (evE C lo o env st).bind fun x st1 => if bmOk m (kd st1 x) then (evEs C lo args env st1).bind fun xs st2 => if kd st2 x = kd st1 x then bmV lo st2 m x xs else .bad else .bad
  | .bf f cell args, env, st => (evEs C lo args env st).bind fun xs st1 => match f, xs with
    | .sorted, [x] => sortV st1 cell x
    | .sset, [x] => ssetV st1 x
    | f, xs => bfV st1 f cell xs
  | .sortK a f, env, st => (evE C lo a env st).bind fun x st1 => match asL st1 x with
    | some xs => sortKV C st1 f xs
    | none => .bad
  | .isi a t, env, st => (evE C lo a env st).bind fun x st1 => match isiV C st1 x t with
    | some b => .ok (.bl b) st1
    | none => .bad
  | .isiT a ts, env, st => (evE C lo a env st).bind fun x st1 => match x with
    | .exn c _ => .ok (.bl (ts.any (C.sub c))) st1
    | _ => .bad
  | .attr o f, env, st => (evE C lo o env st).bind fun x st1 => attrV st1 x f
  | .ix a b, env, st => (evE C lo a env st).bind fun x st1 => (evE C lo b env st1).bind fun y st2 => ixV st2 x y
  | .sl a l h, env, st => (evE C lo a env st).bind fun x st1 => (evBd C lo l env st1).bind fun i st2 => (evBd C lo h env st2).bind fun j st3 => slV st3 x i j
  | .rev a, env, st => (evE C lo a env st).bind fun x st1 => revV st1 x
  | .tup es, env, st => (evEs C lo es env st).bind fun xs st1 => if decide (xs.length ≤ LIM) then .ok (.tup xs) st1 else .bad
  | .lst cell es, env, st => (evEs C lo es env st).bind fun xs st1 => if decide (xs.length ≤ LIM) then newL cell xs st1 else .bad
  | .dct cell kvs, env, st => match kvs with
    | [] => newK cell [] st
    | kvs => (evEs C lo kvs env (st ++ [.dct []])).bind fun xs st1 => match pairUp xs, st1[st.length]? with
      | some kvs, some (.dct []) => if decide (kvs.length ≤ 15) && lo.can st.length then .ok (.ref st.length) (st1.set st.length (.dct (mergeK [] kvs))) else .bad
      | _, _ => .bad
  | .lc cell elt tg one k src cond, env, st => (evEs C lo src env st).bind fun xs st1 => match itemsV st1 k xs with
    | some ds => match lcRun tg one (wipeE env tg) (fun e s => evCond C (shutBar st1) cond e s) (fun e s => evE C (shutBar st1) elt e s) ds st1 with
      | .ok ys st2 => if decide (ys.length ≤ LIM) then newL cell ys st2 else .bad
      | _ => .bad
    | none => .bad
  | .fstr es, env, st => evFs C lo es Str.empty env st
  | .bad, _, _ => .bad
def evEs (C : Ctx) (lo : Bar) : List E → Env → Sto → Res (List D)
  | [], _, st => .ok [] st
  | e :: es, env, st => (evE C lo e env st).bind fun x st1 => (evEs C lo es env st1).bind fun xs st2 => .ok (x :: xs) st2
def evAnd (C : Ctx) (lo : Bar) : List E → Env → Sto → RD
  | [], _, _ => .bad
  | [e], env, st => (evE C lo e env st).bind fun x st1 => match x with
    | .bl b => .ok (.bl b) st1
    | _ => .bad
  | e :: es, env, st => (evE C lo e env st).bind fun x st1 => match x with
    | .bl true => evAnd C lo es env st1
    | .bl false => .ok (.bl false) st1
    | _ => .bad
def evOr (C : Ctx) (lo : Bar) : List E → Env → Sto → RD
  | [], _, _ => .bad
  | [e], env, st => (evE C lo e env st).bind fun x st1 => match x with
    | .bl b => .ok (.bl b) st1
    | _ => .bad
  | e :: es, env, st => (evE C lo e env st).bind fun x st1 => match x with
    | .bl false => evOr C lo es env st1
    | .bl true => .ok (.bl true) st1
    | _ => .bad
def evCond (C : Ctx) (lo : Bar) : List E → Env → Sto → Res Bool
  | [], _, st => .ok true st
  | [e], env, st => (evE C lo e env st).bind asB
  | _, _, _ => .bad
def evBd (C : Ctx) (lo : Bar) : List E → Env → Sto → Res (Option Int)
  | [], _, st => .ok none st
  | [e], env, st => (evE C lo e env st).bind asI
  | _, _, _ => .bad
def evFs (C : Ctx) (lo : Bar) : List E → Str → Env → Sto → RD
  | [], acc, _, st => .ok (.str acc) st
  | e :: es, acc, env, st => (evE C lo e env st).bind fun x st1 => match x with
    | .str z => if decide (acc.length + z.length ≤ LIM) then evFs C lo es (acc ++ z) env st1 else .bad
    | .int i => if decide (i.natAbs.log2 < 1920) && decide (acc.length + (strOf i).length ≤ LIM) then evFs C lo es (acc ++ strOf i) env st1 else .bad
    | _ => .bad
end
end MP

/-! MpC: statements, calls. -/
namespace MP
open PySem L2

inductive Fl where
  | nx (env : Env) | rt (d : D)
inductive SR where
  | ok (f : Fl) (st : Sto)
  | exn (c : Nat) (p : Option Int) (env : Env) (st : Sto)
  | bad
/-- an expression within a statement -/
def SR.of {α : Type} (env : Env) (r : Res α) (k : α → Sto → SR) : SR := match r with
  | .ok a st => k a st
  | .exn c p st => .exn c p env st
  | .bad => .bad
/-- the next statement -/
def SR.seq (r : SR) (k : Env → Sto → SR) : SR := match r with
  | .ok (.nx env) st => k env st
  | r => r

/-- a for's turns -/
def forRun (tg : List Nat) (one : Bool) (body : Env → Sto → SR) : List D → Env → Sto → SR
  | [], env, st => .ok (.nx env) st
  | d :: ds, env, st => match bindT one tg env d with
    | none => .bad
    | some e => (body e st).seq fun env1 st1 => forRun tg one body ds env1 st1
/-- a while's turns -/
def whlRun (test : Env → Sto → Res Bool) (body : Env → Sto → SR) : Nat → Env → Sto → SR
  | 0, _, _ => .bad
  | n + 1, env, st => SR.of env (test env st) fun b st1 => if b then (body env st1).seq fun env1 st2 => whlRun test body n env1 st2 else .ok (.nx env) st1
def setFld (lo : Bar) (st : Sto) (x : D) (f : Nat) (v : D) : Option Sto := match x with
  | .ref i => match st[i]? with
    | some (.ins c fs) => if lo.can i && decide (fs.length < 100) then some (st.set i (.ins c (putFd fs f v))) else none
    | _ => none
  | _ => none
def setIx (lo : Bar) (st : Sto) (x y v : D) : Option Sto := match x with
  | .ref i => if lo.can i then match st[i]? with
    | some (.dct kvs) => match key y with
      | some k => if decide (kvs.length < LIM) then some (st.set i (.dct (putK kvs k v))) else none
      | none => none
    | some (.lst xs) => match y with
      | .int k => match ixN xs.length k with
        | some j => some (st.set i (.lst (xs.set j v)))
        | none => none
      | _ => none
    | _ => none else none
  | _ => none
/-- the barrier of a loop's body: the cells that are walked are locked -/
def walkLo (lo : Bar) (xs : List D) : Bar := ⟨lo.lo, xs.filterMap cellOf ++ lo.lk⟩

mutual
def exS (C : Ctx) (lo : Bar) : S → Env → Sto → SR
  | .expr e, env, st => SR.of env (evE C lo e env st) fun _ st1 => .ok (.nx env) st1
  | .ret e, env, st => SR.of env (evE C lo e env st) fun x st1 => .ok (.rt x) st1
  | .retN, _, st => .ok (.rt .non) st
  | .pass, env, st => .ok (.nx env) st
  | .asg i e, env, st => SR.of env (evE C lo e env st) fun x st1 => .ok (.nx (env.set i (some x))) st1
  | .asgT is e, env, st => SR.of env (evE C lo e env st) fun x st1 => match bindT false is env x with
    | some env1 => .ok (.nx env1) st1
    | none => .bad
  | .asgP is es, env, st => SR.of env (evEs C lo es env st) fun xs st1 => match bindT false is env (.tup xs) with
    | some env1 => .ok (.nx env1) st1
    | none => .bad
  | .asgA o f e, env, st => SR.of env (evE C lo e env st) fun v st1 => SR.of env (evE C lo o env st1) fun x st2 => match setFld lo st2 x f v with
    | some st3 => .ok (.nx env) st3
    | none => .bad
  | .asgI o i e, env, st => SR.of env (evE C lo e env st) fun v st1 => SR.of env (evE C lo o env st1) fun x st2 => SR.of env (evE C lo i env st2) fun y st3 => match setIx lo st3 x y v with
    | some st4 => .ok (.nx env) st4
    | none => .bad
  | .ite c a b, env, st => SR.of env ((evE C lo c env st).bind asB) fun k st1 => if k then exSs C lo a env st1 else exSs C lo b env st1
  | .whl c b, env, st => whlRun (fun e s => (evE C lo c e s).bind asB) (fun e s => exSs C lo b e s) C.whl env st
  | .forr tg one k src body, env, st => SR.of env (evEs C lo src env st) fun xs st1 => match itemsV st1 k xs with
    | some ds => forRun tg one (fun e s => exSs C (walkLo lo xs) body e s) ds env st1
    | none => .bad
  | .raise c args _, env, st => SR.of env (evEs C lo args env st) fun xs st1 => match xs with
    | [.str _] => .exn c none env st1
    | [.int i] => .exn c (some i) env st1
    | _ => .bad
  | .tryy body cs nm suites, env, st => match exSs C lo body env st with
    | .exn c p env1 st1 => exH C lo cs nm suites c p env1 st1
    | r => r
  | .bad, _, _ => .bad
def exSs (C : Ctx) (lo : Bar) : List S → Env → Sto → SR
  | [], env, st => .ok (.nx env) st
  | s :: ss, env, st => (exS C lo s env st).seq fun env1 st1 => exSs C lo ss env1 st1
def exH (C : Ctx) (lo : Bar) : List Nat → Option Nat → List (List S) → Nat → Option Int → Env → Sto → SR
  | h :: hs, nm, su :: sus, c, p, env, st => if C.sub c (.cls h) then (match nm with
      | some i => match exSs C lo su (env.set i (some (.exn c p))) st with
        | .ok (.nx env1) st1 => .ok (.nx (env1.set i none)) st1
        | r => r
      | none => exSs C lo su env st) else exH C lo hs nm sus c p env st
  | [], _, [], c, p, env, st => .exn c p env st
  | _, _, _, _, _, _, _ => .bad
end

/-- a text: its defs, methods, constants -/
structure Txt where
  fn : Nat → Option Fn
  meth : Nat → Nat → Option Nat
  init : Nat → Option Nat
  glob : Nat → Option D
  sub : Nat → Tc → Bool
/-- a call, so deep; whiles take so many turns at most -/
@[irreducible] def whlMost : Nat := 2 ^ 100000
def call (T : Txt) : Nat → Nat → Bar → List D → Sto → RD
  | 0, _, _, _, _ => .bad
  | d + 1, f, lo, xs, st => match T.fn f with
    | some F => if xs.length = F.np then match exSs ⟨call T d, T.meth, T.init, T.glob, T.sub, whlMost⟩ lo F.body (xs.map some ++ List.replicate (F.ns - F.np) none) st with
      | .ok (.nx _) st1 => .ok .non st1
      | .ok (.rt x) st1 => .ok x st1
      | .exn c p _ st1 => .exn c p st1
      | .bad => .bad else .bad
    | none => .bad
abbrev ctx (T : Txt) (d : Nat) : Ctx := ⟨call T d, T.meth, T.init, T.glob, T.sub, whlMost⟩
end MP

/-! MpD: what a tree stands for in the abstract heap; how that stays. -/
namespace MP
open PySem PySem.Spec PyProof.Rows L2

/-! ### trees in the heap -/
/-- a written tuple, a written dict with text keys -/
def KTup (K : PySem.W.Frag) (a : Addr) (xs : List V) : Prop :=
  ∃ (o : Obj) (its : Array Value) (n : Nat), K.lookup a = some o ∧ o.cls = .type "tuple" ∧ o.data = .seq its n ∧ its.size ≤ sizeLine ∧ Vals xs its.toList
/-- a written list -/
def KLst (K : PySem.W.Frag) (a : Addr) (xs : List V) : Prop :=
  ∃ o its n, K.lookup a = some o ∧ o.cls = .type "list" ∧ o.dict = none ∧ o.data = .seq its n ∧ its.size ≤ sizeLine ∧ Vals xs its.toList
def KDic (K : PySem.W.Frag) (w : World) (a : Addr) (kvs : List (Key × V)) : Prop :=
  ∃ es n, KDict K w a es n ∧ (∀ p ∈ kvs, ∃ z, p.1 = Sum.inr z) ∧ ∀ z : Str, ∃ r, PySem.W.nsIn K a z = some r ∧ RelO (valV kvs (Sum.inr z)) r
/-- an exception that a suite holds: its address, class, field -/
structure XR where
  /-- an exception that a suite holds: its address, class, field -/
  ex : Addr → Nat → Option Int → Prop
  /-- objects under way, that no value shows -/
  hid : Addr → Prop
/-- neither a cell nor hidden -/
def Fr (xr : XR) (al : List Addr) (a : Addr) : Prop := a ∉ al ∧ ¬ xr.hid a

mutual
inductive Rep (K : PySem.W.Frag) (w : World) (xr : XR) (al : List Addr) (H : Hp) : V → D → Prop
  | non : Rep K w xr al H .non .non
  | bl (b : Bool) : Rep K w xr al H (.bl b) (.bl b)
  | int (i : Int) : Rep K w xr al H (.int i) (.int i)
  | str (x : Str) : Rep K w xr al H (.str x) (.str x)
  | tup {a : Addr} {vs : List V} {ds : List D} : ((Rd H a (.tup vs) ∧ Fr xr al a) ∨ KTup K a vs) → Reps K w xr al H vs ds → Rep K w xr al H (.ref a) (.tup ds)
  | lst {a : Addr} {vs : List V} {ds : List D} : H a = some (.lst vs) → Fr xr al a → Reps K w xr al H vs ds → Rep K w xr al H (.ref a) (.lst ds)
  | scr {a : Addr} {vs : List V} {ds : List D} : ((Rd H a (.lst vs) ∧ Fr xr al a) ∨ KLst K a vs) → Reps K w xr al H vs ds → Rep K w xr al H (.ref a) (.scr ds)
  | dct {a : Addr} {vs : List (Key × V)} {ds : List (Key × D)} : Rd H a (.dK vs) → Fr xr al a → RepK K w xr al H vs ds → Rep K w xr al H (.ref a) (.dct ds)
  | kdc {a : Addr} {vs : List (Key × V)} {ds : List (Key × D)} : KDic K w a vs → RepK K w xr al H vs ds → Rep K w xr al H (.ref a) (.kdc ds)
  | ref {i : Nat} {a : Addr} : al[i]? = some a → Rep K w xr al H (.ref a) (.ref i)
  | exn {a : Addr} {c : Nat} {p : Option Int} : xr.ex a c p → Rep K w xr al H (.ref a) (.exn c p)
inductive Reps (K : PySem.W.Frag) (w : World) (xr : XR) (al : List Addr) (H : Hp) : List V → List D → Prop
  | nil : Reps K w xr al H [] []
  | cons {v : V} {vs : List V} {d : D} {ds : List D} : Rep K w xr al H v d → Reps K w xr al H vs ds → Reps K w xr al H (v :: vs) (d :: ds)
inductive RepK (K : PySem.W.Frag) (w : World) (xr : XR) (al : List Addr) (H : Hp) : List (Key × V) → List (Key × D) → Prop
  | nil : RepK K w xr al H [] []
  | cons {k : Key} {v : V} {vs : List (Key × V)} {d : D} {ds : List (Key × D)} : Rep K w xr al H v d → RepK K w xr al H vs ds → RepK K w xr al H ((k, v) :: vs) ((k, d) :: ds)
end

section
variable {K : PySem.W.Frag} {w : World} {xr : XR} {al al' : List Addr} {H H' : Hp}
/-- trees stay: what they read may be read, and is no cell -/
structure Stay (xr : XR) (al al' : List Addr) (H H' : Hp) : Prop where
  refs : ∀ (i : Nat) a, al[i]? = some a → al'[i]? = some a
  rd : ∀ a u, Rd H a u → Fr xr al a → (Rd H' a u ∧ Fr xr al' a)
  ex : ∀ a vs, H a = some (.lst vs) → Fr xr al a → H' a = some (.lst vs)
mutual
theorem Rep.stay (S : Stay xr al al' H H') : ∀ {v : V} {d : D}, Rep K w xr al H v d → Rep K w xr al' H' v d
  | _, _, .non => .non
  | _, _, .bl b => .bl b
  | _, _, .int i => .int i
  | _, _, .str x => .str x
  | _, _, .tup h r => .tup (h.elim (fun q => .inl (S.rd _ _ q.1 q.2)) .inr) (Reps.stay S r)
  | _, _, .lst h n r => .lst (S.ex _ _ h n) (S.rd _ _ (.inl h) n).2 (Reps.stay S r)
  | _, _, .scr h r => .scr (h.elim (fun q => .inl (S.rd _ _ q.1 q.2)) .inr) (Reps.stay S r)
  | _, _, .dct h n r => .dct (S.rd _ _ h n).1 (S.rd _ _ h n).2 (RepK.stay S r)
  | _, _, .kdc h r => .kdc h (RepK.stay S r)
  | _, _, .ref e => .ref (S.refs _ _ e)
  | _, _, .exn e => .exn e
theorem Reps.stay (S : Stay xr al al' H H') : ∀ {vs : List V} {ds : List D}, Reps K w xr al H vs ds → Reps K w xr al' H' vs ds
  | _, _, .nil => .nil
  | _, _, .cons a b => .cons (Rep.stay S a) (Reps.stay S b)
theorem RepK.stay (S : Stay xr al al' H H') : ∀ {vs : List (Key × V)} {ds : List (Key × D)}, RepK K w xr al H vs ds → RepK K w xr al' H' vs ds
  | _, _, .nil => .nil
  | _, _, .cons a b => .cons (Rep.stay S a) (RepK.stay S b)
end
mutual
theorem Rep.conv {xr' : XR} (he : ∀ a c p, xr.ex a c p → xr'.ex a c p) (hr : ∀ (i : Nat) a, al[i]? = some a → al'[i]? = some a) (hF : ∀ a o, H a = some o → Fr xr al a → Fr xr' al' a) : ∀ {v : V} {d : D}, Rep K w xr al H v d → Rep K w xr' al' H v d
  | _, _, .non => .non
  | _, _, .bl b => .bl b
  | _, _, .int i => .int i
  | _, _, .str x => .str x
  | _, _, .tup h r => .tup (h.elim (fun q => .inl ⟨q.1, q.1.elim (fun e => hF _ _ e q.2) fun ⟨_, e⟩ => hF _ _ e q.2⟩) .inr) (Reps.conv he hr hF r)
  | _, _, .lst h n r => .lst h (hF _ _ h n) (Reps.conv he hr hF r)
  | _, _, .scr h r => .scr (h.elim (fun q => .inl ⟨q.1, q.1.elim (fun e => hF _ _ e q.2) fun ⟨_, e⟩ => hF _ _ e q.2⟩) .inr) (Reps.conv he hr hF r)
  | _, _, .dct h n r => .dct h (h.elim (fun e => hF _ _ e n) fun ⟨_, e⟩ => hF _ _ e n) (RepK.conv he hr hF r)
  | _, _, .kdc h r => .kdc h (RepK.conv he hr hF r)
  | _, _, .ref e => .ref (hr _ _ e)
  | _, _, .exn e => .exn (he _ _ _ e)
theorem Reps.conv {xr' : XR} (he : ∀ a c p, xr.ex a c p → xr'.ex a c p) (hr : ∀ (i : Nat) a, al[i]? = some a → al'[i]? = some a) (hF : ∀ a o, H a = some o → Fr xr al a → Fr xr' al' a) : ∀ {vs : List V} {ds : List D}, Reps K w xr al H vs ds → Reps K w xr' al' H vs ds
  | _, _, .nil => .nil
  | _, _, .cons a b => .cons (Rep.conv he hr hF a) (Reps.conv he hr hF b)
theorem RepK.conv {xr' : XR} (he : ∀ a c p, xr.ex a c p → xr'.ex a c p) (hr : ∀ (i : Nat) a, al[i]? = some a → al'[i]? = some a) (hF : ∀ a o, H a = some o → Fr xr al a → Fr xr' al' a) : ∀ {vs : List (Key × V)} {ds : List (Key × D)}, RepK K w xr al H vs ds → RepK K w xr' al' H vs ds
  | _, _, .nil => .nil
  | _, _, .cons a b => .cons (Rep.conv he hr hF a) (RepK.conv he hr hF b)
end
theorem Stay.refl : Stay xr al al H H := ⟨fun _ _ e => e, fun _ _ r n => ⟨r, n⟩, fun _ _ e _ => e⟩
theorem Stay.trans {al2 : List Addr} {H2 : Hp} (a : Stay xr al al' H H') (b : Stay xr al' al2 H' H2) : Stay xr al al2 H H2 :=
  ⟨fun i c e => b.refs i c (a.refs i c e), fun c u r n => let ⟨r', n'⟩ := a.rd c u r n; b.rd c u r' n', fun c vs e n => b.ex c vs (a.ex c vs e n) (a.rd c _ (.inl e) n).2⟩

theorem Reps.length : ∀ {vs : List V} {ds : List D}, Reps K w xr al H vs ds → vs.length = ds.length
  | _, _, .nil => rfl
  | _, _, .cons _ r => congrArg (· + 1) r.length
theorem RepK.length : ∀ {vs : List (Key × V)} {ds : List (Key × D)}, RepK K w xr al H vs ds → vs.length = ds.length
  | _, _, .nil => rfl
  | _, _, .cons _ r => congrArg (· + 1) r.length
theorem Reps.get : ∀ {vs : List V} {ds : List D} {i : Nat} {d : D}, Reps K w xr al H vs ds → ds[i]? = some d → ∃ v, vs[i]? = some v ∧ Rep K w xr al H v d
  | _, _, _, _, .nil, e => by simp at e
  | _, _, 0, d, .cons r _, e => by simp at e; subst e; exact ⟨_, rfl, r⟩
  | _, _, i + 1, d, .cons _ t, e => by
    obtain ⟨v, h1, h2⟩ := Reps.get (i := i) (d := d) t (by simpa using e)
    exact ⟨v, by simpa using h1, h2⟩
theorem Reps.getV : ∀ {vs : List V} {ds : List D} {i : Nat} {v : V}, Reps K w xr al H vs ds → vs[i]? = some v → ∃ d, ds[i]? = some d ∧ Rep K w xr al H v d
  | _, _, _, _, .nil, e => by simp at e
  | _, _, 0, v, .cons r _, e => by simp at e; subst e; exact ⟨_, rfl, r⟩
  | _, _, i + 1, v, .cons _ t, e => by
    obtain ⟨d, h1, h2⟩ := Reps.getV (i := i) (v := v) t (by simpa using e)
    exact ⟨d, by simpa using h1, h2⟩
theorem Reps.append : ∀ {vs vs' : List V} {ds ds' : List D}, Reps K w xr al H vs ds → Reps K w xr al H vs' ds' → Reps K w xr al H (vs ++ vs') (ds ++ ds')
  | _, _, _, _, .nil, s => s
  | _, _, _, _, .cons r t, s => .cons r (Reps.append t s)
theorem Reps.take : ∀ {vs : List V} {ds : List D} (n : Nat), Reps K w xr al H vs ds → Reps K w xr al H (vs.take n) (ds.take n)
  | _, _, 0, _ => by simp; exact .nil
  | _, _, _ + 1, .nil => by simp; exact .nil
  | _, _, n + 1, .cons r t => by simp only [List.take_succ_cons]; exact .cons r (Reps.take n t)
theorem Reps.drop : ∀ {vs : List V} {ds : List D} (n : Nat), Reps K w xr al H vs ds → Reps K w xr al H (vs.drop n) (ds.drop n)
  | _, _, 0, r => by simpa using r
  | _, _, _ + 1, .nil => by simp; exact .nil
  | _, _, n + 1, .cons _ t => by simp only [List.drop_succ_cons]; exact Reps.drop n t
theorem Reps.set {v : V} {d : D} (r : Rep K w xr al H v d) : ∀ {vs : List V} {ds : List D} (i : Nat), Reps K w xr al H vs ds → Reps K w xr al H (vs.set i v) (ds.set i d)
  | _, _, _, .nil => by simp; exact .nil
  | _, _, 0, .cons _ t => by simp only [List.set_cons_zero]; exact .cons r t
  | _, _, i + 1, .cons q t => by simp only [List.set_cons_succ]; exact .cons q (Reps.set r i t)
theorem Reps.eraseIdx : ∀ {vs : List V} {ds : List D} (i : Nat), Reps K w xr al H vs ds → Reps K w xr al H (vs.eraseIdx i) (ds.eraseIdx i)
  | _, _, _, .nil => by simp; exact .nil
  | _, _, 0, .cons _ t => by simp only [List.eraseIdx_cons_zero]; exact t
  | _, _, i + 1, .cons q t => by simp only [List.eraseIdx_cons_succ]; exact .cons q (Reps.eraseIdx i t)
theorem Reps.reverse {vs : List V} {ds : List D} (h : Reps K w xr al H vs ds) : Reps K w xr al H vs.reverse ds.reverse := by
  suffices q : ∀ {vs : List V} {ds : List D}, Reps K w xr al H vs ds → Reps K w xr al H vs.reverse ds.reverse from q h
  intro vs
  induction vs with
  | nil => intro ds h; cases h; exact .nil
  | cons v vs ih =>
    intro ds h
    cases h with
    | cons r t => rw [List.reverse_cons, List.reverse_cons]; exact (ih t).append (.cons r .nil)
theorem Reps.dropLast {vs : List V} {ds : List D} (h : Reps K w xr al H vs ds) : Reps K w xr al H vs.dropLast ds.dropLast := by
  rw [List.dropLast_eq_take, List.dropLast_eq_take, h.length]
  exact h.take _
/-! dicts -/
theorem getK_eq (kvs : List (Key × D)) (k : Key) : getK kvs k = (kvs.find? fun kv => decide (kv.1 = k)).map (·.2) := rfl
theorem RepK.get : ∀ {vs : List (Key × V)} {ds : List (Key × D)} (k : Key), RepK K w xr al H vs ds → (valV vs k = none ∧ getK ds k = none) ∨ ∃ v d, valV vs k = some v ∧ getK ds k = some d ∧ Rep K w xr al H v d
  | _, _, _, .nil => .inl ⟨rfl, rfl⟩
  | (j, v) :: vs, _ :: ds, k, .cons r t => by
    by_cases e : j = k
    · exact .inr ⟨v, _, by simp [valV, List.find?_cons, e], by simp [getK, List.find?_cons, e], r⟩
    · rcases RepK.get k t with h | ⟨v', d', h1, h2, h3⟩
      · exact .inl ⟨by rw [valV_neg e]; exact h.1, by have := h.2; simp only [getK, List.find?_cons, e, decide_false, Bool.false_eq_true, if_false] at this ⊢; exact this⟩
      · exact .inr ⟨v', d', by rw [valV_neg e]; exact h1, by simp only [getK, List.find?_cons, e, decide_false, Bool.false_eq_true, if_false] at h2 ⊢; exact h2, h3⟩
theorem RepK.any (k : Key) : ∀ {vs : List (Key × V)} {ds : List (Key × D)}, RepK K w xr al H vs ds → (vs.any fun kv => decide (kv.1 = k)) = ds.any fun kv => decide (kv.1 = k)
  | _, _, .nil => rfl
  | (j, v) :: vs, _ :: ds, .cons r t => by simp only [List.any_cons, RepK.any k t]
theorem RepK.append : ∀ {vs vs' : List (Key × V)} {ds ds' : List (Key × D)}, RepK K w xr al H vs ds → RepK K w xr al H vs' ds' → RepK K w xr al H (vs ++ vs') (ds ++ ds')
  | _, _, _, _, .nil, s => s
  | _, _, _, _, .cons r t, s => .cons r (RepK.append t s)
theorem RepK.repl {v : V} {d : D} (r : Rep K w xr al H v d) (k : Key) : ∀ {vs : List (Key × V)} {ds : List (Key × D)}, RepK K w xr al H vs ds →
    RepK K w xr al H (vs.map fun kv => if kv.1 = k then (kv.1, v) else kv) (ds.map fun kv => if kv.1 = k then (kv.1, d) else kv)
  | _, _, .nil => .nil
  | (j, v') :: vs, (_, d') :: ds, .cons q t => by
    simp only [List.map_cons]
    by_cases e : j = k
    · simp only [e, if_true]; exact .cons r (RepK.repl r k t)
    · simp only [e, if_false]; exact .cons q (RepK.repl r k t)
theorem putK_any {α : Type} (kvs : List (Key × α)) (k : Key) (v : α) : MP.putK kvs k v = if kvs.any (fun kv => decide (kv.1 = k)) = true then kvs.map (fun kv => if kv.1 = k then (kv.1, v) else kv) else kvs ++ [(k, v)] := by
  unfold MP.putK; rfl
theorem RepK.put {vs : List (Key × V)} {ds : List (Key × D)} {v : V} {d : D} (h : RepK K w xr al H vs ds) (k : Key) (r : Rep K w xr al H v d) : RepK K w xr al H (L2.putK vs k v) (MP.putK ds k d) := by
  rw [putK_any]
  unfold L2.putK
  rw [h.any k]
  split
  · exact h.repl r k
  · exact h.append (.cons r .nil)
theorem RepK.drop : ∀ {vs : List (Key × V)} {ds : List (Key × D)} (k : Key), RepK K w xr al H vs ds → RepK K w xr al H (dropK vs k) (delK ds k)
  | _, _, _, .nil => .nil
  | (j, v) :: vs, (_, d) :: ds, k, .cons r t => by
    have ih := RepK.drop k t
    unfold dropK delK at ih ⊢
    by_cases e : j = k
    · rw [List.filter_cons_of_neg (by simp [e]), List.filter_cons_of_neg (by simp [e])]
      exact ih
    · rw [List.filter_cons_of_pos (by simp [e]), List.filter_cons_of_pos (by simp [e])]
      exact .cons r ih
theorem RepK.merge : ∀ {more : List (Key × V)} {mds : List (Key × D)} {vs : List (Key × V)} {ds : List (Key × D)}, RepK K w xr al H more mds → RepK K w xr al H vs ds → RepK K w xr al H (L2.mergeK vs more) (MP.mergeK ds mds)
  | _, _, _, _, .nil, h => h
  | (k, v) :: more, (_, d) :: mds, vs, ds, .cons r t, h => by
    show RepK K w xr al H (L2.mergeK (L2.putK vs k v) more) (MP.mergeK (MP.putK ds k d) mds)
    exact RepK.merge t (h.put k r)
theorem unkey_kV (k : Key) : Rep K w xr al H (kV k) (unkey k) := by
  cases k with
  | inl i => exact .int i
  | inr s => exact .str s
theorem RepK.keys : ∀ {vs : List (Key × V)} {ds : List (Key × D)}, RepK K w xr al H vs ds → Reps K w xr al H (vs.map fun kv => kV kv.1) (ds.map fun kv => unkey kv.1)
  | _, _, .nil => .nil
  | (k, v) :: vs, (_, d) :: ds, .cons r t => .cons (unkey_kV k) (RepK.keys t)
theorem RepK.vals : ∀ {vs : List (Key × V)} {ds : List (Key × D)}, RepK K w xr al H vs ds → Reps K w xr al H (vs.map fun kv => kv.2) (ds.map fun kv => kv.2)
  | _, _, .nil => .nil
  | (k, v) :: vs, (_, d) :: ds, .cons r t => .cons r (RepK.vals t)
theorem key_rep {v : V} {d : D} {k : Key} (r : Rep K w xr al H v d) (e : key d = some k) : v = kV k := by
  cases d <;> simp [key] at e
  · subst e; cases r; rfl
  · subst e; cases r; rfl
end
end MP

/-! MpE: the store in the abstract heap, what a run leaves, readings. -/
namespace MP
open PySem PySem.Spec PyProof.Rows L2

/-- what the text's head gives: where defs, classes, constants stand; names -/
structure Lk where
  P : Program
  w : World
  K : PySem.W.Frag
  mg : Str → Option Value
  T : Txt
  ca : Nat → Addr
  fl : Nat → Str
  me : Nat → Str
  fa : Nat → Addr
  fd : Nat → FuncData
  ps : Nat → List Str
  nF : Nat → Str → Bool
  nC : Nat → Str → Bool
  nG : Nat → Str → Bool
  okC : Nat → Bool
  okF : Nat → Bool

section
variable (L : Lk) (xr : XR)
abbrev Rp (al : List Addr) (H : Hp) (v : V) (d : D) : Prop := Rep L.K L.w xr al H v d
/-- an instance's attributes -/
inductive RepF (al : List Addr) (H : Hp) : List (Str × V) → List (Nat × D) → Prop
  | nil : RepF al H [] []
  | cons {f : Nat} {v : V} {d : D} {fs : List (Str × V)} {gs : List (Nat × D)} : L.okF f = true → Rep L.K L.w xr al H v d → RepF al H fs gs → RepF al H ((L.fl f, v) :: fs) ((f, d) :: gs)
def CellR (bar : Bar) (al : List Addr) (H : Hp) (i : Nat) (a : Addr) : Cell → Prop
  | .lst ds => ∃ vs, H a = some (.lst vs) ∧ Reps L.K L.w xr al H vs ds
  | .dct ds => ∃ vs, Rd H a (.dK vs) ∧ (bar.can i = true → H a = some (.dK vs)) ∧ RepK L.K L.w xr al H vs ds
  | .ins c fs => ∃ dx fs', H a = some (.ins (L.ca c) dx fs') ∧ RepF L xr al H fs' fs ∧ L.okC c = true ∧ fs.length ≤ 100
structure StR (bar : Bar) (al : List Addr) (H : Hp) (st : Sto) : Prop where
  len : al.length = st.length
  nd : al.Nodup
  cell : ∀ i c a, st[i]? = some c → al[i]? = some a → CellR L xr bar al H i a c
  hid : ∀ a, xr.hid a → a ∉ al ∧ ∃ o, H a = some o
end
/-- what a run leaves: cells more, all else as it stood but the cells that may be changed -/
structure Ext (bar : Bar) (al : List Addr) (H : Hp) (al' : List Addr) (H' : Hp) : Prop where
  pre : ∃ more, al' = al ++ more ∧ ∀ p ∈ more, H p = none
  keep : ∀ a o, H a = some o → (∀ i, al[i]? = some a → bar.can i = false) → H' a = some o
section
variable {L : Lk} {xr : XR} {bar : Bar} {al al' al1 al2 : List Addr} {H H' H1 H2 : Hp} {st : Sto}
theorem Ext.refl : Ext bar al H al H := ⟨⟨[], by simp, fun _ h => nomatch h⟩, fun _ _ e _ => e⟩
theorem Ext.refs (x : Ext bar al H al' H') : ∀ (i : Nat) a, al[i]? = some a → al'[i]? = some a := fun i a e => by
  obtain ⟨⟨more, rfl, hn⟩, k⟩ := x
  rw [List.getElem?_append_left (List.getElem?_eq_some_iff.mp e).1]; exact e
theorem Ext.stay (x : Ext bar al H al' H') : Stay xr al al' H H' := by
  obtain ⟨⟨more, rfl, hn⟩, k⟩ := x
  refine ⟨fun i a e => ?_, fun a u r n => ?_, fun a vs e n => k a _ e fun i ei => absurd (List.mem_of_getElem? ei) n.1⟩
  · rw [List.getElem?_append_left (List.getElem?_eq_some_iff.mp e).1]; exact e
  · have nw : ∀ i, al[i]? = some a → bar.can i = false := fun i e => absurd (List.mem_of_getElem? e) n.1
    have nm : ∀ o, H a = some o → a ∉ al ++ more := fun o e hm => by
      rcases List.mem_append.mp hm with h | h
      · exact n.1 h
      · rw [hn a h] at e; cases e
    rcases r with r | ⟨o, r⟩
    · exact ⟨.inl (k a _ r nw), nm _ r, n.2⟩
    · exact ⟨.inr ⟨o, k a _ r nw⟩, nm _ r, n.2⟩
/-- a fresh object that is no cell -/
theorem Ext.new {p : Addr} {o : HO} (h : H p = none) : Ext bar al H al (upd H p o) :=
  ⟨⟨[], by simp, fun _ h => nomatch h⟩, fun a u e _ => by rw [upd_ne (ne_of_none e h)]; exact e⟩
theorem Ext.trans (nd : al2.Nodup) (x : Ext bar al H al1 H1) (y : Ext bar al1 H1 al2 H2) : Ext bar al H al2 H2 := by
  obtain ⟨⟨m1, rfl, n1⟩, k1⟩ := x
  obtain ⟨⟨m2, rfl, n2⟩, k2⟩ := y
  refine ⟨⟨m1 ++ m2, by simp, fun p hp => ?_⟩, fun a o e nw => ?_⟩
  · rcases List.mem_append.mp hp with h | h
    · exact n1 p h
    · have hno : p ∉ al := fun ha => by
        have := List.nodup_append.mp nd
        exact this.2.2 p (List.mem_append_left _ ha) p h rfl
      cases e : H p with
      | none => rfl
      | some o =>
        have := k1 p o e fun i hi => absurd (List.mem_of_getElem? hi) hno
        rw [n2 p h] at this; cases this
  · refine k2 a o (k1 a o e nw) fun i hi => ?_
    by_cases hl : i < al.length
    · rw [List.getElem?_append_left hl] at hi
      exact nw i hi
    · rw [List.getElem?_append_right (by omega)] at hi
      rw [n1 a (List.mem_of_getElem? hi)] at e; cases e
theorem RepF.stay (S : Stay xr al al' H H') : ∀ {fs : List (Str × V)} {gs : List (Nat × D)}, RepF L xr al H fs gs → RepF L xr al' H' fs gs
  | _, _, .nil => .nil
  | _, _, .cons k a b => .cons k (a.stay S) (RepF.stay S b)
theorem RepF.length : ∀ {fs : List (Str × V)} {gs : List (Nat × D)}, RepF L xr al H fs gs → fs.length = gs.length
  | _, _, .nil => rfl
  | _, _, .cons _ _ b => congrArg (· + 1) (RepF.length b)
end

/-! ### environments -/
structure EnvR (L : Lk) (xr : XR) (al : List Addr) (H : Hp) (σ : L2.St) (env : Env) : Prop where
  len : σ.length = env.length
  at_ : ∀ (i : Nat) (d : D), env[i]? = some (some d) → ∃ v, σ[i]? = some (some v) ∧ Rep L.K L.w xr al H v d
section
variable {L : Lk} {xr : XR} {bar : Bar} {al al' : List Addr} {H H' : Hp} {σ : L2.St} {env : Env}
theorem EnvR.stay (S : Stay xr al al' H H') (x : EnvR L xr al H σ env) : EnvR L xr al' H' σ env := ⟨x.len, fun i d e => let ⟨v, h, r⟩ := x.at_ i d e; ⟨v, h, r.stay S⟩⟩
theorem EnvR.set (x : EnvR L xr al H σ env) (i : Nat) {v : V} {d : D} (r : Rep L.K L.w xr al H v d) : EnvR L xr al H (σ.set i (some v)) (env.set i (some d)) := by
  refine ⟨by simp [x.len], fun j e h => ?_⟩
  by_cases hj : i = j
  · subst hj
    by_cases hl : i < env.length
    · rw [List.getElem?_set_self hl] at h
      cases h
      exact ⟨v, List.getElem?_set_self (by rw [x.len]; exact hl), r⟩
    · rw [List.getElem?_eq_none (by simpa using hl)] at h; cases h
  · rw [List.getElem?_set_ne hj] at h ⊢
    exact x.at_ j e h
theorem EnvR.unset (x : EnvR L xr al H σ env) (i : Nat) : EnvR L xr al H (σ.set i none) (env.set i none) := by
  refine ⟨by simp [x.len], fun j e h => ?_⟩
  by_cases hj : i = j
  · subst hj
    by_cases hl : i < env.length
    · rw [List.getElem?_set_self hl] at h
      cases h
    · rw [List.getElem?_eq_none (by simpa using hl)] at h; cases h
  · rw [List.getElem?_set_ne hj] at h ⊢
    exact x.at_ j e h
theorem EnvR.wipe (x : EnvR L xr al H σ env) : ∀ tg : List Nat, EnvR L xr al H (L2.wipe σ tg) (wipeE env tg)
  | [] => x
  | i :: tg => (EnvR.wipe x tg).unset i
end

/-! ### what is wanted behind a run -/
/-- an exception: its class; its field, in a dict of its own -/
def ExR (L : Lk) (al : List Addr) (H : Hp) (c : Nat) (p : Option Int) (cls : Value) (dd : Option Addr) : Prop :=
  cls = .ref (L.ca c) ∧ match p with
    | none => dd = none
    | some i => ∃ d, dd = some d ∧ d ∉ al ∧ H d = some (.xd [("at", .int i)])
def Post {α β : Type} (L : Lk) (xr : XR) (W : WX) (bar : Bar) (σ : L2.St) (R : List Addr → Hp → β → α → Prop) (al : List Addr) (H : Hp) (r : Res α) (Q : β → Hp → Prop) : Prop := match r with
  | .ok d st => ∀ v al' H', Ext bar al H al' H' → StR L xr bar al' H' st → R al' H' v d → Q v H'
  | .exn c p st => ∀ cls dd al' H', Ext bar al H al' H' → StR L xr bar al' H' st → ExR L al' H' c p cls dd → W cls dd σ H'
  | .bad => False
section
variable {α β γ δ : Type} {L : Lk} {xr : XR} {W : WX} {bar : Bar} {σ : L2.St} {R : List Addr → Hp → β → α → Prop} {R' : List Addr → Hp → δ → γ → Prop} {al al1 : List Addr} {H H1 : Hp} {st st1 : Sto}
theorem Post.later {r : Res α} {Q : β → Hp → Prop} (h : Post L xr W bar σ R al H r Q) (x : Ext bar al H al1 H1) : Post L xr W bar σ R al1 H1 r Q := by
  cases r with
  | ok d st => exact fun v al' H' y s p => h v al' H' (x.trans s.nd y) s p
  | exn c p st => exact fun cls dd al' H' y s e => h cls dd al' H' (x.trans s.nd y) s e
  | bad => exact h
/-- the first of two steps -/
theorem Post.bind {r : Res α} {k : α → Sto → Res γ} {Q : δ → Hp → Prop} {Q1 : β → Hp → Prop} (h : Post L xr W bar σ R' al H (r.bind k) Q)
    (hk : ∀ d st1 v al1 H1, Ext bar al H al1 H1 → StR L xr bar al1 H1 st1 → R al1 H1 v d → Post L xr W bar σ R' al1 H1 (k d st1) Q → Q1 v H1) : Post L xr W bar σ R al H r Q1 := by
  cases r with
  | ok d st => exact fun v al' H' y s p => hk d st v al' H' y s p (Post.later (r := k d st) h y)
  | exn c p st => exact h
  | bad => exact h
theorem Post.imp {r : Res α} {Q Q1 : β → Hp → Prop} (h : Post L xr W bar σ R al H r Q) (hk : ∀ v H1, Q v H1 → Q1 v H1) : Post L xr W bar σ R al H r Q1 := by
  cases r with
  | ok d st => exact fun v al' H' y s p => hk _ _ (h v al' H' y s p)
  | exn c p st => exact h
  | bad => exact h
/-- nothing was done -/
theorem Post.now {d : α} {v : β} {Q : β → Hp → Prop} (s : StR L xr bar al H st) (r : R al H v d) (h : Post L xr W bar σ R al H (.ok d st) Q) : Q v H := h v al H .refl s r
end
abbrev RV (L : Lk) (xr : XR) : List Addr → Hp → V → D → Prop := fun al H v d => Rep L.K L.w xr al H v d
abbrev RVs (L : Lk) (xr : XR) : List Addr → Hp → List V → List D → Prop := fun al H v d => Reps L.K L.w xr al H v d
abbrev RB : List Addr → Hp → Bool → Bool → Prop := fun _ _ v d => v = d
/-- an expression's reading by what the interpreter does -/
def rE (L : Lk) (xr : XR) (W : WX) (den : Bar → Env → Sto → RD) : TE := fun σ H Q => ∃ bar al env st, EnvR L xr al H σ env ∧ StR L xr bar al H st ∧ Post L xr W bar σ (RV L xr) al H (den bar env st) Q
def rA (L : Lk) (xr : XR) (W : WX) (den : Bar → Env → Sto → Res (List D)) : TA := fun σ H Q => ∃ bar al env st, EnvR L xr al H σ env ∧ StR L xr bar al H st ∧ Post L xr W bar σ (RVs L xr) al H (den bar env st) Q
def rT (L : Lk) (xr : XR) (W : WX) (den : Bar → Env → Sto → Res Bool) : TT := fun σ H Q => ∃ bar al env st, EnvR L xr al H σ env ∧ StR L xr bar al H st ∧ Post L xr W bar σ RB al H (den bar env st) Q
/-- a weaker reading -/
theorem PE.weak {X : Cx} {e : Expr} {t t' : TE} (h : PE X e t) (hw : ∀ σ H Q, t' σ H Q → t σ H Q) : PE X e t' := ⟨fun pins s σ H Q I q => h.run pins s σ H Q I (hw σ H Q q)⟩
theorem PA.weak {X : Cx} {e : List Expr} {t t' : TA} (h : PA X e t) (hw : ∀ σ H Q, t' σ H Q → t σ H Q) : PA X e t' := ⟨fun pos pins s σ H Q I q => h.run pos pins s σ H Q I (hw σ H Q q)⟩
theorem PT.weak {X : Cx} {e : Expr} {t t' : TT} (h : PT X e t) (hw : ∀ σ H Q, t' σ H Q → t σ H Q) : PT X e t' := ⟨fun pins s σ H Q I q => h.run pins s σ H Q I (hw σ H Q q)⟩
theorem PW.weak {X : Cx} {e : Expr} {t t' : TT} (h : PW X e t) (hw : ∀ σ H Q, t' σ H Q → t σ H Q) : PW X e t' := ⟨fun wh pins s σ H Q I q => h.run wh pins s σ H Q I (hw σ H Q q)⟩
theorem PS.weak {X : Cx} {e : Stmt} {t t' : TS} (h : PS X e t) (hw : ∀ D σ H, t' D σ H → t D σ H) : PS X e t' := ⟨fun pins s σ H D I q => h.run pins s σ H D I (hw D σ H q)⟩
theorem PSs.weak {X : Cx} {e : List Stmt} {t t' : TS} (h : PSs X e t) (hw : ∀ D σ H, t' D σ H → t D σ H) : PSs X e t' := ⟨fun pins s σ H D I q => h.run pins s σ H D I (hw D σ H q)⟩
end MP

/-! MpF: operators by values. -/
namespace MP
open PySem PySem.Spec PyProof.Rows L2

/-- a context over the text -/
structure On (L : Lk) (X : Cx) : Prop where
  prog : X.prog = L.P
  w : X.w = L.w
  K : X.K = L.K
  mg : X.mg = L.mg
section
variable {L : Lk} {X : Cx} {xr : XR} {W : WX} {bar : Bar} {al : List Addr} {H : Hp} {st : Sto}
theorem On.sqT (o : On L X) {a : Addr} {vs : List V} (h : (Rd H a (.tup vs) ∧ Fr xr al a) ∨ KTup L.K a vs) : SqT X.K H a vs := by
  rcases h with h | h
  · exact .inl h.1
  · rw [o.K]; exact .inr h
theorem On.sqL (o : On L X) {a : Addr} {vs : List V} (h : Rd H a (.lst vs)) : SqL X.K H a vs := .inl h
/-- a value that is a list: a tree or a cell -/
theorem asL_rep (s : StR L xr bar al H st) {v : V} {d : D} {ds : List D} (r : Rp L xr al H v d) (e : asL st d = some ds) :
    ∃ a vs, v = .ref a ∧ H a = some (.lst vs) ∧ Reps L.K L.w xr al H vs ds := by
  cases d <;> simp [asL] at e
  · subst e
    cases r with
    | lst h _ q => exact ⟨_, _, rfl, h, q⟩
  · rename_i i
    cases r with
    | ref ea =>
      rename_i a
      cases h : st[i]? with
      | none => rw [h] at e; cases e
      | some c =>
        rw [h] at e
        have q := s.cell i c a h ea
        cases c <;> simp at e
        subst e
        obtain ⟨vs, h1, h3⟩ := q
        exact ⟨a, vs, rfl, h1, h3⟩
theorem asK_rep (s : StR L xr bar al H st) {v : V} {d : D} {ds : List (Key × D)} (r : Rp L xr al H v d) (e : asK st d = some ds) :
    ∃ a vs, v = .ref a ∧ Rd H a (.dK vs) ∧ RepK L.K L.w xr al H vs ds := by
  cases d <;> simp [asK] at e
  · subst e
    cases r with
    | dct h n q => exact ⟨_, _, rfl, h, q⟩
  · rename_i i
    cases r with
    | ref ea =>
      rename_i a
      cases h : st[i]? with
      | none => rw [h] at e; cases e
      | some c =>
        rw [h] at e
        have q := s.cell i c a h ea
        cases c <;> simp at e
        subst e
        obtain ⟨vs, h1, _, h3⟩ := q
        exact ⟨a, vs, rfl, h1, h3⟩
theorem StR.some (s : StR L xr bar al H st) {i : Nat} {a : Addr} (e : al[i]? = some a) : ∃ o, H a = some o := by
  have hl : i < st.length := by rw [← s.len]; exact (List.getElem?_eq_some_iff.mp e).1
  have q := s.cell i st[i] a (List.getElem?_eq_getElem hl) e
  generalize st[i] = c at q
  cases c with
  | lst ds => obtain ⟨vs, h, _⟩ := q; exact ⟨_, h⟩
  | dct ds => obtain ⟨vs, h, _⟩ := q; rcases h with h | ⟨o, h⟩ <;> exact ⟨_, h⟩
  | ins c fs => obtain ⟨dx, fs', h, _⟩ := q; exact ⟨_, h⟩
theorem StR.not_mem (s : StR L xr bar al H st) {p : Addr} (hp : H p = none) : p ∉ al := fun hm => by
  obtain ⟨i, e⟩ := List.mem_iff_getElem?.mp hm
  obtain ⟨o, h⟩ := s.some e
  rw [hp] at h; cases h
theorem StR.fr (s : StR L xr bar al H st) {p : Addr} (hp : H p = none) : Fr xr al p := ⟨s.not_mem hp, fun hh => by
  obtain ⟨_, o, h⟩ := s.hid p hh
  rw [hp] at h; cases h⟩
theorem CellR.move {al' : List Addr} {H' : Hp} {i : Nat} {a : Addr} {c : Cell} (S : Stay xr al al' H H') (e : H' a = H a) (q : CellR L xr bar al H i a c) : CellR L xr bar al' H' i a c := by
  have rd : ∀ u, Rd H a u → Rd H' a u := fun u h => by
    rcases h with h | ⟨o, h⟩
    · exact .inl (e.trans h)
    · exact .inr ⟨o, e.trans h⟩
  cases c with
  | lst ds => obtain ⟨vs, h1, h3⟩ := q; exact ⟨vs, e.trans h1, h3.stay S⟩
  | dct ds => obtain ⟨vs, h1, h2, h3⟩ := q; exact ⟨vs, rd _ h1, fun z => e.trans (h2 z), h3.stay S⟩
  | ins c fs => obtain ⟨dx, fs', h1, h2, h3⟩ := q; exact ⟨dx, fs', e.trans h1, h2.stay S, h3⟩
/-- a fresh object that is no cell -/
theorem StR.new {p : Addr} {o : HO} (s : StR L xr bar al H st) (hp : H p = none) : StR L xr bar al (upd H p o) st :=
  ⟨s.len, s.nd, fun i c a e1 e2 => (s.cell i c a e1 e2).move (Ext.new (bar := bar) hp).stay (upd_ne fun z => s.not_mem hp (z ▸ List.mem_of_getElem? e2)), fun a ha => ⟨(s.hid a ha).1, by
    obtain ⟨_, o', h⟩ := s.hid a ha
    exact ⟨o', by rw [upd_ne (ne_of_none h hp)]; exact h⟩⟩⟩
/-- a fresh cell -/
theorem Ext.push {p : Addr} {o : HO} (hp : H p = none) : Ext bar al H (al ++ [p]) (upd H p o) :=
  ⟨⟨[p], rfl, fun q h => by rw [List.mem_singleton.mp h]; exact hp⟩, fun a u e _ => by rw [upd_ne (ne_of_none e hp)]; exact e⟩
theorem StR.push {p : Addr} {o : HO} {c : Cell} (s : StR L xr bar al H st) (hp : H p = none) (hc : CellR L xr bar (al ++ [p]) (upd H p o) al.length p c) : StR L xr bar (al ++ [p]) (upd H p o) (st ++ [c]) := by
  refine ⟨by simp [s.len], ?_, fun i c' a e1 e2 => ?_, fun a ha => ?_⟩
  rotate_right
  · obtain ⟨n, o', h⟩ := s.hid a ha
    have hne := ne_of_none h hp
    exact ⟨fun hm => (List.mem_append.mp hm).elim n fun hm => hne (List.mem_singleton.mp hm), o', by rw [upd_ne hne]; exact h⟩
  · refine List.nodup_append.mpr ⟨s.nd, by simp, fun a ha b hb => ?_⟩
    rw [List.mem_singleton.mp hb]
    exact fun z => s.not_mem hp (z ▸ ha)
  · by_cases hl : i < al.length
    · rw [List.getElem?_append_left hl] at e2
      rw [List.getElem?_append_left (by rw [← s.len]; exact hl)] at e1
      exact (s.cell i c' a e1 e2).move (Ext.push (bar := bar) hp).stay (upd_ne fun z => s.not_mem hp (z ▸ List.mem_of_getElem? e2))
    · rw [List.getElem?_append_right (by omega)] at e2
      rw [List.getElem?_append_right (by rw [← s.len]; omega)] at e1
      have h0 : i - al.length = 0 := by
        cases h : i - al.length with
        | zero => rfl
        | succ n => rw [h] at e2; simp at e2
      have hi : i = al.length := by omega
      subst hi
      rw [h0] at e2
      rw [s.len] at e1
      simp at e1 e2
      subst e1 e2
      exact hc
/-- a cell is written -/
theorem Stay.write {i : Nat} {a : Addr} {o : HO} (e : al[i]? = Option.some a) : Stay xr al al H (upd H a o) :=
  ⟨fun _ _ h => h, fun b u r n => by
    have hne : b ≠ a := fun z => n.1 (z ▸ List.mem_of_getElem? e)
    refine ⟨?_, n⟩
    rcases r with r | ⟨o', r⟩
    · exact .inl (by rw [upd_ne hne]; exact r)
    · exact .inr ⟨o', by rw [upd_ne hne]; exact r⟩, fun b vs h n => by rw [upd_ne (fun z => n.1 (by rw [z]; exact List.mem_of_getElem? e))]; exact h⟩
theorem Ext.write {i : Nat} {a : Addr} {o : HO} (e : al[i]? = Option.some a) (hc : bar.can i = true) : Ext bar al H al (upd H a o) :=
  ⟨⟨[], by simp, fun _ h => nomatch h⟩, fun b u hb nw => by
    have hne : b ≠ a := fun z => by
      have := nw i (by rw [z]; exact e)
      rw [hc] at this; cases this
    rw [upd_ne hne]; exact hb⟩
theorem StR.write {i : Nat} {a : Addr} {o : HO} {c : Cell} (s : StR L xr bar al H st) (e : al[i]? = Option.some a) (hc : CellR L xr bar al (upd H a o) i a c) : StR L xr bar al (upd H a o) (st.set i c) := by
  refine ⟨by simp [s.len], s.nd, fun j c' b e1 e2 => ?_, fun b hb => ?_⟩
  rotate_right
  · obtain ⟨n, o', h⟩ := s.hid b hb
    exact ⟨n, o', by rw [upd_ne fun z => n (by rw [z]; exact List.mem_of_getElem? e)]; exact h⟩
  by_cases hj : i = j
  · subst hj
    rw [e] at e2; cases e2
    rw [List.getElem?_set_self (by rw [← s.len]; exact (List.getElem?_eq_some_iff.mp e).1)] at e1
    cases e1
    exact hc
  · rw [List.getElem?_set_ne hj] at e1
    refine (s.cell j c' b e1 e2).move (Stay.write e) (upd_ne fun z => hj ?_)
    subst z
    exact (List.getElem?_inj (List.getElem?_eq_some_iff.mp e).1 s.nd).mp (e.trans e2.symm)
/-- new objects as results -/
theorem made_lst {p : Addr} {vs : List V} {ds : List D} {Q : V → Hp → Prop} {σ : L2.St} (s : StR L xr bar al H st) (hp : H p = none) (r : Reps L.K L.w xr al H vs ds)
    (h : Post L xr W bar σ (RV L xr) al H (.ok (.lst ds) st) Q) : Q (.ref p) (upd H p (.lst vs)) :=
  h _ al _ (.new hp) (s.new hp) (.lst upd_same (s.fr hp) (r.stay (Ext.new (bar := bar) hp).stay))
theorem made_tup {p : Addr} {vs : List V} {ds : List D} {Q : V → Hp → Prop} {σ : L2.St} (s : StR L xr bar al H st) (hp : H p = none) (r : Reps L.K L.w xr al H vs ds)
    (h : Post L xr W bar σ (RV L xr) al H (.ok (.tup ds) st) Q) : Q (.ref p) (upd H p (.tup vs)) :=
  h _ al _ (.new hp) (s.new hp) (.tup (.inl ⟨.inl upd_same, s.fr hp⟩) (r.stay (Ext.new (bar := bar) hp).stay))
theorem made_dct {p : Addr} {vs : List (Key × V)} {ds : List (Key × D)} {Q : V → Hp → Prop} {σ : L2.St} (s : StR L xr bar al H st) (hp : H p = none) (r : RepK L.K L.w xr al H vs ds)
    (h : Post L xr W bar σ (RV L xr) al H (.ok (.dct ds) st) Q) : Q (.ref p) (upd H p (.dK vs)) :=
  h _ al _ (.new hp) (s.new hp) (.dct (.inl upd_same) (s.fr hp) (r.stay (Ext.new (bar := bar) hp).stay))
/-- a new list, a tree or a cell -/
theorem made_newL {p : Addr} {vs : List V} {ds : List D} {Q : V → Hp → Prop} {σ : L2.St} {cell : Bool} (s : StR L xr bar al H st) (hp : H p = none) (r : Reps L.K L.w xr al H vs ds)
    (h : Post L xr W bar σ (RV L xr) al H (newL cell ds st) Q) : Q (.ref p) (upd H p (.lst vs)) := by
  cases cell with
  | false => exact made_lst s hp r h
  | true =>
    have x : Ext bar al H (al ++ [p]) (upd H p (.lst vs)) := .push hp
    refine h (.ref p) (al ++ [p]) _ x (s.push hp ⟨vs, upd_same, r.stay x.stay⟩) (.ref ?_)
    rw [← s.len]; simp
theorem made_newK {p : Addr} {vs : List (Key × V)} {ds : List (Key × D)} {Q : V → Hp → Prop} {σ : L2.St} {cell : Bool} (s : StR L xr bar al H st) (hp : H p = none) (r : RepK L.K L.w xr al H vs ds)
    (h : Post L xr W bar σ (RV L xr) al H (newK cell ds st) Q) : Q (.ref p) (upd H p (.dK vs)) := by
  cases cell with
  | false => exact made_dct s hp r h
  | true =>
    have x : Ext bar al H (al ++ [p]) (upd H p (.dK vs)) := .push hp
    refine h (.ref p) (al ++ [p]) _ x (s.push hp ⟨vs, .inl upd_same, fun _ => upd_same, r.stay x.stay⟩) (.ref ?_)
    rw [← s.len]; simp
end
end MP

/-! MpG: operators. -/
namespace MP
open PySem PySem.Spec PyProof.Rows L2

theorem big_log {i : Int} (h : i.natAbs < BIG) : i.natAbs.log2 < 400000 := by
  unfold BIG at h
  exact PySem.Flt.log2_lt_of (by decide) h
theorem big2_log {i : Int} (h : i.natAbs < BIG2) : i.natAbs.log2 < 8000 := by
  unfold BIG2 at h
  exact PySem.Flt.log2_lt_of (by decide) h
def opP : Op → Operator
  | .add => .Add | .sub => .Sub | .mul => .Mult | .fdiv => .FloorDiv | .mod => .Mod | .pow => .Pow
def copP : Cop → CmpOp
  | .eq => .Eq | .ne => .NotEq | .lt => .Lt | .le => .LtE | .gt => .Gt | .ge => .GtE
/-- a rule by values, told by what the interpreter does -/
def r2 (L : Lk) (xr : XR) (f : Sto → D → D → RD) : R2 := fun x y H Q => ∃ (W : WX) (bar : Bar) (σ : L2.St) (al : List Addr) (st : Sto) (d e : D), StR L xr bar al H st ∧ Rp L xr al H x d ∧ Rp L xr al H y e ∧
  Post L xr W bar σ (RV L xr) al H (f st d e) Q
section
variable {L : Lk} {X : Cx} {xr : XR}
theorem lim_line {n : Nat} (h : n ≤ LIM) : n ≤ sizeLine := by rw [sizeLine_eq]; exact h
set_option maxHeartbeats 4000000 in
theorem op_ok (o : On L X) (op : Op) : OpR X (binaryOp (opP op)) (r2 L xr fun st d e => opV st op d e) := by
  intro pins s σ H x y v u Q I rx ry ⟨W, bar, σ', al, st, d, e, S, pd, pe, q⟩
  have hcat : ∀ a b : List D, asL st d = some a → asL st e = some b → a.length + b.length ≤ LIM → Post L xr W bar σ' (RV L xr) al H (.ok (.lst (a ++ b)) st) Q →
      wpAny (model X.prog X.w) X.A (binaryOp .Add v u) (EP X pins σ Q) X.xe s := fun a b ea eb hl q => by
    obtain ⟨l1, vs1, rfl, h1, r1⟩ := asL_rep S pd ea
    obtain ⟨l2, vs2, rfl, h2, r2⟩ := asL_rep S pe eb
    exact op_cat pins s σ H _ _ v u Q I rx ry ⟨l1, l2, vs1, vs2, rfl, rfl, h1, h2, by rw [r1.length, r2.length]; exact lim_line hl, fun p hp => made_lst S hp (r1.append r2) q⟩
  replace q : Post L xr W bar σ' (RV L xr) al H (opV st op d e) Q := q
  unfold opV at q
  split at q
  · cases pd; cases pe
    exact op_add pins s σ H _ _ v u Q I rx ry ⟨_, _, rfl, rfl, Post.now S (.int _) q⟩
  · cases pd; cases pe
    exact op_sub pins s σ H _ _ v u Q I rx ry ⟨_, _, rfl, rfl, Post.now S (.int _) q⟩
  · cases pd; cases pe
    split at q
    · rename_i h
      simp only [mulOk, Bool.and_eq_true, decide_eq_true_eq] at h
      have h1 := big_log h.1
      have h2 := big_log h.2
      exact op_mulW pins s σ H _ _ v u Q I rx ry ⟨_, _, rfl, rfl, by unfold CMulW; omega, Post.now S (.int _) q⟩
    · exact False.elim q
  · cases pd; cases pe
    split at q
    · rename_i h
      simp only [divOk, Bool.and_eq_true, decide_eq_true_eq] at h
      have h2 := big2_log h.2
      exact op_fdivW pins s σ H _ _ v u Q I rx ry ⟨_, _, rfl, rfl, ⟨h.1, by omega⟩, Post.now S (.int _) q⟩
    · exact False.elim q
  · cases pd; cases pe
    split at q
    · rename_i h
      exact op_mod pins s σ H _ _ v u Q I rx ry ⟨_, _, rfl, rfl, of_decide_eq_true h, Post.now S (.int _) q⟩
    · exact False.elim q
  · cases pd; cases pe
    split at q
    · rename_i h
      simp only [powOk, W64, Bool.and_eq_true, decide_eq_true_eq] at h
      have h2 := h.2
      exact op_pow pins s σ H _ _ v u Q I rx ry ⟨_, _, rfl, rfl, ⟨h.1.1, h.1.2, Nat.lt_of_lt_of_le (m := 2 ^ 62) (of_decide_eq_true h.2) (by decide)⟩, Post.now S (.int _) q⟩
    · exact False.elim q
  · cases pd; cases pe
    split at q
    · rename_i h
      exact op_add_str pins s σ H _ _ v u Q I rx ry ⟨_, _, rfl, rfl, lim_line (of_decide_eq_true h), Post.now S (.str _) q⟩
    · exact False.elim q
  · cases pd with
    | tup h1 r1 =>
    cases pe with
    | tup h2 r2 =>
    split at q
    · rename_i a vs b vs2 h
      refine op_catA pins s σ H _ _ v u Q I rx ry ⟨_, _, _, _, rfl, rfl, o.sqT h1, o.sqT h2, by rw [r1.length, r2.length]; exact lim_line (of_decide_eq_true h), fun z => ?_, fun _ z => ?_, fun _ _ p hp => made_tup S hp (r1.append r2) q⟩
      · subst z
        cases r1
        exact Post.now S (.tup h2 r2) q
      · subst z
        cases r2
        rw [List.append_nil] at q
        exact Post.now S (.tup h1 r1) q
    · exact False.elim q
  · split at q
    · split at q
      · rename_i h
        exact hcat _ _ (by assumption) (by assumption) (of_decide_eq_true h) q
      · exact False.elim q
    · exact False.elim q
  · cases pd with
    | lst h1 n1 r1 =>
    cases pe
    split at q
    · rename_i h
      simp only [Bool.and_eq_true, decide_eq_true_eq] at h
      refine op_rep pins s σ H _ _ v u Q I rx ry ⟨_, _, _, rfl, rfl, h1, by omega, by omega, by rw [r1.length]; exact lim_line h.1.1, fun p hp => made_lst S hp ?_ q⟩
      unfold repL
      generalize Int.toNat _ = n
      induction n with
      | zero => exact .nil
      | succ n ih => rw [List.replicate_succ, List.replicate_succ, List.flatten_cons, List.flatten_cons]; exact r1.append ih
    · exact False.elim q
  · exact False.elim q
end
end MP

/-! MpH: comparisons, in, subscripts, slices. -/
namespace MP
open PySem PySem.Spec PyProof.Rows L2
section
variable {L : Lk} {X : Cx} {xr : XR} {W : WX} {bar : Bar} {al : List Addr} {H : Hp} {st : Sto}
/-! data -/
mutual
theorem dat_rep (o : On L X) : ∀ (d : D) (v : V) (p : PyData), Rp L xr al H v d → dat st d = some p → Dp X.K H v p
  | .non, v, p, r, e => by
    simp only [dat, Option.some.injEq] at e; subst e; cases r; exact .non
  | .bl b, v, p, r, e => by
    simp only [dat, Option.some.injEq] at e; subst e; cases r; exact .bl b
  | .int i, v, p, r, e => by
    simp only [dat, Option.some.injEq] at e; subst e; cases r; exact .int i
  | .str z, v, p, r, e => by
    simp only [dat, Option.some.injEq] at e; subst e; cases r; exact .str z
  | .tup xs, v, p, r, e => by
    simp only [dat, Option.map_eq_some_iff] at e
    obtain ⟨ps, e1, rfl⟩ := e
    cases r with
    | tup h q => exact .tup (o.sqT h) (dats_rep o xs _ ps q e1)
  | .lst xs, v, p, r, e => by
    simp only [dat, Option.map_eq_some_iff] at e
    obtain ⟨ps, e1, rfl⟩ := e
    cases r with
    | lst h n q => exact .lst (.inl (.inl h)) (dats_rep o xs _ ps q e1)
  | .dct _, _, _, _, e => by simp [dat] at e
  | .ref _, _, _, _, e => by simp [dat] at e
  | .exn _ _, _, _, _, e => by simp [dat] at e
  | .scr _, _, _, _, e => by simp [dat] at e
theorem dats_rep (o : On L X) : ∀ (ds : List D) (vs : List V) (ps : List PyData), Reps L.K L.w xr al H vs ds → dats st ds = some ps → DpAll X.K H vs ps
  | [], vs, ps, r, e => by
    simp only [dats, Option.some.injEq] at e; subst e; cases r; exact .nil
  | d :: ds, vs, ps, r, e => by
    simp only [dats] at e
    cases r with
    | cons r1 r2 =>
      cases e1 : dat st d with
      | none => rw [e1] at e; simp at e
      | some p =>
        cases e2 : dats st ds with
        | none => rw [e1, e2] at e; simp at e
        | some q =>
          rw [e1, e2] at e
          simp only [Option.some.injEq] at e
          subst e
          exact .cons (dat_rep o d _ p r1 e1) (dats_rep o ds _ q r2 e2)
end
theorem datS_rep (o : On L X) (S : StR L xr bar al H st) {d : D} {v : V} {p : PyData} (r : Rp L xr al H v d) (e : datS st d = some p) : Dp X.K H v p := by
  cases d with
  | ref i =>
    simp only [datS] at e
    cases h : st[i]? with
    | none => rw [h] at e; cases e
    | some c =>
      rw [h] at e
      cases c with
      | lst xs =>
        simp only [Option.map_eq_some_iff] at e
        obtain ⟨ps, e1, rfl⟩ := e
        obtain ⟨a, vs, rfl, h1, h2⟩ := asL_rep S r (ds := xs) (by simp [asL, h])
        exact .lst (.inl (.inl h1)) (dats_rep o xs _ ps h2 e1)
      | dct xs => cases e
      | ins c fs => cases e
  | _ => exact dat_rep o _ _ _ r (by simpa [datS] using e)
theorem scal_rep {x y : V} {d e : D} {r : Bool} (pd : Rp L xr al H x d) (pe : Rp L xr al H y e) (h : scalD d e = some r) : L2.scal x y = true ∧ decide (x = y) = r := by
  have ds : ∀ a b : Str, decide (V.str a = V.str b) = decide (a = b) := fun a b => by
    by_cases h : a = b
    · rw [decide_eq_true h, decide_eq_true (by rw [h])]
    · rw [decide_eq_false h, decide_eq_false (fun e => h (by cases e; rfl))]
  have db : ∀ a b : Bool, decide (V.bl a = V.bl b) = decide (a = b) := fun a b => by
    by_cases h : a = b
    · rw [decide_eq_true h, decide_eq_true (by rw [h])]
    · rw [decide_eq_false h, decide_eq_false (fun e => h (by cases e; rfl))]
  unfold scalD at h
  split at h <;> cases h <;> cases pd <;> cases pe
  · exact ⟨rfl, ds _ _⟩
  · exact ⟨rfl, db _ _⟩
  · exact ⟨rfl, decide_eq_false nofun⟩
  · exact ⟨rfl, decide_eq_false nofun⟩
theorem cmp_ok (o : On L X) (hu : X.A.units + 64 < cLine) (op : Cop) : OpR X (compareOp (copP op)) (r2 L xr fun st d e => cmpV st op d e) := by
  intro pins s σ H x y v u Q I rx ry ⟨W, bar, σ', al, st, d, e, S, pd, pe, q⟩
  replace q : Post L xr W bar σ' (RV L xr) al H (cmpV st op d e) Q := q
  unfold cmpV at q
  split at q
  · cases pd; cases pe
    replace q := Post.now S (.bl _) q
    cases op
    · exact op_eq pins s σ H _ _ v u Q I rx ry ⟨rfl, by rw [dec_int, Bool.beq_eq_decide_eq]; exact q⟩
    · exact op_ne pins s σ H _ _ v u Q I rx ry ⟨rfl, by rw [dec_int, Bool.beq_eq_decide_eq]; exact q⟩
    · exact op_lt pins s σ H _ _ v u Q I rx ry ⟨_, _, rfl, rfl, q⟩
    · exact op_le pins s σ H _ _ v u Q I rx ry ⟨_, _, rfl, rfl, q⟩
    · exact op_gt pins s σ H _ _ v u Q I rx ry ⟨_, _, rfl, rfl, q⟩
    · exact op_ge pins s σ H _ _ v u Q I rx ry ⟨_, _, rfl, rfl, q⟩
  · split at q
    · split at q
      · rename_i r hr
        obtain ⟨h1, h2⟩ := scal_rep pd pe hr
        exact op_eq pins s σ H _ _ v u Q I rx ry ⟨h1, by rw [h2]; exact Post.now S (.bl _) q⟩
      split at q
      · split at q
        · rename_i h
          rw [Bool.and_eq_true] at h
          exact op_eqD hu pins s σ H _ _ v u Q I rx ry ⟨_, _, datS_rep o S pd (by assumption), datS_rep o S pe (by assumption), h.1, h.2, Post.now S (.bl _) q⟩
        · exact False.elim q
      · exact False.elim q
    · split at q
      · rename_i r hr
        obtain ⟨h1, h2⟩ := scal_rep pd pe hr
        exact op_ne pins s σ H _ _ v u Q I rx ry ⟨h1, by rw [h2]; exact Post.now S (.bl _) q⟩
      split at q
      · split at q
        · rename_i h
          rw [Bool.and_eq_true] at h
          exact op_neD hu pins s σ H _ _ v u Q I rx ry ⟨_, _, datS_rep o S pd (by assumption), datS_rep o S pe (by assumption), h.1, h.2, Post.now S (.bl _) q⟩
        · exact False.elim q
      · exact False.elim q
    · exact False.elim q
/-! dicts -/
/-- where a look-up's dict stands -/
theorem look_rep (o : On L X) (S : StR L xr bar al H st) {x y : V} {d e : D} {r : Option D} (pd : Rp L xr al H x d) (pe : Rp L xr al H y e) (h : look st e d = some r) :
    (∃ a k vs, y = .ref a ∧ x = kV k ∧ Rd H a (.dK vs) ∧ ((valV vs k = none ∧ r = none) ∨ ∃ v d', valV vs k = some v ∧ r = some d' ∧ Rp L xr al H v d')) ∨
    ∃ a z es n u, y = .ref a ∧ x = .str z ∧ KDict X.K X.w a es n ∧ PySem.W.nsIn X.K a z = some u ∧ ((u = none ∧ r = none) ∨ ∃ u0 v d', u = some u0 ∧ RelV v u0 ∧ r = some d' ∧ Rp L xr al H v d') := by
  unfold look at h
  split at h
  · rename_i kvs hk
    obtain ⟨k, hkey, rfl⟩ := Option.map_eq_some_iff.mp h
    obtain ⟨a, vs, rfl, ha, hr⟩ := asK_rep S pe hk
    exact .inl ⟨a, k, vs, rfl, key_rep pd hkey, ha, hr.get k⟩
  · split at h
    · rename_i kvs z hk0
      cases h
      cases pd
      cases pe with
      | kdc hk hr =>
        rename_i a vs
        obtain ⟨es, n, hk1, _, hz⟩ := hk
        obtain ⟨u, e1, ru⟩ := hz z
        refine .inr ⟨a, z, es, n, u, rfl, rfl, by rw [o.K, o.w]; exact hk1, by rw [o.K]; exact e1, ?_⟩
        rcases hr.get (.inr z) with ⟨h1, h2⟩ | ⟨v, d, h1, h2, h3⟩
        · rw [h1] at ru
          exact .inl ⟨ru.none_of, h2⟩
        · rw [h1] at ru
          obtain ⟨u0, h4, h5⟩ := ru.some_of
          exact .inr ⟨u0, v, d, h4, h5, h2, h3⟩
    · cases h
/-! in -/
def inP : Bool → CmpOp
  | false => .In | true => .NotIn
theorem flat_rep {v : V} {d : D} (r : Rp L xr al H v d) (h : flat d = true) : flatV v = true := by
  cases d <;> simp [flat] at h <;> cases r <;> rfl
theorem flats_rep : ∀ {vs : List V} {ds : List D}, Reps L.K L.w xr al H vs ds → ds.all flat = true → vs.all flatV = true
  | _, _, .nil, _ => rfl
  | _, _, .cons r t, h => by
    rw [List.all_cons, Bool.and_eq_true] at h
    rw [List.all_cons, flat_rep r h.1, flats_rep t h.2]; rfl
theorem same_rep {x y : V} {d e : D} (r : Rp L xr al H x d) (r' : Rp L xr al H y e) (h : flat d = true) (h' : flat e = true) : eqV y x = sameF e d := by
  cases d <;> simp [flat] at h <;> cases e <;> simp [flat] at h' <;> cases r <;> cases r' <;> simp [eqV, sameF, Bool.beq_eq_decide_eq]
theorem any_rep {x : V} {d : D} (r : Rp L xr al H x d) (h : flat d = true) : ∀ {vs : List V} {ds : List D}, Reps L.K L.w xr al H vs ds → ds.all flat = true → (vs.any fun y => eqV y x) = ds.any fun z => sameF z d
  | _, _, .nil, _ => rfl
  | _, _, .cons q t, g => by
    rw [List.all_cons, Bool.and_eq_true] at g
    rw [List.any_cons, List.any_cons, same_rep r q h g.1, any_rep r h t g.2]
theorem in_ok (o : On L X) (hu : X.A.units + 65 < cLine) (neg : Bool) : OpR X (compareOp (inP neg)) (r2 L xr fun st d e => inV st neg d e) := by
  intro pins s σ H x y v u Q I rx ry ⟨W, bar, σ', al, st, d, e, S, pd, pe, q⟩
  replace q : Post L xr W bar σ' (RV L xr) al H (inV st neg d e) Q := q
  unfold inV at q
  split at q
  · rename_i z
    cases pe
    split at q
    · rename_i a
      cases pd
      split at q
      · rename_i c hc
        have ea : a = ⟨#[c]⟩ := by
          cases a with
          | mk cps => simp only [Str.mk.injEq]; exact Array.toList_inj.mp (by simpa using hc)
        subst ea
        replace q := Post.now S (.bl _) q
        cases neg
        · exact op_in_sign pins s σ H _ _ v u Q I rx ry ⟨c, z, rfl, rfl, by simpa using q⟩
        · exact op_notIn_sign pins s σ H _ _ v u Q I rx ry ⟨c, z, rfl, rfl, by simpa using q⟩
      · exact False.elim q
    · exact False.elim q
  · split at q
    · rename_i r hlk
      replace q := Post.now S (.bl _) q
      rcases look_rep o S pd pe hlk with ⟨a, k, vs, rfl, rfl, ha, hr⟩ | ⟨a, z, es, n, u0, rfl, rfl, hd, e1, hr⟩
      · have hg : DGet H a (kV k) (valV vs k) := .inl ⟨vs, k, ha, rfl, rfl⟩
        have es : (valV vs k).isSome = r.isSome := by
          rcases hr with ⟨h1, h2⟩ | ⟨v', d', h1, h2, h3⟩ <;> rw [h1, h2] <;> rfl
        cases (show u = Value.ref a from ry)
        cases neg
        · exact d_in (by omega) I hg rx fun s' I' => ⟨.bl _, H, I', rfl, by rw [es]; simpa using q⟩
        · exact d_notIn (by omega) I hg rx fun s' I' => ⟨.bl _, H, I', rfl, by rw [es]; simpa using q⟩
      · have es' : u0.isSome = r.isSome := by
          rcases hr with ⟨h1, h2⟩ | ⟨_, _, _, h1, _, h2, _⟩ <;> rw [h1, h2] <;> rfl
        cases neg
        · exact op_in_kd hd pins s σ H _ _ v u Q I rx ry ⟨z, u0, rfl, rfl, e1, by rw [es']; simpa using q⟩
        · exact op_notIn_kd hd pins s σ H _ _ v u Q I rx ry ⟨z, u0, rfl, rfl, e1, by rw [es']; simpa using q⟩
    · split at q
      · split at q
        · rename_i h
          rw [Bool.and_eq_true] at h
          replace q := Post.now S (.bl _) q
          cases pe with
          | tup hp hr =>
            have hany := any_rep pd h.1 hr h.2
            cases neg
            · exact op_in_seq pins s σ H _ _ v u Q I rx ry ⟨_, _, rfl, .inr (o.sqT hp), flat_rep pd h.1, flats_rep hr h.2, by
                show Q (.bl (L2.inV x _)) H
                unfold L2.inV
                rw [hany]; simpa using q⟩
            · exact op_notIn_seq pins s σ H _ _ v u Q I rx ry ⟨_, _, rfl, .inr (o.sqT hp), flat_rep pd h.1, flats_rep hr h.2, by
                show Q (.bl (!L2.inV x _)) H
                unfold L2.inV
                rw [hany]; simpa using q⟩
        · exact False.elim q
      · split at q
        · rename_i pd' ps e1 e2
          split at q
          · rename_i h
            rw [Bool.and_eq_true] at h
            replace q := Post.now S (.bl _) q
            obtain ⟨ds, e3, e4⟩ := Option.bind_eq_some_iff.mp e2
            obtain ⟨a, vs, rfl, h1, h2⟩ := asL_rep S pe e3
            have dy : Dp X.K H (.ref a) (.list ps) := .lst (.inl (.inl h1)) (dats_rep o ds _ ps h2 e4)
            cases neg
            · exact op_inD hu pins s σ H _ _ v u Q I rx ry ⟨_, _, datS_rep o S pd e1, dy, h.1, h.2, by simpa using q⟩
            · exact op_notInD hu pins s σ H _ _ v u Q I rx ry ⟨_, _, datS_rep o S pd e1, dy, h.1, h.2, by simpa using q⟩
          · exact False.elim q
        · exact False.elim q
/-! subscripts -/
theorem ixN_eq (n : Nat) (i : Int) : L2.ixN n i = MP.ixN n i := rfl
theorem atI_rep {vs : List V} {ds : List D} {i : Int} {d : D} (r : Reps L.K L.w xr al H vs ds) (h : MP.atI ds i = some d) : ∃ v, L2.atI vs i = some v ∧ Rp L xr al H v d := by
  unfold MP.atI at h
  obtain ⟨j, e1, e2⟩ := Option.bind_eq_some_iff.mp h
  obtain ⟨v, h1, h2⟩ := r.get e2
  refine ⟨v, ?_, h2⟩
  unfold L2.atI
  rw [r.length, ixN_eq, e1]
  exact h1
theorem ix_dict (hu : X.A.units + 1 < cLine) : IxR X (fun x y H Q => ∃ a k vs v, x = .ref a ∧ y = kV k ∧ Rd H a (.dK vs) ∧ valV vs k = some v ∧ Q v H) := by
  intro value slice pins s σ H x y v u Q I rx ry ⟨a, k, vs, w, e1, e2, h, hv, q⟩ hs
  subst e1 e2
  cases (show v = Value.ref a from rx)
  have g : DGet H a (kV k) (some w) := .inl ⟨vs, k, h, rfl, hv.symm⟩
  exact tail_any (dict_typeIs I g) PySem.F.slot_dict_getitem.lookup (d_getItem hu I g ry fun w' s' I' r' => ⟨w, H, I', r', q⟩) hs
theorem ix_ok (o : On L X) (hu : X.A.units + 1 < cLine) : IxR X (r2 L xr ixV) := by
  intro value slice pins s σ H x y v u Q I rx ry ⟨W, bar, σ', al, st, d, e, S, pd, pe, q⟩ hs
  unfold ixV at q
  split at q
  · rename_i r hlk
    rcases look_rep o S pe pd hlk with ⟨a, k, vs, rfl, rfl, ha, hr⟩ | ⟨a, z, es, n, u0, rfl, rfl, hd, e1, hr⟩
    · rcases hr with ⟨h1, h2⟩ | ⟨v', d', h1, h2, h3⟩
      · subst h2; exact False.elim q
      · subst h2
        exact ix_dict hu value slice pins s σ H _ _ v u Q I rx ry ⟨a, k, vs, v', rfl, rfl, ha, h1, Post.now S h3 q⟩ hs
    · rcases hr with ⟨h1, h2⟩ | ⟨u1, v', d', h1, hrel, h2, h3⟩
      · subst h2; exact False.elim q
      · subst h2 h1
        exact ix_kdict value slice pins s σ H _ _ v u Q I rx ry ⟨a, z, v', rfl, rfl, ⟨es, n, u1, hd.at_, hd.lit, e1, hrel⟩, Post.now S h3 q⟩ hs
  · split at q
    · rename_i i hlk0
      cases pe
      split at q
      · rename_i xs
        cases pd with
        | tup hp hr =>
          cases h : MP.atI xs i with
          | none => rw [h] at q; exact False.elim q
          | some d' =>
            rw [h] at q
            obtain ⟨w, h1, h2⟩ := atI_rep hr h
            exact ix_tup value slice pins s σ H _ _ v u Q I rx ry ⟨_, _, i, w, rfl, rfl, o.sqT hp, h1, Post.now S h2 q⟩ hs
      · rename_i z
        cases pd
        split at q
        · rename_i hl
          cases h : MP.atI z.cps.toList i with
          | none => rw [h] at q; exact False.elim q
          | some c =>
            rw [h] at q
            refine ix_str value slice pins s σ H _ _ v u Q I rx ry ⟨z, i, c, rfl, rfl, lim_line (of_decide_eq_true hl), ?_, Post.now S (.str _) q⟩ hs
            unfold L2.atI
            unfold MP.atI at h
            exact h
        · exact False.elim q
      · cases h : asL st d with
        | none => rw [h] at q; exact False.elim q
        | some ds =>
          rw [h] at q
          obtain ⟨a, vs, rfl, h1, h2⟩ := asL_rep S pd h
          cases h' : MP.atI ds i with
          | none => simp only [Option.bind_some, h'] at q; exact False.elim q
          | some d' =>
            simp only [Option.bind_some, h'] at q
            obtain ⟨w, h3, h4⟩ := atI_rep h2 h'
            exact ix_list value slice pins s σ H _ _ v u Q I rx ry ⟨a, vs, i, w, rfl, rfl, .inl (.inl h1), h3, Post.now S h4 q⟩ hs
    · exact False.elim q
end
end MP

/-! MpI: slices, methods of built-in types. -/
namespace MP
open PySem PySem.Spec PyProof.Rows L2
section
variable {L : Lk} {X : Cx} {xr : XR} {W : WX} {bar : Bar} {al : List Addr} {H : Hp} {st : Sto}
theorem sIx_eq (n d : Nat) (o : Option Int) : HT.sIx n d o = MP.sIx n d o := rfl
theorem cut_rep {vs : List V} {ds : List D} (r : Reps L.K L.w xr al H vs ds) (lo hi : Option Int) : Reps L.K L.w xr al H (cutV vs lo hi) (cut ds lo hi) := by
  unfold cutV cut
  rw [r.length]
  exact (r.drop _).take _
def rSl (L : Lk) (xr : XR) : V → Option Int → Option Int → Hp → VK → Prop := fun x lo hi H Q => ∃ (W : WX) (bar : Bar) (σ : L2.St) (al : List Addr) (st : Sto) (d : D), StR L xr bar al H st ∧ Rp L xr al H x d ∧
  Post L xr W bar σ (RV L xr) al H (slV st d lo hi) Q
theorem sl_ok (o : On L X) : SlR X (rSl L xr) := by
  intro pins s σ H x v vl vu lo hi sl Q I rx hs pl pu ⟨W, bar, σ', al, st, d, S, pd, q⟩
  unfold slV at q
  split at q
  · rename_i xs
    cases pd with
    | tup hp hr =>
      refine sl_tupA pins s σ H _ v vl vu lo hi sl Q I rx hs pl pu ⟨_, _, rfl, o.sqT hp, fun z => ?_, fun _ p hp' => made_tup S hp' (cut_rep hr lo hi) q⟩
      have e : cut xs lo hi = xs := by
        unfold cut
        rw [← hr.length, ← sIx_eq, ← sIx_eq, z.1, z.2]
        simp [hr.length]
      rw [e] at q
      exact Post.now S (.tup hp hr) q
  · rename_i xs
    cases pd with
    | scr h r => exact sl_list pins s σ H _ v vl vu lo hi sl Q I rx hs pl pu ⟨_, _, rfl, h.elim (fun z => .inl z.1) (fun z => .inr (by rw [o.K]; exact z)), fun p hp => made_lst S hp (cut_rep r lo hi) q⟩
  · rename_i z
    cases pd
    split at q
    · rename_i hl
      exact sl_str pins s σ H _ v vl vu lo hi sl Q I rx hs pl pu ⟨z, rfl, lim_line (of_decide_eq_true hl), Post.now S (.str _) q⟩
    · exact False.elim q
  · split at q
    · rename_i xs e
      obtain ⟨a, vs, rfl, h1, h2⟩ := asL_rep S pd e
      exact sl_list pins s σ H _ v vl vu lo hi sl Q I rx hs pl pu ⟨a, vs, rfl, .inl (.inl h1), fun p hp => made_lst S hp (cut_rep h2 lo hi) q⟩
    · exact False.elim q
/-! methods -/
/-- a value of a built-in type, at any run -/
def tyW (X : Cx) (T : String) (x : V) (H : Hp) : Prop := ∀ (pins : List (Addr × Obj)) (σ : L2.St) (s : Shared) (v : Value), L2.Inv X pins σ H s → RelV x v →
  s.TypeIs v T ∧ ∀ a : Addr, v = Value.ref a → ∃ ob, s.heap.get? a = some ob ∧ ob.dict = none
/-- a built-in type's method, chosen when the receiver is known -/
def tBMA (X : Cx) (name : Str) (to : TE) (t : TA) : TE := fun σ H Q => to σ H fun x H1 => ∃ (T id : String) (r : V → List V → Hp → VK → Prop), PlainAttrs T ∧ Slot T name id ∧ typeOf (.builtin id) = pure (.type "method_descriptor") ∧ MtR X id r ∧
  tyW X T x H1 ∧ t σ H1 fun xs H2 => r x xs H2 Q
variable {o e : Expr} {es : List Expr} {to : TE} {t : TA} {name : Str} {apos cpos : Pos}
theorem pe_bmA (ho : PE X o to) (ha : PA X (e :: es) t) (hbase : attributeBase o name X.env (eval o X.env) = eval o X.env)
    (hfew : ((backTo cpos (starEach (e :: es) X.env)).all (fun x => !x.1) && (backToKw cpos (keywordEach [] X.env)).all (fun x => x.1.isSome)
      && decide ((e :: es).length + ([] : List Keyword).length + (if ([] : List Keyword).isEmpty then 0 else 1) < 30)) = true)
    (hline : (apos.endLine == cpos.line) = true) (hs : starEach (e :: es) X.env = (false, eval e X.env) :: starEach es X.env) (hplain : (backTo cpos (starEach es X.env)).any (·.1) = false) :
    PE X (.Call (.Attribute o name apos) (e :: es) [] cpos) (tBMA X name to t) := by
  refine ⟨fun pins s σ H Q I h => ?_⟩
  refine wpAny_Call_method_late hbase hfew hline rfl (thn (ho.run pins s σ H _ I h) fun v s1 ⟨x, H1, I1, r1, T, id, r, pa, sl, hty, hm, ty, q1⟩ => ?_)
  have k := ty _ _ _ _ I1 r1
  refine ⟨T, id, pa, sl, hty, k.1, k.2, ?_⟩
  have hA := ha.run cpos pins s1 σ H1 _ I1 q1
  rw [hs] at hA ⊢
  refine Calls.callWith_builtin (by show (false || (backTo cpos (starEach es X.env)).any (·.1)) = false; rw [hplain]; rfl) (Calls.evalArgs_plain ?_)
  exact thn hA fun us s2 ⟨vs, H2, I2, r2, q2⟩ => hm pins s2 σ H2 x vs v us Q I2 r1 r2 q2
theorem pe_bmA0 (ho : PE X o to) (hbase : attributeBase o name X.env (eval o X.env) = eval o X.env) (hline : (apos.endLine == cpos.line) = true) :
    PE X (.Call (.Attribute o name apos) [] [] cpos) (tBMA X name to tNil) := by
  refine ⟨fun pins s σ H Q I h => ?_⟩
  refine wpAny_Call_method0_late hbase hline (thn (ho.run pins s σ H _ I h) fun v s1 ⟨x, H1, I1, r1, T, id, r, pa, sl, hty, hm, ty, q1⟩ => ?_)
  have k := ty _ _ _ _ I1 r1
  exact ⟨T, id, pa, sl, hty, k.1, k.2, Calls.callWith_builtin rfl (PySem.evalArgs_none (hm pins s1 σ H1 x [] v [] Q I1 r1 .nil q1))⟩
end
def bmN : BM → Str
  | .append => "append" | .extend => "extend" | .pop => "pop" | .get => "get" | .join => "join" | .split => "split" | .index => "index" | .clear => "clear" | .reverse => "reverse"
  | .values => "values" | .replace => "replace"
def rBm (L : Lk) (xr : XR) (m : BM) (k : Kd) : V → List V → Hp → VK → Prop := fun x xs H Q => ∃ (W : WX) (bar : Bar) (σ : L2.St) (al : List Addr) (st : Sto) (d : D) (ds : List D), StR L xr bar al H st ∧ Rp L xr al H x d ∧ Reps L.K L.w xr al H xs ds ∧
  kd st d = k ∧ Post L xr W bar σ (RV L xr) al H (bmV bar st m d ds) Q
section
variable {L : Lk} {X : Cx} {xr : XR} {W : WX} {bar : Bar} {al : List Addr} {H : Hp} {st : Sto} {σ : L2.St}
/-- a list's cell is rewritten -/
theorem set_lst {i : Nat} {a : Addr} {vs : List V} {ds : List D} {v : V} {d : D} {Q : VK} (S : StR L xr bar al H st) (ea : al[i]? = some a) (r : Reps L.K L.w xr al H vs ds) (rv : Rp L xr al H v d)
    (q : Post L xr W bar σ (RV L xr) al H (setC bar st i (.lst ds) d) Q) : Q v (upd H a (.lst vs)) := by
  unfold setC at q
  split at q
  · rename_i hc
    have Sy : Stay xr al al H (upd H a (.lst vs)) := Stay.write ea
    exact q v al _ (Ext.write ea hc) (S.write ea ⟨vs, upd_same, r.stay Sy⟩) (rv.stay Sy)
  · exact False.elim q
theorem set_dct {i : Nat} {a : Addr} {vs : List (Key × V)} {ds : List (Key × D)} {v : V} {d : D} {Q : VK} (S : StR L xr bar al H st) (ea : al[i]? = some a) (r : RepK L.K L.w xr al H vs ds) (rv : Rp L xr al H v d)
    (q : Post L xr W bar σ (RV L xr) al H (setC bar st i (.dct ds) d) Q) : Q v (upd H a (.dK vs)) := by
  unfold setC at q
  split at q
  · rename_i hc
    have Sy : Stay xr al al H (upd H a (.dK vs)) := Stay.write ea
    exact q v al _ (Ext.write ea hc) (S.write ea ⟨vs, .inl upd_same, fun _ => upd_same, r.stay Sy⟩) (rv.stay Sy)
  · exact False.elim q
theorem can_of {i : Nat} {c : Cell} {d : D} {Q : VK} (q : Post L xr W bar σ (RV L xr) al H (setC bar st i c d) Q) : bar.can i = true := by
  unfold setC at q
  split at q
  · assumption
  · exact False.elim q
theorem cell_lst {i : Nat} {v : V} {ds : List D} (S : StR L xr bar al H st) (r : Rp L xr al H v (.ref i)) (h : st[i]? = some (.lst ds)) : ∃ a vs, v = .ref a ∧ al[i]? = some a ∧ H a = some (.lst vs) ∧ Reps L.K L.w xr al H vs ds := by
  cases r with
  | ref ea =>
    obtain ⟨vs, h1, h2⟩ := S.cell i _ _ h ea
    exact ⟨_, vs, rfl, ea, h1, h2⟩
theorem cell_dct {i : Nat} {v : V} {ds : List (Key × D)} (S : StR L xr bar al H st) (r : Rp L xr al H v (.ref i)) (h : st[i]? = some (.dct ds)) :
    ∃ a vs, v = .ref a ∧ al[i]? = some a ∧ Rd H a (.dK vs) ∧ (bar.can i = true → H a = some (.dK vs)) ∧ RepK L.K L.w xr al H vs ds := by
  cases r with
  | ref ea =>
    obtain ⟨vs, h1, h2, h3⟩ := S.cell i _ _ h ea
    exact ⟨_, vs, rfl, ea, h1, h2, h3⟩
theorem seqIx {n : Nat} {k : Int} {j : Nat} (h : MP.ixN n k = some j) : seqIndex? k n = some j ∧ j < n ∧ -(n : Int) ≤ k ∧ k < n := ixN_seq h
theorem bm_append : MtR X "list.append" (rBm L xr .append .list) := by
  intro pins s σ H x xs v us Q I rx rs ⟨W, bar, σ', al, st, d, ds, S, pd, ps, hk, q⟩
  cases d <;> first | exact False.elim q | skip
  rename_i i
  rcases ds with _ | ⟨e, _ | ⟨_, _⟩⟩ <;> first | exact False.elim q | skip
  simp only [bmV] at q
  cases h : st[i]? with
  | none => rw [h] at q; exact False.elim q
  | some c =>
    rw [h] at q
    cases c <;> first | exact False.elim q | skip
    rename_i ys
    simp only at q
    split at q
    · rename_i hl
      obtain ⟨a, vs, rfl, ea, h1, h2⟩ := cell_lst S pd h
      cases ps with
      | cons p1 p2 =>
        cases p2
        exact mt_append pins s σ H _ _ v us Q I rx rs ⟨a, vs, _, rfl, rfl, h1, by rw [h2.length, sizeLine_eq]; exact of_decide_eq_true hl, set_lst S ea (h2.append (.cons p1 .nil)) .non q⟩
    · exact False.elim q
theorem bm_extend : MtR X "list.extend" (rBm L xr .extend .list) := by
  intro pins s σ H x xs v us Q I rx rs ⟨W, bar, σ', al, st, d, ds, S, pd, ps, hk, q⟩
  cases d <;> first | exact False.elim q | skip
  rename_i i
  rcases ds with _ | ⟨e, _ | ⟨_, _⟩⟩ <;> first | exact False.elim q | skip
  simp only [bmV] at q
  cases h : st[i]? with
  | none => rw [h] at q; exact False.elim q
  | some c =>
    rw [h] at q
    cases c <;> first | exact False.elim q | skip
    rename_i ys
    cases h' : asL st e with
    | none => rw [h'] at q; exact False.elim q
    | some zs =>
      rw [h'] at q
      simp only at q
      split at q
      · rename_i hl
        obtain ⟨a, vs, rfl, ea, h1, h2⟩ := cell_lst S pd h
        cases ps with
        | cons p1 p2 =>
          cases p2
          obtain ⟨b, ws, rfl, h3, h4⟩ := asL_rep S p1 h'
          exact mt_extend pins s σ H _ _ v us Q I rx rs ⟨a, b, vs, ws, rfl, rfl, h1, h3, by rw [h2.length, h4.length]; exact lim_line (of_decide_eq_true hl), set_lst S ea (h2.append h4) .non q⟩
      · exact False.elim q
theorem bm_clear : MtR X "list.clear" (rBm L xr .clear .list) := by
  intro pins s σ H x xs v us Q I rx rs ⟨W, bar, σ', al, st, d, ds, S, pd, ps, hk, q⟩
  cases d <;> first | exact False.elim q | skip
  rename_i i
  rcases ds with _ | ⟨e, _⟩ <;> first | exact False.elim q | skip
  simp only [bmV] at q
  cases h : st[i]? with
  | none => rw [h] at q; exact False.elim q
  | some c =>
    rw [h] at q
    cases c <;> first | exact False.elim q | skip
    obtain ⟨a, vs, rfl, ea, h1, h2⟩ := cell_lst S pd h
    cases ps
    exact mt_clear pins s σ H _ _ v us Q I rx rs ⟨a, vs, rfl, rfl, h1, set_lst S ea .nil .non q⟩
theorem bm_reverse : MtR X "list.reverse" (rBm L xr .reverse .list) := by
  intro pins s σ H x xs v us Q I rx rs ⟨W, bar, σ', al, st, d, ds, S, pd, ps, hk, q⟩
  cases d <;> first | exact False.elim q | skip
  rename_i i
  rcases ds with _ | ⟨e, _⟩ <;> first | exact False.elim q | skip
  simp only [bmV] at q
  cases h : st[i]? with
  | none => rw [h] at q; exact False.elim q
  | some c =>
    rw [h] at q
    cases c <;> first | exact False.elim q | skip
    obtain ⟨a, vs, rfl, ea, h1, h2⟩ := cell_lst S pd h
    cases ps
    exact mt_reverse pins s σ H _ _ v us Q I rx rs ⟨a, vs, rfl, rfl, h1, set_lst S ea h2.reverse .non q⟩
theorem bm_popL : MtR X "list.pop" (rBm L xr .pop .list) := by
  intro pins s σ H x xs v us Q I rx rs ⟨W, bar, σ', al, st, d, ds, S, pd, ps, hk, q⟩
  cases d <;> first | exact False.elim q | skip
  rename_i i
  cases h : st[i]? with
  | none => simp [kd, h] at hk
  | some c =>
    cases c <;> first | (simp [kd, h] at hk; done) | skip
    rename_i ys
    obtain ⟨a, vs, rfl, ea, h1, h2⟩ := cell_lst S pd h
    rcases ds with _ | ⟨e, _ | ⟨f, _ | ⟨_, _⟩⟩⟩
    · simp only [bmV, h] at q
      cases ps
      cases h' : ys[ys.length - 1]? with
      | none => rw [h'] at q; exact False.elim q
      | some y =>
        rw [h'] at q
        obtain ⟨w, h3, h4⟩ := h2.get h'
        exact mt_pop pins s σ H _ _ v us Q I rx rs ⟨a, vs, w, rfl, rfl, h1, by rw [h2.length]; exact h3, set_lst S ea h2.dropLast h4 q⟩
    · simp only [bmV, h] at q
      cases e <;> first | exact False.elim q | skip
      rename_i k
      simp only at q
      cases ps with
      | cons p1 p2 =>
        cases p2
        cases p1
        cases h' : MP.ixN ys.length k with
        | none => rw [h'] at q; exact False.elim q
        | some j =>
          rw [h'] at q
          simp only at q
          cases h5 : ys[j]? with
          | none => rw [h5] at q; exact False.elim q
          | some y =>
            rw [h5] at q
            obtain ⟨w, h3, h4⟩ := h2.get h5
            obtain ⟨e1, e2, e3, e4⟩ := seqIx h'
            obtain ⟨hz, _⟩ := I.lstM h1
            have hz : vs.length ≤ 16777216 := by rw [← sizeLine_eq]; exact hz
            have hl := h2.length
            exact mt_popAt pins s σ H _ _ v us Q I rx rs ⟨a, vs, k, j, w, rfl, rfl, h1, by omega, by omega, by rw [hl]; exact e1, h3, set_lst S ea (h2.eraseIdx j) h4 q⟩
    · simp only [bmV, h] at q
      exact False.elim q
    · simp only [bmV, h] at q
      exact False.elim q
theorem bm_popD : MtR X "dict.pop" (rBm L xr .pop .dict) := by
  intro pins s σ H x xs v us Q I rx rs ⟨W, bar, σ', al, st, d, ds, S, pd, ps, hk, q⟩
  cases d <;> first | exact False.elim q | skip
  rename_i i
  cases h : st[i]? with
  | none => simp [kd, h] at hk
  | some c =>
    cases c <;> first | (simp [kd, h] at hk; done) | skip
    rename_i kvs
    obtain ⟨a, vs, rfl, ea, h1, hx, h2⟩ := cell_dct S pd h
    cases (show v = Value.ref a from rx)
    rcases ds with _ | ⟨e, _ | ⟨f, _ | ⟨_, _⟩⟩⟩
    · simp only [bmV, h] at q
      exact False.elim q
    · simp only [bmV, h] at q
      cases hkey : key e with
      | none => rw [hkey] at q; exact False.elim q
      | some k =>
        rw [hkey] at q
        simp only at q
        cases ps with
        | cons p1 p2 =>
          cases p2
          have ex := key_rep p1 hkey
          subst ex
          cases rs with
          | cons ru rr =>
            cases rr
            rcases h2.get k with ⟨g1, g2⟩ | ⟨w, d', g1, g2, g3⟩
            · rw [g2] at q; exact False.elim q
            · rw [g2] at q
              exact d_pop I (hx (can_of q)) ru g1 (.inl rfl) fun w' s' I' r' => ⟨w, _, I', r', set_dct S ea (h2.drop k) g3 q⟩
    · simp only [bmV, h] at q
      cases hkey : key e with
      | none => rw [hkey] at q; exact False.elim q
      | some k =>
        rw [hkey] at q
        simp only at q
        cases ps with
        | cons p1 p2 =>
          cases p2 with
          | cons p3 p4 =>
            cases p4
            have ex := key_rep p1 hkey
            subst ex
            cases rs with
            | cons ru rr =>
              cases rr with
              | cons ru2 rr =>
                cases rr
                rcases h2.get k with ⟨g1, g2⟩ | ⟨w, d', g1, g2, g3⟩
                · rw [g2] at q
                  simp only at q
                  split at q
                  · rename_i hc
                    exact d_popD I (hx hc) ru g1 fun s' I' => ⟨_, H, I', ru2, Post.now S p3 q⟩
                  · exact False.elim q
                · rw [g2] at q
                  exact d_pop I (hx (can_of q)) ru g1 (.inr ⟨_, rfl⟩) fun w' s' I' r' => ⟨w, _, I', r', set_dct S ea (h2.drop k) g3 q⟩
    · simp only [bmV, h] at q
      exact False.elim q
theorem bm_get : X.A.units + 1 < cLine → On L X → MtR X "dict.get" (rBm L xr .get .dict) := by
  intro hu o pins s σ H x xs v us Q I rx rs ⟨W, bar, σ', al, st, d, ds, S, pd, ps, hk, q⟩
  rcases ds with _ | ⟨e, _ | ⟨f, _ | ⟨_, _⟩⟩⟩ <;> first | (exfalso; cases d <;> exact q) | skip
  cases ps with
  | cons p1 p2 =>
    cases p2 with
    | cons p3 p4 =>
      cases p4
      have q : Post L xr W bar σ' (RV L xr) al H (match look st d e with
        | some r => .ok (r.getD f) st
        | none => .bad) Q := by cases d <;> exact q
      cases hl : look st d e with
      | none => rw [hl] at q; exact False.elim q
      | some r =>
        rw [hl] at q
        cases rs with
        | cons ru rr =>
          cases rr with
          | cons ru2 rr =>
            cases rr
            rcases look_rep o S p1 pd hl with ⟨a, k, vs, rfl, rfl, ha, hr⟩ | ⟨a, z, es, n, u0, rfl, rfl, hd, e1, hr⟩
            · cases (show v = Value.ref a from rx)
              have g : DGet H a (kV k) (valV vs k) := .inl ⟨vs, k, ha, rfl, rfl⟩
              refine d_get2 hu I g ru ru2 fun w' s' I' r' => ⟨_, H, I', r', ?_⟩
              rcases hr with ⟨h1, h2⟩ | ⟨v', d', h1, h2, h3⟩
              · subst h2; rw [h1]; exact Post.now S p3 q
              · subst h2; rw [h1]; exact Post.now S h3 q
            · cases (show v = Value.ref a from rx)
              obtain ⟨t, rfl⟩ := ru
              refine call_meetsIn PySem.F.slot_dict_get (PySem.W.mapOf_K (prog := X.prog) I.kIn hd.at_ hd.lit).typeIs PySem.F.entry_dict_get (PySem.F.args_dict_get_3 _ _ _) (meets_dict_get_default (strKind X.prog X.w) a (strKind_is X.prog X.w z t) hd.low _)
                ⟨_, PySem.W.mapOf_K (prog := X.prog) I.kIn hd.at_ hd.lit, ?_⟩
              rw [PySem.W.find_K hd.at_ e1]
              rcases hr with ⟨h1, h2⟩ | ⟨u1, v', d', h1, hrel, h2, h3⟩
              · subst h2 h1
                exact ⟨_, H, I.tok _, ru2, Post.now S p3 q⟩
              · subst h2 h1
                exact ⟨_, H, I.tok _, hrel, Post.now S h3 q⟩
theorem allS_rep : ∀ {vs : List V} {ds : List D} {ys : List Str}, Reps L.K L.w xr al H vs ds → allS ds = some ys → vs = ys.map V.str
  | _, _, _, .nil, e => by simp [allS] at e; subst e; rfl
  | _, d :: ds, _, .cons r t, e => by
    cases d <;> simp [allS] at e
    obtain ⟨zs, e1, rfl⟩ := e
    cases r
    rw [allS_rep t e1]; rfl
theorem bm_join : On L X → MtR X "str.join" (rBm L xr .join .str) := by
  intro o pins s σ H x xs v us Q I rx rs ⟨W, bar, σ', al, st, d, ds, S, pd, ps, hk, q⟩
  rcases ds with _ | ⟨e, _ | ⟨_, _⟩⟩ <;> first | (exfalso; cases d <;> exact q) | skip
  cases d <;> first | exact False.elim q | skip
  rename_i z
  simp only [bmV] at q
  cases pd
  cases h : (asL st e).bind allS with
  | none => rw [h] at q; exact False.elim q
  | some ys =>
    rw [h] at q
    simp only at q
    split at q
    · rename_i hl
      obtain ⟨es, e1, e2⟩ := Option.bind_eq_some_iff.mp h
      cases ps with
      | cons p1 p2 =>
        cases p2
        obtain ⟨a, vs, rfl, h1, h2⟩ := asL_rep S p1 e1
        have := allS_rep h2 e2
        subst this
        exact mt_join pins s σ H _ _ v us Q I rx rs ⟨z, a, ys, rfl, rfl, .inl (.inl (.inl h1)), of_decide_eq_true hl, Post.now S (.str _) q⟩
    · exact False.elim q
theorem strs_rep : ∀ ys : List Str, Reps L.K L.w xr al H (ys.map V.str) (ys.map D.str)
  | [] => .nil
  | y :: ys => .cons (.str y) (strs_rep ys)
theorem bm_split : MtR X "str.split" (rBm L xr .split .str) := by
  intro pins s σ H x xs v us Q I rx rs ⟨W, bar, σ', al, st, d, ds, S, pd, ps, hk, q⟩
  rcases ds with _ | ⟨e, _ | ⟨f, fs⟩⟩
  · exfalso; cases d <;> exact q
  rotate_left
  · exfalso; cases d <;> first | exact q | (cases e <;> exact q)
  cases d <;> first | exact False.elim q | skip
  rename_i z
  cases e <;> first | exact False.elim q | skip
  rename_i b
  simp only [bmV] at q
  cases pd
  split at q
  · rename_i h
    simp only [Bool.and_eq_true, decide_eq_true_eq] at h
    cases ps with
    | cons p1 p2 =>
      cases p2
      cases p1
      refine mt_split pins s σ H _ _ v us Q I rx rs ⟨z, b, rfl, rfl, ?_, lim_line h.2, fun p hp => made_lst S hp (strs_rep _) q⟩
      simp only [beq_eq_false_iff_ne, ne_eq]
      omega
  · exact False.elim q
end
end MP

/-! MpJ: methods of built-in types, chosen by the receiver. -/
namespace MP
open PySem PySem.Spec PyProof.Rows L2
section
variable {L : Lk} {X : Cx} {xr : XR} {W : WX} {bar : Bar} {al : List Addr} {H : Hp} {st : Sto} {σ : L2.St}
theorem find_first {p : Str → Bool} : ∀ {ys : List Str} {j : Nat}, ys.findIdx? p = some j → ∃ z, ys[j]? = some z ∧ p z = true ∧ ∀ m z', m < j → ys[m]? = some z' → p z' = false
  | [], j, h => by simp at h
  | y :: ys, j, h => by
    rw [List.findIdx?_cons] at h
    by_cases e : p y = true
    · rw [if_pos e] at h; cases h
      exact ⟨y, rfl, e, fun m _ hm _ => absurd hm (by omega)⟩
    · rw [if_neg e] at h
      obtain ⟨i, h1, rfl⟩ := Option.map_eq_some_iff.mp h
      obtain ⟨z, h2, h3, h4⟩ := find_first h1
      refine ⟨z, by simpa using h2, h3, fun m z' hm hz => ?_⟩
      cases m with
      | zero => simp at hz; subst hz; simpa using e
      | succ m => exact h4 m z' (by omega) (by simpa using hz)
theorem flats_str : ∀ ys : List Str, (ys.map V.str).all flatV = true
  | [] => rfl
  | _ :: ys => flats_str ys
theorem bm_index (o : On L X) : MtR X "list.index" (rBm L xr .index .list) := by
  intro pins s σ H x xs v us Q I rx rs ⟨W, bar, σ', al, st, d, ds, S, pd, ps, hk, q⟩
  rcases ds with _ | ⟨e, _ | ⟨f, fs⟩⟩
  · exfalso; cases d <;> exact q
  rotate_left
  · exfalso; cases d <;> first | exact q | (cases e <;> exact q)
  cases e <;> first | (exfalso; cases d <;> exact q) | skip
  rename_i z
  replace q : Post L xr W bar σ' (RV L xr) al H (match (asL st d).bind allS with
    | some ys => match ys.findIdx? (fun y => decide (y = z)) with
      | some j => if decide (ys.length ≤ LIM) then .ok (.int j) st else .bad
      | none => .bad
    | none => .bad) Q := by cases d <;> exact q
  cases h : (asL st d).bind allS with
  | none => rw [h] at q; exact False.elim q
  | some ys =>
    rw [h] at q
    simp only at q
    cases h1 : ys.findIdx? (fun y => decide (y = z)) with
    | none => rw [h1] at q; exact False.elim q
    | some j =>
      rw [h1] at q
      simp only at q
      split at q
      · obtain ⟨es, e1, e2⟩ := Option.bind_eq_some_iff.mp h
        cases ps with
        | cons p1 p2 =>
          cases p2
          cases p1
          obtain ⟨a, vs, rfl, h3, h4⟩ := asL_rep S pd e1
          have := allS_rep h4 e2
          subst this
          obtain ⟨z0, h5, h6, h7⟩ := find_first h1
          have h6 := of_decide_eq_true h6
          subst h6
          refine mt_index pins s σ H _ _ v us Q I rx rs ⟨a, ys.map V.str, .str z0, j, .str z0, rfl, rfl, .inl (.inl h3), rfl, flats_str ys, by rw [List.getElem?_map, h5]; rfl, by simp [eqV], fun m z' hm hz => ?_, Post.now S (Rep.int _) q⟩
          rw [List.getElem?_map] at hz
          obtain ⟨w, hw, rfl⟩ := Option.map_eq_some_iff.mp hz
          have := h7 m w hm hw
          simpa [eqV] using this
      · exact False.elim q
/-! the receiver's type -/
def kdN : Kd → String
  | .list => "list" | .dict => "dict" | .str => "str" | .no => ""
theorem tyW_dict {a : Addr} {vs : List (Key × V)} (h : Rd H a (.dK vs)) : tyW X "dict" (.ref a) H := fun pins σ s v I r => by
  cases (show v = Value.ref a from r)
  have := isD_at (X := X) I (a := a) (by first | exact .inl ⟨vs, h⟩ | exact ⟨vs, h⟩ | exact ⟨vs, .inl h⟩)
  exact ⟨this.1, this.2.1⟩
theorem kd_ty (o : On L X) (S : StR L xr bar al H st) {v : V} {d : D} (r : Rp L xr al H v d) : ∀ {k : Kd}, kd st d = k → k ≠ .no → tyW X (kdN k) v H := by
  intro k hk hn
  have hl : ∀ a vs, H a = some (.lst vs) → tyW X "list" (.ref a) H := fun a vs h pins σ s u I r => tyV_is I r (.inl ⟨rfl, vs, .inl (.inl h)⟩)
  have hs : ∀ z, tyW X "str" (.str z) H := fun z pins σ s u I r => tyV_is I r rfl
  cases d <;> simp only [kd] at hk <;> subst hk <;> first | exact absurd rfl hn | skip
  · cases r; exact hs _
  · cases r; exact hl _ _ (by assumption)
  · cases r; exact tyW_dict (by assumption)
  · rename_i i
    cases h : st[i]? with
    | none => rw [h] at hn; exact absurd rfl hn
    | some c =>
      rw [h] at hn
      cases c with
      | lst xs =>
        obtain ⟨a, vs, rfl, ea, h1, h2⟩ := cell_lst S r h
        exact hl _ _ h1
      | dct xs =>
        obtain ⟨a, vs, rfl, ea, h1, h2⟩ := cell_dct S r h
        exact tyW_dict h1
      | ins c fs => exact absurd rfl hn
  · cases r with
    | kdc hk hr =>
      obtain ⟨es, n, hk1, _⟩ := hk
      intro pins σ s u I r
      cases (show u = Value.ref _ from r)
      have hd := hk1
      rw [← o.K, ← o.w] at hd
      refine ⟨(PySem.W.mapOf_K (prog := X.prog) I.kIn hd.at_ hd.lit).typeIs, fun b hb => ?_⟩
      cases hb
      exact ⟨_, I.kIn _ _ hd.at_, rfl⟩
theorem bm_ok (o : On L X) (hu : X.A.units + 65 < cLine) : ∀ {m : BM} {k : Kd}, bmOk m k = true → k ≠ .no ∧ ∃ id : String, PlainAttrs (kdN k) ∧ Slot (kdN k) (bmN m) id ∧ typeOf (.builtin id) = pure (.type "method_descriptor") ∧ MtR X id (rBm L xr m k)
  | .append, .list, _ => ⟨nofun, _, PySem.F.plainAttrs_list, PySem.F.slot_list_append, PySem.F.type_list_append, bm_append⟩
  | .extend, .list, _ => ⟨nofun, _, PySem.F.plainAttrs_list, PySem.F.slot_list_extend, PySem.F.type_list_extend, bm_extend⟩
  | .pop, .list, _ => ⟨nofun, _, PySem.F.plainAttrs_list, PySem.F.slot_list_pop, PySem.F.type_list_pop, bm_popL⟩
  | .clear, .list, _ => ⟨nofun, _, PySem.F.plainAttrs_list, PySem.F.slot_list_clear, PySem.F.type_list_clear, bm_clear⟩
  | .reverse, .list, _ => ⟨nofun, _, PySem.F.plainAttrs_list, PySem.F.slot_list_reverse, PySem.F.type_list_reverse, bm_reverse⟩
  | .index, .list, _ => ⟨nofun, _, PySem.F.plainAttrs_list, PySem.F.slot_list_index, PySem.F.type_list_index, bm_index o⟩
  | .pop, .dict, _ => ⟨nofun, _, PySem.F.plainAttrs_dict, PySem.F.slot_dict_pop, PySem.F.type_dict_pop, bm_popD⟩
  | .get, .dict, _ => ⟨nofun, _, PySem.F.plainAttrs_dict, PySem.F.slot_dict_get, PySem.F.type_dict_get, bm_get (by omega) o⟩
  | .join, .str, _ => ⟨nofun, _, PySem.F.plainAttrs_str, PySem.F.slot_str_join, PySem.F.type_str_join, bm_join o⟩
  | .split, .str, _ => ⟨nofun, _, PySem.F.plainAttrs_str, PySem.F.slot_str_split, PySem.F.type_str_split, bm_split⟩
end
end MP

/-! MpK: built-in functions. -/
namespace MP
open PySem PySem.Spec PyProof.Rows L2
def bfF : BF → Value
  | .len => .builtin "len" | .abs => .builtin "abs" | .min => .builtin "min" | .max => .builtin "max" | .sum => .builtin "sum" | .any => .builtin "any" | .all => .builtin "all"
  | .int => .type "int" | .str => .type "str" | .list => .type "list" | .tuple => .type "tuple" | .dict => .type "dict" | .sorted => .builtin "sorted" | .sset => .type "set"
def rBf (L : Lk) (xr : XR) (f : BF) (cell : Bool) : List V → Hp → VK → Prop := fun xs H Q => ∃ (W : WX) (bar : Bar) (σ : L2.St) (al : List Addr) (st : Sto) (ds : List D), StR L xr bar al H st ∧ Reps L.K L.w xr al H xs ds ∧
  Post L xr W bar σ (RV L xr) al H (bfV st f cell ds) Q
section
variable {L : Lk} {X : Cx} {xr : XR} {W : WX} {bar : Bar} {al : List Addr} {H : Hp} {st : Sto} {σ : L2.St}
theorem allI_rep : ∀ {vs : List V} {ds : List D} {ys : List Int}, Reps L.K L.w xr al H vs ds → allI ds = some ys → vs = ys.map V.int
  | _, _, _, .nil, e => by simp [allI] at e; subst e; rfl
  | _, d :: ds, _, .cons r t, e => by
    cases d <;> simp [allI] at e
    obtain ⟨zs, e1, rfl⟩ := e
    cases r
    rw [allI_rep t e1]; rfl
theorem allB_rep : ∀ {vs : List V} {ds : List D} {ys : List Bool}, Reps L.K L.w xr al H vs ds → allB ds = some ys → vs = ys.map V.bl
  | _, _, _, .nil, e => by simp [allB] at e; subst e; rfl
  | _, d :: ds, _, .cons r t, e => by
    cases d <;> simp [allB] at e
    obtain ⟨zs, e1, rfl⟩ := e
    cases r
    rw [allB_rep t e1]; rfl
theorem maxL_is : ∀ (n : Int) (ns : List Int) (m : Int), m ∈ n :: ns → (∀ y, y ∈ n :: ns → y ≤ m) → m = maxL (n :: ns)
  | n, [], m, h, _ => by simp at h; subst h; rfl
  | n, k :: ns, m, h, hle => by
    have hh : maxL (n :: k :: ns) = max n (maxL (k :: ns)) := rfl
    rw [hh]
    have mem : ∀ (k : Int) (ns : List Int), maxL (k :: ns) ∈ k :: ns := by
      intro k ns
      induction ns generalizing k with
      | nil => simp [maxL]
      | cons a ns ih =>
        have : maxL (k :: a :: ns) = max k (maxL (a :: ns)) := rfl
        rw [this]
        rcases Int.le_total k (maxL (a :: ns)) with h | h
        · rw [Int.max_eq_right h]; exact List.mem_cons_of_mem _ (ih a)
        · rw [Int.max_eq_left h]; exact List.mem_cons_self ..
    have h1 := hle n (List.mem_cons_self ..)
    have h2 := hle _ (List.mem_cons_of_mem _ (mem k ns))
    rcases List.mem_cons.mp h with e | e
    · subst e; omega
    · have := maxL_is k ns m e fun y hy => hle y (List.mem_cons_of_mem _ hy)
      omega
theorem minL_is : ∀ (n : Int) (ns : List Int) (m : Int), m ∈ n :: ns → (∀ y, y ∈ n :: ns → m ≤ y) → m = minL (n :: ns)
  | n, [], m, h, _ => by simp at h; subst h; rfl
  | n, k :: ns, m, h, hle => by
    have hh : minL (n :: k :: ns) = min n (minL (k :: ns)) := rfl
    rw [hh]
    have mem : ∀ (k : Int) (ns : List Int), minL (k :: ns) ∈ k :: ns := by
      intro k ns
      induction ns generalizing k with
      | nil => simp [minL]
      | cons a ns ih =>
        have : minL (k :: a :: ns) = min k (minL (a :: ns)) := rfl
        rw [this]
        rcases Int.le_total k (minL (a :: ns)) with h | h
        · rw [Int.min_eq_left h]; exact List.mem_cons_self ..
        · rw [Int.min_eq_right h]; exact List.mem_cons_of_mem _ (ih a)
    have h1 := hle n (List.mem_cons_self ..)
    have h2 := hle _ (List.mem_cons_of_mem _ (mem k ns))
    rcases List.mem_cons.mp h with e | e
    · subst e; omega
    · have := minL_is k ns m e fun y hy => hle y (List.mem_cons_of_mem _ hy)
      omega
theorem bf_len (o : On L X) {cell : Bool} : CallR X (.builtin "len") (rBf L xr .len cell) := by
  intro pins s σ H xs us Q I rs ⟨W, bar, σ', al, st, ds, S, ps, q⟩
  rcases ds with _ | ⟨d, _ | ⟨_, _⟩⟩
  · exact False.elim q
  rotate_left
  · exact False.elim (by cases d <;> exact q)
  cases ps with
  | cons p1 p2 =>
    cases p2
    have hgen : Post L xr W bar σ' (RV L xr) al H (match asL st d with
        | some xs => .ok (.int xs.length) st
        | none => .bad) Q → wpAny (model X.prog X.w) X.A (PySem.call (.builtin "len") us) (EP X pins σ Q) X.xe s := by
      intro q
      cases e1 : asL st d with
      | some xs =>
        rw [e1] at q
        obtain ⟨a, vs, rfl, h1, h2⟩ := asL_rep S p1 e1
        exact call_len_seq pins s σ H _ us Q I rs ⟨a, vs, rfl, .inl (.inl (.inl h1)), by rw [h2.length]; exact Post.now S (.int _) q⟩
      | none => rw [e1] at q; exact False.elim q
    cases d with
    | str z =>
      cases p1
      simp only [bfV] at q
      split at q
      · rename_i h
        exact call_len_str pins s σ H _ us Q I rs ⟨z, rfl, lim_line (of_decide_eq_true h), Post.now S (.int _) q⟩
      · exact False.elim q
    | tup ys =>
      cases p1 with
      | tup h r => exact call_len_seq pins s σ H _ us Q I rs ⟨_, _, rfl, .inr (o.sqT h), by rw [r.length]; exact Post.now S (.int _) q⟩
    | _ => exact hgen q
theorem bf_abs {cell : Bool} : CallR X (.builtin "abs") (rBf L xr .abs cell) := by
  intro pins s σ H xs us Q I rs ⟨W, bar, σ', al, st, ds, S, ps, q⟩
  rcases ds with _ | ⟨d, _ | ⟨_, _⟩⟩
  · exact False.elim q
  rotate_left
  · exact False.elim (by cases d <;> exact q)
  cases d <;> first | exact False.elim q | skip
  cases ps with
  | cons p1 p2 =>
    cases p2; cases p1
    exact call_abs pins s σ H _ us Q I rs ⟨_, rfl, Post.now S (.int _) q⟩
theorem bf_max (hc : X.calm = true) {cell : Bool} : CallR X (.builtin "max") (rBf L xr .max cell) := by
  intro pins s σ H xs us Q I rs ⟨W, bar, σ', al, st, ds, S, ps, q⟩
  rcases ds with _ | ⟨d, _ | ⟨e, _ | ⟨_, _⟩⟩⟩
  · exact False.elim q
  · replace q : Post L xr W bar σ' (RV L xr) al H (match (asL st d).bind allI with
      | some (n :: ns) => .ok (.int (maxL (n :: ns))) st
      | _ => .bad) Q := by cases d <;> exact q
    cases h : (asL st d).bind allI with
    | none => rw [h] at q; exact False.elim q
    | some ys =>
      rw [h] at q
      rcases ys with _ | ⟨n, ns⟩
      · exact False.elim q
      obtain ⟨es, e1, e2⟩ := Option.bind_eq_some_iff.mp h
      cases ps with
      | cons p1 p2 =>
        cases p2
        obtain ⟨a, vs, rfl, h1, h2⟩ := asL_rep S p1 e1
        have := allI_rep h2 e2
        subst this
        exact cr_max hc pins s σ H _ us Q I rs ⟨a, n :: ns, rfl, .inl (.inl h1), by simp, fun m hm hle => by rw [maxL_is n ns m hm hle]; exact Post.now S (.int _) q⟩
  · cases d <;> cases e <;> first | exact False.elim q | skip
    cases ps with
    | cons p1 p2 =>
      cases p2 with
      | cons p2 p3 =>
        cases p3; cases p2; cases p1
        exact call_max2 hc pins s σ H _ us Q I rs ⟨_, _, rfl, Post.now S (.int _) q⟩
  · exact False.elim (by cases d <;> first | exact q | (cases e <;> exact q))
theorem bf_min (hc : X.calm = true) {cell : Bool} : CallR X (.builtin "min") (rBf L xr .min cell) := by
  intro pins s σ H xs us Q I rs ⟨W, bar, σ', al, st, ds, S, ps, q⟩
  rcases ds with _ | ⟨d, _ | ⟨e, _ | ⟨_, _⟩⟩⟩
  · exact False.elim q
  · replace q : Post L xr W bar σ' (RV L xr) al H (match (asL st d).bind allI with
      | some (n :: ns) => .ok (.int (minL (n :: ns))) st
      | _ => .bad) Q := by cases d <;> exact q
    cases h : (asL st d).bind allI with
    | none => rw [h] at q; exact False.elim q
    | some ys =>
      rw [h] at q
      rcases ys with _ | ⟨n, ns⟩
      · exact False.elim q
      obtain ⟨es, e1, e2⟩ := Option.bind_eq_some_iff.mp h
      cases ps with
      | cons p1 p2 =>
        cases p2
        obtain ⟨a, vs, rfl, h1, h2⟩ := asL_rep S p1 e1
        have := allI_rep h2 e2
        subst this
        exact cr_min hc pins s σ H _ us Q I rs ⟨a, n :: ns, rfl, .inl (.inl h1), by simp, fun m hm hle => by rw [minL_is n ns m hm hle]; exact Post.now S (.int _) q⟩
  · cases d <;> cases e <;> first | exact False.elim q | skip
    cases ps with
    | cons p1 p2 =>
      cases p2 with
      | cons p2 p3 =>
        cases p3; cases p2; cases p1
        exact call_min2 hc pins s σ H _ us Q I rs ⟨_, _, rfl, Post.now S (.int _) q⟩
  · exact False.elim (by cases d <;> first | exact q | (cases e <;> exact q))
theorem bf_sum (hc : X.calm = true) {cell : Bool} : CallR X (.builtin "sum") (rBf L xr .sum cell) := by
  intro pins s σ H xs us Q I rs ⟨W, bar, σ', al, st, ds, S, ps, q⟩
  rcases ds with _ | ⟨d, _ | ⟨e, _⟩⟩
  · exact False.elim q
  rotate_left
  · exact False.elim (by cases d <;> first | exact q | (cases e <;> exact q))
  replace q : Post L xr W bar σ' (RV L xr) al H (match (asL st d).bind allI with
      | some ns => .ok (.int ns.sum) st
      | none => .bad) Q := by cases d <;> exact q
  cases h : (asL st d).bind allI with
  | none => rw [h] at q; exact False.elim q
  | some ys =>
    rw [h] at q
    obtain ⟨es, e1, e2⟩ := Option.bind_eq_some_iff.mp h
    cases ps with
    | cons p1 p2 =>
      cases p2
      obtain ⟨a, vs, rfl, h1, h2⟩ := asL_rep S p1 e1
      have := allI_rep h2 e2
      subst this
      exact cr_sum hc pins s σ H _ us Q I rs ⟨a, ys, rfl, .inl (.inl h1), Post.now S (.int _) q⟩
theorem bf_any (hc : X.calm = true) {cell : Bool} : CallR X (.builtin "any") (rBf L xr .any cell) := by
  intro pins s σ H xs us Q I rs ⟨W, bar, σ', al, st, ds, S, ps, q⟩
  rcases ds with _ | ⟨d, _ | ⟨e, _⟩⟩
  · exact False.elim q
  rotate_left
  · exact False.elim (by cases d <;> first | exact q | (cases e <;> exact q))
  replace q : Post L xr W bar σ' (RV L xr) al H (match (asL st d).bind allB with
      | some bs => .ok (.bl (bs.any id)) st
      | none => .bad) Q := by cases d <;> exact q
  cases h : (asL st d).bind allB with
  | none => rw [h] at q; exact False.elim q
  | some ys =>
    rw [h] at q
    obtain ⟨es, e1, e2⟩ := Option.bind_eq_some_iff.mp h
    cases ps with
    | cons p1 p2 =>
      cases p2
      obtain ⟨a, vs, rfl, h1, h2⟩ := asL_rep S p1 e1
      have := allB_rep h2 e2
      subst this
      exact cr_any hc pins s σ H _ us Q I rs ⟨a, ys, rfl, .inl (.inl h1), Post.now S (.bl _) q⟩
theorem bf_all (hc : X.calm = true) {cell : Bool} : CallR X (.builtin "all") (rBf L xr .all cell) := by
  intro pins s σ H xs us Q I rs ⟨W, bar, σ', al, st, ds, S, ps, q⟩
  rcases ds with _ | ⟨d, _ | ⟨e, _⟩⟩
  · exact False.elim q
  rotate_left
  · exact False.elim (by cases d <;> first | exact q | (cases e <;> exact q))
  replace q : Post L xr W bar σ' (RV L xr) al H (match (asL st d).bind allB with
      | some bs => .ok (.bl (bs.all id)) st
      | none => .bad) Q := by cases d <;> exact q
  cases h : (asL st d).bind allB with
  | none => rw [h] at q; exact False.elim q
  | some ys =>
    rw [h] at q
    obtain ⟨es, e1, e2⟩ := Option.bind_eq_some_iff.mp h
    cases ps with
    | cons p1 p2 =>
      cases p2
      obtain ⟨a, vs, rfl, h1, h2⟩ := asL_rep S p1 e1
      have := allB_rep h2 e2
      subst this
      exact cr_all hc pins s σ H _ us Q I rs ⟨a, ys, rfl, .inl (.inl h1), Post.now S (.bl _) q⟩
theorem bf_int {cell : Bool} : CallR X (.type "int") (rBf L xr .int cell) := by
  intro pins s σ H xs us Q I rs ⟨W, bar, σ', al, st, ds, S, ps, q⟩
  rcases ds with _ | ⟨d, _ | ⟨e, _⟩⟩
  · exact False.elim q
  rotate_left
  · exact False.elim (by cases d <;> first | exact q | (cases e <;> exact q))
  cases d <;> first | exact False.elim q | skip
  · cases ps with
    | cons p1 p2 =>
      cases p2; cases p1
      exact call_int1 pins s σ H _ us Q I rs (.inr ⟨_, rfl, Post.now S (.int _) q⟩)
  · cases ps with
    | cons p1 p2 =>
      cases p2; cases p1
      exact call_int1 pins s σ H _ us Q I rs (.inl ⟨_, rfl, Post.now S (.int _) q⟩)
  · simp only [bfV] at q
    split at q
    · split at q
      · rename_i h1 h2
        cases ps with
        | cons p1 p2 =>
          cases p2; cases p1
          exact call_int_str pins s σ H _ us Q I rs ⟨_, _, rfl, h1, of_decide_eq_true h2, Post.now S (.int _) q⟩
      · exact False.elim q
    · exact False.elim q
theorem bf_str {cell : Bool} : CallR X (.type "str") (rBf L xr .str cell) := by
  intro pins s σ H xs us Q I rs ⟨W, bar, σ', al, st, ds, S, ps, q⟩
  rcases ds with _ | ⟨d, _ | ⟨e, _⟩⟩
  · exact False.elim q
  rotate_left
  · exact False.elim (by cases d <;> first | exact q | (cases e <;> exact q))
  cases d <;> first | exact False.elim q | skip
  · simp only [bfV] at q
    split at q
    · rename_i h
      cases ps with
      | cons p1 p2 =>
        cases p2; cases p1
        exact call_str_int pins s σ H _ us Q I rs ⟨_, rfl, of_decide_eq_true h, Post.now S (.str _) q⟩
    · exact False.elim q
  · cases ps with
    | cons p1 p2 =>
      cases p2; cases p1
      exact SkE.call_str_str pins s σ H _ us Q I rs ⟨_, rfl, Post.now S (.str _) q⟩
theorem bf_tuple (o : On L X) {cell : Bool} : CallR X (.type "tuple") (rBf L xr .tuple cell) := by
  intro pins s σ H xs us Q I rs ⟨W, bar, σ', al, st, ds, S, ps, q⟩
  rcases ds with _ | ⟨d, _ | ⟨e, _⟩⟩
  · exact False.elim q
  rotate_left
  · exact False.elim (by cases d <;> first | exact q | (cases e <;> exact q))
  cases ps with
  | cons p1 p2 =>
    cases p2
    have hgen : Post L xr W bar σ' (RV L xr) al H (match asL st d with
      | some xs => .ok (.tup xs) st
      | none => .bad) Q → wpAny (model X.prog X.w) X.A (PySem.call (.type "tuple") us) (EP X pins σ Q) X.xe s := by
      intro q
      cases e1 : asL st d with
      | none => rw [e1] at q; exact False.elim q
      | some ys =>
        rw [e1] at q
        obtain ⟨a, vs, rfl, h1, h2⟩ := asL_rep S p1 e1
        exact call_tuple_of pins s σ H _ us Q I rs ⟨a, vs, rfl, .inl ⟨.inl (.inl h1), fun l hl => made_tup S hl h2 q⟩⟩
    cases d with
    | tup ys =>
      cases p1 with
      | tup h r => exact call_tuple_of pins s σ H _ us Q I rs ⟨_, _, rfl, .inr ⟨o.sqT h, Post.now S (.tup h r) q⟩⟩
    | _ => exact hgen q
theorem bf_list (o : On L X) (hc : X.calm = true) {cell : Bool} : CallR X (.type "list") (rBf L xr .list cell) := by
  intro pins s σ H xs us Q I rs ⟨W, bar, σ', al, st, ds, S, ps, q⟩
  rcases ds with _ | ⟨d, _ | ⟨e, _⟩⟩
  · exact False.elim q
  rotate_left
  · exact False.elim (by cases d <;> first | exact q | (cases e <;> exact q))
  cases ps with
  | cons p1 p2 =>
    cases p2
    have hgen : Post L xr W bar σ' (RV L xr) al H (match asL st d with
      | some xs => newL cell xs st
      | none => match asK st d with
        | some kvs => newL cell (kvs.map fun kv => unkey kv.1) st
        | none => .bad) Q → wpAny (model X.prog X.w) X.A (PySem.call (.type "list") us) (EP X pins σ Q) X.xe s := by
      intro q
      cases e1 : asL st d with
      | none =>
        rw [e1] at q
        cases e2 : asK st d with
        | none => rw [e2] at q; exact False.elim q
        | some kvs =>
          rw [e2] at q
          obtain ⟨a, vs, rfl, h1, h2⟩ := asK_rep S p1 e2
          exact call_listD hc pins s σ H _ us Q I rs ⟨a, vs, rfl, h1, fun l hl => made_newL S hl h2.keys q⟩
      | some ys =>
        rw [e1] at q
        obtain ⟨a, vs, rfl, h1, h2⟩ := asL_rep S p1 e1
        exact call_list_of pins s σ H _ us Q I rs ⟨a, vs, rfl, .inl (.inl (.inl h1)), fun l hl => made_newL S hl h2 q⟩
    cases d with
    | tup ys =>
      cases p1 with
      | tup h r => exact call_list_of pins s σ H _ us Q I rs ⟨_, _, rfl, .inr (o.sqT h), fun l hl => made_newL S hl r q⟩
    | _ => exact hgen q
theorem pairs_rep (o : On L X) : ∀ {vs : List V} {ds : List D} {kvs : List (Key × D)}, Reps L.K L.w xr al H vs ds → pairs ds = some kvs →
    ∃ (ps : List Addr) (ws : List (Key × V)), vs = ps.map V.ref ∧ PySem.Paired (fun p kv => SqT X.K H p [kV kv.1, kv.2]) ps ws ∧ RepK L.K L.w xr al H ws kvs
  | _, _, _, .nil, e => by simp [pairs] at e; subst e; exact ⟨[], [], rfl, .nil, .nil⟩
  | _, d :: ds, kvs, .cons r t, e => by
    rcases d with _ | _ | _ | _ | xs | _ | _ | _ | _ | _ | _ <;> first | (simp [pairs] at e; done) | skip
    rcases xs with _ | ⟨k, _ | ⟨v, _ | ⟨_, _⟩⟩⟩ <;> first | (simp [pairs] at e; done) | skip
    simp only [pairs] at e
    cases hk : key k with
    | none => rw [hk] at e; simp at e
    | some kk =>
      cases hp : pairs ds with
      | none => rw [hk, hp] at e; simp at e
      | some r' =>
        rw [hk, hp] at e
        simp only [Option.some.injEq] at e
        subst e
        obtain ⟨ps, ws, rfl, h1, h2⟩ := pairs_rep o t hp
        cases r with
        | tup h q =>
          cases q with
          | cons q1 q2 =>
            cases q2 with
            | cons q2 q3 =>
              cases q3
              have := key_rep q1 hk
              subst this
              exact ⟨_ :: ps, (kk, _) :: ws, rfl, .cons (o.sqT h) h1, .cons q2 h2⟩
theorem bf_dict (o : On L X) (hc : X.calm = true) {cell : Bool} : CallR X (.type "dict") (rBf L xr .dict cell) := by
  intro pins s σ H xs us Q I rs ⟨W, bar, σ', al, st, ds, S, ps, q⟩
  rcases ds with _ | ⟨d, _ | ⟨e, _⟩⟩
  · exact False.elim q
  rotate_left
  · exact False.elim (by cases d <;> first | exact q | (cases e <;> exact q))
  cases ps with
  | cons p1 p2 =>
    cases p2
    replace q : Post L xr W bar σ' (RV L xr) al H (match asK st d with
      | some kvs => newK cell kvs st
      | none => match (asL st d).bind pairs with
        | some kvs => newK cell (MP.mergeK [] kvs) st
        | none => .bad) Q := by cases d <;> exact q
    cases e1 : asK st d with
    | none =>
      rw [e1] at q
      cases e2 : (asL st d).bind pairs with
      | none => rw [e2] at q; exact False.elim q
      | some kvs =>
        rw [e2] at q
        obtain ⟨es, e3, e4⟩ := Option.bind_eq_some_iff.mp e2
        obtain ⟨a, vs, rfl, h1, h2⟩ := asL_rep S p1 e3
        obtain ⟨ps, ws, rfl, h3, h4⟩ := pairs_rep o h2 e4
        exact call_dictP hc pins s σ H _ us Q I rs ⟨a, ps, ws, rfl, .inl (.inl h1), h3, fun l hl => made_newK S hl (h4.merge .nil) q⟩
    | some ys =>
      rw [e1] at q
      obtain ⟨a, vs, rfl, h1, h2⟩ := asK_rep S p1 e1
      exact call_dictD pins s σ H _ us Q I rs ⟨a, vs, rfl, h1, fun l hl => made_newK S hl h2 q⟩
theorem bf_ok (o : On L X) (hc : X.calm = true) {cell : Bool} : ∀ f : BF, f ≠ .sorted → f ≠ .sset → CallR X (bfF f) (rBf L xr f cell)
  | .len, _, _ => bf_len o | .abs, _, _ => bf_abs | .min, _, _ => bf_min hc | .max, _, _ => bf_max hc | .sum, _, _ => bf_sum hc | .any, _, _ => bf_any hc | .all, _, _ => bf_all hc
  | .int, _, _ => bf_int | .str, _, _ => bf_str | .list, _, _ => bf_list o hc | .tuple, _, _ => bf_tuple o | .dict, _, _ => bf_dict o hc
  | .sorted, h, _ => absurd rfl h | .sset, _, h => absurd rfl h
/-- outside of calm: some -/
def bfHot : BF → Bool
  | .len => true | .abs => true | .int => true | .str => true | .tuple => true
  | _ => false
theorem bf_hot (o : On L X) {cell : Bool} : ∀ f : BF, bfHot f = true → CallR X (bfF f) (rBf L xr f cell)
  | .len, _ => bf_len o | .abs, _ => bf_abs | .int, _ => bf_int | .str, _ => bf_str | .tuple, _ => bf_tuple o
end
end MP

/-! MpL: expressions. -/
namespace MP
open PySem PySem.Spec PyProof.Rows L2
/-- an expression of the program's runs as the interpreter says -/
def PM (L : Lk) (xr : XR) (W : WX) (X : Cx) (C : Ctx) (e : E) (pe : Expr) : Prop := PE X pe (rE L xr W fun bar env st => evE C bar e env st)
def PMs (L : Lk) (xr : XR) (W : WX) (X : Cx) (C : Ctx) (es : List E) (pes : List Expr) : Prop := PA X pes (rA L xr W fun bar env st => evEs C bar es env st)
/-- a test -/
def PMt (L : Lk) (xr : XR) (W : WX) (X : Cx) (C : Ctx) (e : E) (pe : Expr) : Prop := PT X pe (rT L xr W fun bar env st => (evE C bar e env st).bind asB)
def PMw (L : Lk) (xr : XR) (W : WX) (X : Cx) (C : Ctx) (e : E) (pe : Expr) : Prop := PW X pe (rT L xr W fun bar env st => (evE C bar e env st).bind asB)
section
variable {L : Lk} {X : Cx} {xr : XR} {W : WX} {C : Ctx} {σ : L2.St} {H : Hp} {Q : VK} {pos : Pos} {a b c : E} {pa pb pc : Expr} {es : List E} {pes : List Expr}
/-! consts -/
theorem rE_pure {d : D} {v : V} (hv : ∀ al H, Rp L xr al H v d) (h : rE L xr W (fun _ _ st => .ok d st) σ H Q) : Q v H := by
  obtain ⟨bar, al, env, st, _, S, q⟩ := h
  exact Post.now S (hv al H) q
theorem m_non {j : Nat} : PM L xr W X C .non (.Constant .none j pos) := PE.weak pe_non fun σ H Q h => rE_pure (fun _ _ => .non) h
theorem m_bl {j : Nat} {k : Bool} : PM L xr W X C (.bl k) (.Constant (.bool k) j pos) := PE.weak pe_bl fun σ H Q h => rE_pure (fun _ _ => .bl k) h
theorem m_int {j : Nat} {k : Int} : PM L xr W X C (.int k) (.Constant (.int k) j pos) := PE.weak pe_int fun σ H Q h => rE_pure (fun _ _ => .int k) h
theorem m_str {j : Nat} {k : Str} : PM L xr W X C (.str k) (.Constant (.str k) j pos) := PE.weak pe_str fun σ H Q h => rE_pure (fun _ _ => .str k) h
theorem m_bad : PM L xr W X C .bad pa := ⟨fun _ _ _ _ _ _ ⟨_, _, _, _, _, _, q⟩ => False.elim q⟩
theorem m_var {i : Nat} {x : Str} (hN : X.N[i]? = some x) (hv : Vis X.env.scope x) (h1 : (x == "__debug__") = false := by rfl) (h2 : (x == "__classdict__") = false := by rfl) : PM L xr W X C (.var i) (.Name x pos) := by
  refine PE.weak (pe_var hN hv h1 h2) fun σ H Q ⟨bar, al, env, st, E, S, q⟩ => ?_
  simp only [evE] at q
  split at q
  · rename_i d h
    obtain ⟨v, h1, r⟩ := E.at_ i d h
    exact ⟨v, h1, Post.now S r q⟩
  · exact False.elim q
/-- a name of the module with a constant -/
theorem m_glob {g : Nat} {x : Str} (hg : Gl X x) (hm : ∀ d, C.glob g = some d → ∃ u v, X.mg x = some u ∧ RelV v u ∧ ∀ al H, Rp L xr al H v d) (h1 : (x == "__debug__") = false := by rfl) : PM L xr W X C (.glob g) (.Name x pos) := by
  refine ⟨fun pins s σ H Q I ⟨bar, al, env, st, E, S, q⟩ => ?_⟩
  simp only [evE] at q
  cases h : C.glob g with
  | none => rw [h] at q; exact False.elim q
  | some d =>
    rw [h] at q
    obtain ⟨u, v, e1, e2, e3⟩ := hm d h
    exact (pe_glob hg e1 e2 h1).run pins s σ H Q I (Post.now S (e3 al H) q)
/-! two operands -/
theorem rE_two {f : Sto → D → D → RD} (h : rE L xr W (fun bar env st => (evE C bar a env st).bind fun x st1 => (evE C bar b env st1).bind fun y st2 => f st2 x y) σ H Q) :
    tOp (r2 L xr f) (rE L xr W fun bar env st => evE C bar a env st) (rE L xr W fun bar env st => evE C bar b env st) σ H Q := by
  obtain ⟨bar, al, env, st, E, S, q⟩ := h
  refine ⟨bar, al, env, st, E, S, Post.bind q fun d st1 v al1 H1 x1 S1 r1 q1 => ?_⟩
  refine ⟨bar, al1, env, st1, E.stay x1.stay, S1, Post.bind q1 fun d2 st2 v2 al2 H2 x2 S2 r2 q2 => ?_⟩
  exact ⟨W, bar, σ, al2, st2, d, d2, S2, r1.stay x2.stay, r2, q2⟩
/-- one operand -/
def r1 (L : Lk) (xr : XR) (f : Sto → D → RD) : V → Hp → VK → Prop := fun x H Q => ∃ (W : WX) (bar : Bar) (σ : L2.St) (al : List Addr) (st : Sto) (d : D), StR L xr bar al H st ∧ Rp L xr al H x d ∧
  Post L xr W bar σ (RV L xr) al H (f st d) Q
theorem rE_one {f : Sto → D → RD} {T : V → Hp → VK → Prop} (hT : ∀ x H Q, r1 L xr f x H Q → T x H Q) (h : rE L xr W (fun bar env st => (evE C bar a env st).bind fun x st1 => f st1 x) σ H Q) :
    rE L xr W (fun bar env st => evE C bar a env st) σ H fun x H1 => T x H1 Q := by
  obtain ⟨bar, al, env, st, E, S, q⟩ := h
  refine ⟨bar, al, env, st, E, S, Post.bind q fun d st1 v al1 H1 x1 S1 r1 q1 => ?_⟩
  exact hT _ _ _ ⟨W, bar, σ, al1, st1, d, S1, r1, q1⟩
theorem m_op (o : On L X) {op : Op} {po : Operator} (ha : PM L xr W X C a pa) (hb : PM L xr W X C b pb) (he : po = opP op := by rfl) : PM L xr W X C (.op op a b) (.BinOp pa po pb pos) := by
  subst he
  exact PE.weak (pe_op (op_ok (xr := xr) o op) ha hb) fun σ H Q h => rE_two h
theorem m_catc (o : On L X) (ha : PM L xr W X C a pa) (hb : PM L xr W X C b pb) : PM L xr W X C (.catc a b) (.BinOp pa .Add pb pos) := by
  have h : OpR X (binaryOp .Add) (r2 L xr fun st x y => match asL st x, asL st y with
    | some a, some b => if decide (a.length + b.length ≤ LIM) then newL true (a ++ b) st else .bad
    | _, _ => .bad) := by
    intro pins s σ H x y v u Q I rx ry ⟨W, bar, σ', al, st, d, e, S, pd, pe, q⟩
    simp only at q
    split at q
    · rename_i a b ea eb
      split at q
      · rename_i hl
        obtain ⟨l1, vs1, rfl, h1, r1⟩ := asL_rep S pd ea
        obtain ⟨l2, vs2, rfl, h2, r2⟩ := asL_rep S pe eb
        exact op_cat pins s σ H _ _ v u Q I rx ry ⟨l1, l2, vs1, vs2, rfl, rfl, h1, h2, by rw [r1.length, r2.length]; exact lim_line (of_decide_eq_true hl), fun p hp => made_newL S hp (r1.append r2) q⟩
      · exact False.elim q
    · exact False.elim q
  exact PE.weak (pe_op h ha hb) fun σ H Q h => rE_two h
theorem m_neg (ha : PM L xr W X C a pa) : PM L xr W X C (.neg a) (.UnaryOp .USub pa pos) :=
  PE.weak (pe_un un_neg ha) fun σ H Q h => rE_one (T := fun x H Q => ∃ i : Int, x = .int i ∧ Q (.int (-i)) H) (f := fun st x => match x with
    | .int i => .ok (.int (-i)) st
    | _ => .bad) (fun x H Q ⟨W, bar, σ, al, st, d, S, r, q⟩ => by
      cases d <;> first | exact False.elim q | skip
      cases r
      exact ⟨_, rfl, Post.now S (Rep.int _) q⟩) h
theorem m_not (ha : PM L xr W X C a pa) : PM L xr W X C (.not a) (.UnaryOp .Not pa pos) :=
  PE.weak (pe_not ha) fun σ H Q h => rE_one (T := fun x H Q => ∃ c, x = .bl c ∧ Q (.bl (!c)) H) (f := fun st x => match x with
    | .bl b => .ok (.bl !b) st
    | _ => .bad) (fun x H Q ⟨W, bar, σ, al, st, d, S, r, q⟩ => by
      cases d <;> first | exact False.elim q | skip
      cases r
      exact ⟨_, rfl, Post.now S (Rep.bl _) q⟩) h
theorem m_cmp (o : On L X) (hu : X.A.units + 64 < cLine) {op : Cop} {po : CmpOp} (ha : PM L xr W X C a pa) (hb : PM L xr W X C b pb) (he : po = copP op := by rfl) (hm : behindInMarks po pb = false := by rfl) :
    PM L xr W X C (.cmp op a b) (.Compare pa [po] [pb] pos) := by
  subst he
  exact PE.weak (pe_cmpR (cmp_ok (xr := xr) o hu op) ha hb hm) fun σ H Q h => rE_two h
theorem m_inn (o : On L X) (hu : X.A.units + 65 < cLine) {neg : Bool} {po : CmpOp} (ha : PM L xr W X C a pa) (hb : PM L xr W X C b pb) (he : po = inP neg := by rfl) (hm : behindInMarks po pb = false := by rfl) :
    PM L xr W X C (.inn neg a b) (.Compare pa [po] [pb] pos) := by
  subst he
  exact PE.weak (pe_cmpR (in_ok (xr := xr) o hu neg) ha hb hm) fun σ H Q h => rE_two h
def isP : Bool → CmpOp
  | false => .Is | true => .IsNot
def nonD : D → Bool
  | .non => true | _ => false
theorem isN_ok (neg : Bool) : OpR X (compareOp (isP neg)) (fun x y H Q => y = .non ∧ r1 L xr (fun st d => .ok (.bl (neg != nonD d)) st) x H Q) := by
  intro pins s σ H x y v u Q I rx ry ⟨ey, W, bar, σ', al, st, d, S, r, q⟩
  have hq := Post.now S (Rep.bl _) q
  have e : decide (x = V.non) = nonD d := by
    by_cases hx : x = .non
    · rw [decide_eq_true hx]; subst hx; cases r; rfl
    · rw [decide_eq_false hx]; cases r <;> first | rfl | exact absurd rfl hx
  cases neg
  · rw [Bool.false_bne] at hq
    exact op_isN pins s σ H _ _ v u Q I rx ry ⟨ey, by rw [e]; exact hq⟩
  · rw [Bool.true_bne] at hq
    exact op_notN pins s σ H _ _ v u Q I rx ry ⟨ey, by rw [e]; exact hq⟩
theorem m_isN {neg : Bool} {po : CmpOp} {j : Nat} {p2 : Pos} (ha : PM L xr W X C a pa) (he : po = isP neg := by rfl) (hm : behindInMarks po (.Constant .none j p2) = false := by rfl) :
    PM L xr W X C (.isN neg a) (.Compare pa [po] [.Constant .none j p2] pos) := by
  subst he
  refine PE.weak (pe_cmpR (isN_ok (xr := xr) (L := L) neg) ha pe_non hm) fun σ H Q h => ?_
  exact rE_one (T := fun x H Q => V.non = .non ∧ r1 L xr (fun st d => .ok (.bl (neg != (match d with | .non => true | _ => false))) st) x H Q) (fun x H Q h => ⟨rfl, h⟩) h
theorem m_chain (o : On L X) (hu : X.A.units + 64 < cLine) {op op' : Cop} {po po' : CmpOp} (ha : PM L xr W X C a pa) (hb : PM L xr W X C b pb) (hc : PM L xr W X C c pc) (he : po = copP op := by rfl) (he' : po' = copP op' := by rfl)
    (hm : lastMarks [po, po'] [pb, pc] = false := by rfl) : PM L xr W X C (.chain op op' a b c) (.Compare pa [po, po'] [pb, pc] pos) := by
  subst he he'
  refine PE.weak (pe_chain (cmp_ok (xr := xr) o hu op) (cmp_ok (xr := xr) o hu op') ha hb hc hm) fun σ H Q ⟨bar, al, env, st, E, S, q⟩ => ?_
  refine ⟨bar, al, env, st, E, S, Post.bind q fun d st1 v al1 H1 x1 S1 p1 q1 => ?_⟩
  refine ⟨bar, al1, env, st1, E.stay x1.stay, S1, Post.bind q1 fun d2 st2 v2 al2 H2 x2 S2 p2 q2 => ?_⟩
  refine ⟨W, bar, σ, al2, st2, d, d2, S2, p1.stay x2.stay, p2, Post.bind q2 fun d3 st3 v3 al3 H3 x3 S3 p3 q3 => ?_⟩
  cases d3 <;> first | exact False.elim q3 | skip
  rename_i k
  cases p3
  refine ⟨k, rfl, ?_⟩
  cases k
  · exact Post.now S3 (Rep.bl _) q3
  · refine ⟨bar, al3, env, st3, ((E.stay x1.stay).stay x2.stay).stay x3.stay, S3, Post.bind q3 fun d4 st4 v4 al4 H4 x4 S4 p4 q4 => ?_⟩
    exact ⟨W, bar, σ, al4, st4, d2, d4, S4, (p2.stay x3.stay).stay x4.stay, p4, q4⟩
/-! and, or -/
theorem m_and1 (ha : PM L xr W X C a pa) : PM L xr W X C (.and [a]) (.BoolOp .And [pa] pos) := by
  refine PE.weak (pe_one ha) fun σ H Q ⟨bar, al, env, st, E, S, q⟩ => ⟨bar, al, env, st, E, S, ?_⟩
  refine Post.bind q fun d st1 v al1 H1 x1 S1 p1 q1 => ?_
  cases d <;> first | exact False.elim q1 | skip
  cases p1
  exact Post.now S1 (Rep.bl _) q1
theorem m_or1 (ha : PM L xr W X C a pa) : PM L xr W X C (.or [a]) (.BoolOp .Or [pa] pos) := by
  refine PE.weak (pe_one ha) fun σ H Q ⟨bar, al, env, st, E, S, q⟩ => ⟨bar, al, env, st, E, S, ?_⟩
  refine Post.bind q fun d st1 v al1 H1 x1 S1 p1 q1 => ?_
  cases d <;> first | exact False.elim q1 | skip
  cases p1
  exact Post.now S1 (Rep.bl _) q1
theorem m_and (ha : PM L xr W X C a pa) (hb : PM L xr W X C (.and (b :: es)) (.BoolOp .And (pb :: pes) pos)) : PM L xr W X C (.and (a :: b :: es)) (.BoolOp .And (pa :: pb :: pes) pos) := by
  refine PE.weak (pe_and ha hb) fun σ H Q ⟨bar, al, env, st, E, S, q⟩ => ⟨bar, al, env, st, E, S, ?_⟩
  refine Post.bind q fun d st1 v al1 H1 x1 S1 p1 q1 => ?_
  cases d <;> first | exact False.elim q1 | skip
  rename_i k
  cases p1
  refine ⟨k, rfl, ?_⟩
  cases k
  · exact Post.now S1 (Rep.bl _) q1
  · exact ⟨bar, al1, env, st1, E.stay x1.stay, S1, q1⟩
theorem m_or (ha : PM L xr W X C a pa) (hb : PM L xr W X C (.or (b :: es)) (.BoolOp .Or (pb :: pes) pos)) : PM L xr W X C (.or (a :: b :: es)) (.BoolOp .Or (pa :: pb :: pes) pos) := by
  refine PE.weak (pe_or ha hb) fun σ H Q ⟨bar, al, env, st, E, S, q⟩ => ⟨bar, al, env, st, E, S, ?_⟩
  refine Post.bind q fun d st1 v al1 H1 x1 S1 p1 q1 => ?_
  cases d <;> first | exact False.elim q1 | skip
  rename_i k
  cases p1
  refine ⟨k, rfl, ?_⟩
  cases k
  · exact ⟨bar, al1, env, st1, E.stay x1.stay, S1, q1⟩
  · exact Post.now S1 (Rep.bl _) q1
/-! tests -/
theorem t_val (ha : PM L xr W X C a pa) (h : ∀ (whole : Sem Value), PySem.isTrue pa X.env whole = (do
    let v ← whole
    standAt pa.pos
    holding [v] (truthy v)) := by intro w; rfl) : PMt L xr W X C a pa := by
  refine PT.weak (pt_val ha h) fun σ H Q ⟨bar, al, env, st, E, S, q⟩ => ⟨bar, al, env, st, E, S, Post.bind q fun d st1 v al1 H1 x1 S1 p1 q1 => ?_⟩
  cases d <;> first | exact False.elim q1 | skip
  rename_i k
  cases p1
  exact ⟨k, rfl, Post.now S1 rfl q1⟩
theorem t_cmp (o : On L X) (hu : X.A.units + 64 < cLine) {op : Cop} {po : CmpOp} (ha : PM L xr W X C a pa) (hb : PM L xr W X C b pb) (he : po = copP op := by rfl) (hm : behindInMarks po pb = false := by rfl) :
    PMt L xr W X C (.cmp op a b) (.Compare pa [po] [pb] pos) := by
  subst he
  refine PT.weak (pt_cmpR (cmp_ok (xr := xr) o hu op) ha hb hm) fun σ H Q ⟨bar, al, env, st, E, S, q⟩ => rE_two ⟨bar, al, env, st, E, S, Post.bind q fun d st1 v al1 H1 x1 S1 p1 q1 => ?_⟩
  cases d <;> first | exact False.elim q1 | skip
  rename_i k
  cases p1
  exact ⟨k, rfl, Post.now S1 rfl q1⟩
theorem t_inn (o : On L X) (hu : X.A.units + 65 < cLine) {neg : Bool} {po : CmpOp} (ha : PM L xr W X C a pa) (hb : PM L xr W X C b pb) (he : po = inP neg := by rfl) (hm : behindInMarks po pb = false := by rfl) :
    PMt L xr W X C (.inn neg a b) (.Compare pa [po] [pb] pos) := by
  subst he
  refine PT.weak (pt_cmpR (in_ok (xr := xr) o hu neg) ha hb hm) fun σ H Q ⟨bar, al, env, st, E, S, q⟩ => rE_two ⟨bar, al, env, st, E, S, Post.bind q fun d st1 v al1 H1 x1 S1 p1 q1 => ?_⟩
  cases d <;> first | exact False.elim q1 | skip
  rename_i k
  cases p1
  exact ⟨k, rfl, Post.now S1 rfl q1⟩
theorem t_isN {neg : Bool} {po : CmpOp} {j : Nat} {p2 : Pos} (ha : PM L xr W X C a pa) (he : po = isP neg := by rfl) (hm : behindInMarks po (.Constant .none j p2) = false := by rfl) :
    PMt L xr W X C (.isN neg a) (.Compare pa [po] [.Constant .none j p2] pos) := by
  subst he
  refine PT.weak (pt_cmpR (isN_ok (xr := xr) (L := L) neg) ha pe_non hm) fun σ H Q ⟨bar, al, env, st, E, S, q⟩ => ?_
  refine rE_one (T := fun x H Q => V.non = .non ∧ r1 L xr (fun st d => .ok (.bl (neg != (match d with | .non => true | _ => false))) st) x H Q) (fun x H Q h => ⟨rfl, h⟩) ⟨bar, al, env, st, E, S, Post.bind q fun d st1 v al1 H1 x1 S1 p1 q1 => ?_⟩
  cases d <;> first | exact False.elim q1 | skip
  rename_i k
  cases p1
  exact ⟨k, rfl, Post.now S1 rfl q1⟩
theorem t_chain (o : On L X) (hu : X.A.units + 64 < cLine) {op op' : Cop} {po po' : CmpOp} (ha : PM L xr W X C a pa) (hb : PM L xr W X C b pb) (hc : PM L xr W X C c pc) (he : po = copP op := by rfl) (he' : po' = copP op' := by rfl)
    (hm : lastMarks [po, po'] [pb, pc] = false := by rfl) : PMt L xr W X C (.chain op op' a b c) (.Compare pa [po, po'] [pb, pc] pos) := by
  subst he he'
  refine PT.weak (pt_chain (cmp_ok (xr := xr) o hu op) (cmp_ok (xr := xr) o hu op') ha hb hc hm) fun σ H Q ⟨bar, al, env, st, E, S, q⟩ => ?_
  have hq : ∀ (al : List Addr) (H : Hp) (r : RD), Post L xr W bar σ RB al H (r.bind asB) Q → Post L xr W bar σ (RV L xr) al H r fun x H' => ∃ k, x = V.bl k ∧ Q k H' := fun al H r q => Post.bind q fun d st1 v al1 H1 x1 S1 p1 q1 => by
    cases d <;> first | exact False.elim q1 | skip
    rename_i k
    cases p1
    exact ⟨k, rfl, Post.now S1 rfl q1⟩
  replace q := hq _ _ _ q
  refine ⟨bar, al, env, st, E, S, Post.bind q fun d st1 v al1 H1 x1 S1 p1 q1 => ?_⟩
  refine ⟨bar, al1, env, st1, E.stay x1.stay, S1, Post.bind q1 fun d2 st2 v2 al2 H2 x2 S2 p2 q2 => ?_⟩
  refine ⟨W, bar, σ, al2, st2, d, d2, S2, p1.stay x2.stay, p2, Post.bind q2 fun d3 st3 v3 al3 H3 x3 S3 p3 q3 => ?_⟩
  cases d3 <;> first | exact False.elim q3 | skip
  rename_i k
  cases p3
  refine ⟨k, rfl, ?_⟩
  cases k
  · exact Post.now S3 (Rep.bl _) q3
  · refine ⟨bar, al3, env, st3, ((E.stay x1.stay).stay x2.stay).stay x3.stay, S3, Post.bind q3 fun d4 st4 v4 al4 H4 x4 S4 p4 q4 => ?_⟩
    exact ⟨W, bar, σ, al4, st4, d2, d4, S4, (p2.stay x3.stay).stay x4.stay, p4, q4⟩
theorem t_not (ha : PMt L xr W X C a pa) : PMt L xr W X C (.not a) (.UnaryOp .Not pa pos) := by
  refine PT.weak (L2.pt_not ha) fun σ H Q ⟨bar, al, env, st, E, S, q⟩ => ⟨bar, al, env, st, E, S, ?_⟩
  simp only [evE] at q
  show Post L xr W bar σ RB al H ((evE C bar a env st).bind asB) _
  cases h : evE C bar a env st with
  | bad => rw [h] at q; exact q
  | exn c p st1 => rw [h] at q; exact q
  | ok d st1 =>
    rw [h] at q
    cases d <;> first | exact False.elim q | skip
    intro v al' H' x' S' r'
    cases r'
    exact q _ al' H' x' S' rfl
theorem t_w (h : PMw L xr W X C a pa) : PMt L xr W X C a pa := PW.pt h
theorem w_and (ha : PMt L xr W X C a pa) (hb : PMw L xr W X C (.and (b :: es)) (.BoolOp .And (pb :: pes) pos)) : PMw L xr W X C (.and (a :: b :: es)) (.BoolOp .And (pa :: pb :: pes) pos) := by
  refine PW.weak (pw_and ha hb) fun σ H Q ⟨bar, al, env, st, E, S, q⟩ => ⟨bar, al, env, st, E, S, ?_⟩
  have e : evE C bar (.and (a :: b :: es)) env st = (evE C bar a env st).bind fun x st1 => match x with
    | .bl true => evE C bar (.and (b :: es)) env st1
    | .bl false => .ok (.bl false) st1
    | _ => .bad := rfl
  replace q : Post L xr W bar σ RB al H ((evE C bar (.and (a :: b :: es)) env st).bind asB) Q := q
  rw [e] at q
  show Post L xr W bar σ RB al H ((evE C bar a env st).bind asB) _
  cases h : evE C bar a env st with
  | bad => rw [h] at q; exact q
  | exn c p st1 => rw [h] at q; exact q
  | ok d st1 =>
    rw [h] at q
    cases d <;> first | exact False.elim q | skip
    rename_i k
    intro v al' H' x' S' r'
    cases r'
    cases k
    · exact q _ al' H' x' S' rfl
    · exact ⟨bar, al', env, st1, E.stay x'.stay, S', Post.later (r := (evE C bar (.and (b :: es)) env st1).bind asB) q x'⟩
theorem w_or (ha : PMt L xr W X C a pa) (hb : PMw L xr W X C (.or (b :: es)) (.BoolOp .Or (pb :: pes) pos)) : PMw L xr W X C (.or (a :: b :: es)) (.BoolOp .Or (pa :: pb :: pes) pos) := by
  refine PW.weak (pw_or ha hb) fun σ H Q ⟨bar, al, env, st, E, S, q⟩ => ⟨bar, al, env, st, E, S, ?_⟩
  have e : evE C bar (.or (a :: b :: es)) env st = (evE C bar a env st).bind fun x st1 => match x with
    | .bl false => evE C bar (.or (b :: es)) env st1
    | .bl true => .ok (.bl true) st1
    | _ => .bad := rfl
  replace q : Post L xr W bar σ RB al H ((evE C bar (.or (a :: b :: es)) env st).bind asB) Q := q
  rw [e] at q
  show Post L xr W bar σ RB al H ((evE C bar a env st).bind asB) _
  cases h : evE C bar a env st with
  | bad => rw [h] at q; exact q
  | exn c p st1 => rw [h] at q; exact q
  | ok d st1 =>
    rw [h] at q
    cases d <;> first | exact False.elim q | skip
    rename_i k
    intro v al' H' x' S' r'
    cases r'
    cases k
    · exact ⟨bar, al', env, st1, E.stay x'.stay, S', Post.later (r := (evE C bar (.or (b :: es)) env st1).bind asB) q x'⟩
    · exact q _ al' H' x' S' rfl
theorem asB_one {r : RD} {k : D → Sto → RD} (e : k = fun x st1 => match x with
    | .bl b => .ok (.bl b) st1
    | _ => .bad) : (r.bind k).bind asB = r.bind asB := by
  subst e
  cases r with
  | ok d st => cases d <;> rfl
  | exn c p st => rfl
  | bad => rfl
theorem w_and1 (ha : PMt L xr W X C a pa) : PMw L xr W X C (.and [a]) (.BoolOp .And [pa] pos) := by
  refine PW.weak (pw_and1 ha) fun σ H Q ⟨bar, al, env, st, E, S, q⟩ => ⟨bar, al, env, st, E, S, ?_⟩
  have e : (evE C bar (.and [a]) env st).bind asB = (evE C bar a env st).bind asB := asB_one rfl
  replace q : Post L xr W bar σ RB al H ((evE C bar (.and [a]) env st).bind asB) Q := q
  rw [e] at q; exact q
theorem w_or1 (ha : PMt L xr W X C a pa) : PMw L xr W X C (.or [a]) (.BoolOp .Or [pa] pos) := by
  refine PW.weak (pw_or1 ha) fun σ H Q ⟨bar, al, env, st, E, S, q⟩ => ⟨bar, al, env, st, E, S, ?_⟩
  have e : (evE C bar (.or [a]) env st).bind asB = (evE C bar a env st).bind asB := asB_one rfl
  replace q : Post L xr W bar σ RB al H ((evE C bar (.or [a]) env st).bind asB) Q := q
  rw [e] at q; exact q
theorem m_ite (ht : PMt L xr W X C a pa) (hb : PM L xr W X C b pb) (hc : PM L xr W X C c pc) : PM L xr W X C (.ite a b c) (.IfExp pa pb pc pos) := by
  refine PE.weak (pe_ifExp ht hb hc) fun σ H Q ⟨bar, al, env, st, E, S, q⟩ => ⟨bar, al, env, st, E, S, ?_⟩
  refine Post.bind q fun k st1 v al1 H1 x1 S1 p1 q1 => ?_
  cases p1
  cases k
  · exact ⟨bar, al1, env, st1, E.stay x1.stay, S1, q1⟩
  · exact ⟨bar, al1, env, st1, E.stay x1.stay, S1, q1⟩
/-! arguments -/
theorem ms_nil : PMs L xr W X C [] [] := by
  refine PA.weak pa_nil fun σ H Q ⟨bar, al, env, st, E, S, q⟩ => ?_
  exact q [] al H .refl S .nil
theorem ms_cons (ha : PM L xr W X C a pa) (hs : PMs L xr W X C es pes) (h : starEach (pa :: pes) X.env = (false, eval pa X.env) :: starEach pes X.env := by rfl) : PMs L xr W X C (a :: es) (pa :: pes) := by
  refine PA.weak (pa_cons ha hs h) fun σ H Q ⟨bar, al, env, st, E, S, q⟩ => ⟨bar, al, env, st, E, S, ?_⟩
  refine Post.bind q fun d st1 v al1 H1 x1 S1 p1 q1 => ⟨bar, al1, env, st1, E.stay x1.stay, S1, ?_⟩
  refine Post.bind q1 fun ds st2 vs al2 H2 x2 S2 p2 q2 => ?_
  exact q2 _ al2 H2 .refl S2 (.cons (p1.stay x2.stay) p2)
/-- what stands behind the arguments -/
theorem rA_then {k : Bar → List D → Sto → RD} {T : List V → Hp → Prop} (hT : ∀ (bar : Bar) (env : Env) xs al H st ds, EnvR L xr al H σ env → StR L xr bar al H st → Reps L.K L.w xr al H xs ds → Post L xr W bar σ (RV L xr) al H (k bar ds st) Q → T xs H)
    (h : rE L xr W (fun bar env st => (evEs C bar es env st).bind (k bar)) σ H Q) : rA L xr W (fun bar env st => evEs C bar es env st) σ H T := by
  obtain ⟨bar, al, env, st, E, S, q⟩ := h
  exact ⟨bar, al, env, st, E, S, Post.bind q fun ds st1 vs al1 H1 x1 S1 p1 q1 => hT bar env vs al1 H1 st1 ds (E.stay x1.stay) S1 p1 q1⟩
theorem m_tup {x1 : Nat} (hs : PMs L xr W X C es pes) : PM L xr W X C (.tup es) (.Tuple pes x1 pos) := by
  refine PE.weak (pe_tup hs) fun σ H Q h => rA_then (fun bar env xs al H st ds _ S p q => ?_) h
  split at q
  · rename_i hl
    exact ⟨by rw [p.length]; exact lim_line (of_decide_eq_true hl), fun l hl => made_tup S hl p q⟩
  · exact False.elim q
theorem m_lst {cell : Bool} (hs : PMs L xr W X C es pes) : PM L xr W X C (.lst cell es) (.List pes pos) := by
  refine PE.weak (pe_lst hs) fun σ H Q h => rA_then (fun bar env xs al H st ds _ S p q => ?_) h
  split at q
  · rename_i hl
    exact ⟨by rw [p.length]; exact lim_line (of_decide_eq_true hl), fun l hl => made_newL S hl p q⟩
  · exact False.elim q
theorem m_ix (o : On L X) (hu : X.A.units + 1 < cLine) (ha : PM L xr W X C a pa) (hb : PM L xr W X C b pb) (hs : PlainIx pb := by intro o i; rfl) : PM L xr W X C (.ix a b) (.Subscript pa pb pos) :=
  PE.weak (pe_ix (ix_ok (xr := xr) o hu) ha hb hs) fun σ H Q h => rE_two h
theorem m_rev {k : Nat} {p1 p2 p3 : Pos} (ha : PM L xr W X C a pa) : PM L xr W X C (.rev a) (.Subscript pa (.Slice none none (some (.UnaryOp .USub (.Constant (.int 1) k p1) p2)) p3) pos) :=
  PE.weak (pe_revL ha) fun σ H Q h => rE_one (f := revV) (T := fun x H1 Q => ∃ a xs, x = V.ref a ∧ SqL X.K H1 a xs ∧ ∀ (p : Addr), H1 p = none → Q (V.ref p) (upd H1 p (HO.lst xs.reverse))) (fun x H Q ⟨W, bar, σ, al, st, d, S, r, q⟩ => by
    unfold revV at q
    split at q
    · rename_i xs e
      obtain ⟨a, vs, rfl, h1, h2⟩ := asL_rep S r e
      exact ⟨a, vs, rfl, .inl (.inl h1), fun p hp => made_lst S hp h2.reverse q⟩
    · exact False.elim q) h
/-- an attribute -/
theorem attr_rep {fs : List (Str × V)} {gs : List (Nat × D)} {f : Nat} {al : List Addr} {H : Hp} (inj : ∀ f g, L.okF f = true → L.okF g = true → L.fl f = L.fl g → f = g) (hf : L.okF f = true) (r : RepF L xr al H fs gs) {d : D} (e : getF gs f = some d) :
    ∃ v, fs.lookup (L.fl f) = some v ∧ Rp L xr al H v d := by
  induction r with
  | nil => simp [getF] at e
  | cons k p r ih =>
    rename_i g v d' fs gs
    unfold getF at e ih
    rw [List.find?_cons] at e
    by_cases hg : g = f
    · subst hg
      simp at e
      subst e
      exact ⟨v, by simp [List.lookup], p⟩
    · simp [hg] at e
      obtain ⟨w, h1, h2⟩ := ih (by simpa using e)
      refine ⟨w, ?_, h2⟩
      have : (L.fl f == L.fl g) = false := by
        rw [beq_eq_false_iff_ne]
        exact fun z => hg (inj g f k hf z.symm)
      simp only [List.lookup, this]
      exact h1
/-- what the text's classes give -/
structure ClsF (L : Lk) : Prop where
  cls : ∀ c, L.okC c = true → L2.Cls L.K (L.ca c)
  fld : ∀ c f, L.okC c = true → L.okF f = true → L2.NoAttr L.K (L.ca c) (L.fl f)
  inj : ∀ f g, L.okF f = true → L.okF g = true → L.fl f = L.fl g → f = g
theorem m_attr (o : On L X) (cf : ClsF L) {f : Nat} {pf : Str} (ha : PM L xr W X C a pa) (hx : ∀ ad c p, ¬ xr.ex ad c p) (hf : L.okF f = true) (he : pf = L.fl f) (hb : attributeBase pa pf X.env (eval pa X.env) = eval pa X.env := by rfl) :
    PM L xr W X C (.attr a f) (.Attribute pa pf pos) := by
  subst he
  refine PE.weak (pe_fld ha hb) fun σ H Q h => rE_one (f := fun st d => attrV st d f) (T := fun x H1 Q => ∃ a C dx fs v, x = V.ref a ∧ H1 a = some (HO.ins C dx fs) ∧ L2.Cls X.K C ∧ NoAttr X.K C (L.fl f) ∧ List.lookup (L.fl f) fs = some v ∧ Q v H1) (fun x H Q ⟨W, bar, σ, al, st, d, S, r, q⟩ => ?_) h
  replace q : Post L xr W bar σ (RV L xr) al H (attrV st d f) Q := q
  unfold attrV at q
  split at q
  · rename_i i
    split at q
    · rename_i c fs hs
      cases r with
      | ref ea =>
        obtain ⟨dx, fs', h1, h2, h3, h4⟩ := S.cell i _ _ hs ea
        cases hg : getF fs f with
        | none => rw [hg] at q; exact False.elim q
        | some d =>
          rw [hg] at q
          obtain ⟨v, e1, e2⟩ := attr_rep cf.inj hf h2 hg
          exact ⟨_, _, dx, fs', v, rfl, h1, by rw [o.K]; exact cf.cls c h3, by rw [o.K]; exact cf.fld c f h3 hf, e1, Post.now S e2 q⟩
    · exact False.elim q
  · cases r with
    | exn hh => exact absurd hh (hx _ _ _)
  · exact False.elim q
/-- a built-in function -/
theorem bfE_eq {f : BF} {cell : Bool} (h1 : f ≠ .sorted) (h2 : f ≠ .sset) {bar : Bar} {env : Env} {st : Sto} : evE C bar (.bf f cell es) env st = (evEs C bar es env st).bind fun xs st1 => bfV st1 f cell xs := by
  cases f <;> first | exact absurd rfl h1 | exact absurd rfl h2 | rfl
theorem m_bfB {f : BF} {cell : Bool} {x : Str} {p : Pos} {id : String} (hc : CallR X (bfF f) (rBf L xr f cell)) (h1 : f ≠ .sorted) (h2 : f ≠ .sset) (hid : bfF f = .builtin id) (hg : Gl X x) (hm : X.mg x = none) (hv : bootBuiltins x = some (.builtin id))
    (hs : PMs L xr W X C (a :: es) (pa :: pes)) (g1 : x ≠ "__name__") (g2 : (x == "__debug__") = false := by rfl) (g3 : starEach (pa :: pes) X.env = (false, eval pa X.env) :: starEach pes X.env := by rfl)
    (g4 : (backTo pos (starEach pes X.env)).any (·.1) = false := by rfl) : PM L xr W X C (.bf f cell (a :: es)) (.Call (.Name x p) (pa :: pes) [] pos) := by
  rw [hid] at hc
  refine PE.weak (pe_callB hc hg hm hv hs g1 g2 g3 g4) fun σ H Q h => ?_
  simp only [bfE_eq h1 h2] at h
  exact rA_then (fun bar env xs al H st ds _ S p q => ⟨W, bar, σ, al, st, ds, S, p, q⟩) h
theorem m_bfT {f : BF} {cell : Bool} {x : Str} {p : Pos} {id : String} (hc : CallR X (bfF f) (rBf L xr f cell)) (h1 : f ≠ .sorted) (h2 : f ≠ .sset) (hid : bfF f = .type id) (hg : Gl X x) (hm : X.mg x = none) (hv : bootBuiltins x = some (.type id))
    (hs : PMs L xr W X C (a :: es) (pa :: pes)) (g1 : x ≠ "__name__") (g2 : (x == "__debug__") = false := by rfl) (g3 : starEach (pa :: pes) X.env = (false, eval pa X.env) :: starEach pes X.env := by rfl)
    (g4 : (backTo pos (starEach pes X.env)).any (·.1) = false := by rfl) : PM L xr W X C (.bf f cell (a :: es)) (.Call (.Name x p) (pa :: pes) [] pos) := by
  rw [hid] at hc
  refine PE.weak (pe_callTy hc hg hm hv hs g1 g2 g3 g4) fun σ H Q h => ?_
  simp only [bfE_eq h1 h2] at h
  exact rA_then (fun bar env xs al H st ds _ S p q => ⟨W, bar, σ, al, st, ds, S, p, q⟩) h
/-- a built-in type's method -/
theorem m_bm (o : On L X) (hu : X.A.units + 65 < cLine) {m : BM} {pm : Str} {apos cpos : Pos} (ho : PM L xr W X C a pa) (hs : PMs L xr W X C (b :: es) (pb :: pes)) (he : pm = bmN m := by rfl)
    (hbase : attributeBase pa pm X.env (eval pa X.env) = eval pa X.env := by rfl)
    (hfew : ((backTo cpos (starEach (pb :: pes) X.env)).all (fun x => !x.1) && (backToKw cpos (keywordEach [] X.env)).all (fun x => x.1.isSome)
      && decide ((pb :: pes).length + ([] : List Keyword).length + (if ([] : List Keyword).isEmpty then 0 else 1) < 30)) = true := by rfl)
    (hline : (apos.endLine == cpos.line) = true := by rfl) (hs1 : starEach (pb :: pes) X.env = (false, eval pb X.env) :: starEach pes X.env := by rfl) (hplain : (backTo cpos (starEach pes X.env)).any (·.1) = false := by rfl) :
    PM L xr W X C (.bm m a (b :: es)) (.Call (.Attribute pa pm apos) (pb :: pes) [] cpos) := by
  subst he
  refine PE.weak (pe_bmA ho hs hbase hfew hline hs1 hplain) fun σ H Q ⟨bar, al, env, st, E, S, q⟩ => ⟨bar, al, env, st, E, S, ?_⟩
  refine Post.bind q fun d st1 v al1 H1 x1 S1 p1 q1 => ?_
  split at q1
  · rename_i hk
    obtain ⟨hn, id, pa', sl, ty, mt⟩ := bm_ok (xr := xr) o hu hk
    refine ⟨_, id, _, pa', sl, ty, mt, kd_ty o S1 p1 rfl hn, bar, al1, env, st1, E.stay x1.stay, S1, ?_⟩
    refine Post.bind q1 fun ds st2 vs al2 H2 x2 S2 p2 q2 => ?_
    split at q2
    · rename_i hk2
      exact ⟨W, bar, σ, al2, st2, d, ds, S2, p1.stay x2.stay, p2, hk2, q2⟩
    · exact False.elim q2
  · exact False.elim q1
theorem m_bm0 (o : On L X) (hu : X.A.units + 65 < cLine) {m : BM} {pm : Str} {apos cpos : Pos} (ho : PM L xr W X C a pa) (he : pm = bmN m := by rfl)
    (hbase : attributeBase pa pm X.env (eval pa X.env) = eval pa X.env := by rfl) (hline : (apos.endLine == cpos.line) = true := by rfl) :
    PM L xr W X C (.bm m a []) (.Call (.Attribute pa pm apos) [] [] cpos) := by
  subst he
  refine PE.weak (pe_bmA0 ho hbase hline) fun σ H Q ⟨bar, al, env, st, E, S, q⟩ => ⟨bar, al, env, st, E, S, ?_⟩
  refine Post.bind q fun d st1 v al1 H1 x1 S1 p1 q1 => ?_
  split at q1
  · rename_i hk
    obtain ⟨hn, id, pa', sl, ty, mt⟩ := bm_ok (xr := xr) o hu hk
    refine ⟨_, id, _, pa', sl, ty, mt, kd_ty o S1 p1 rfl hn, ?_⟩
    replace q1 : Post L xr W bar σ (RV L xr) al1 H1 (if kd st1 d = kd st1 d then bmV bar st1 m d [] else .bad) Q := q1
    rw [if_pos rfl] at q1
    exact ⟨W, bar, σ, al1, st1, d, [], S1, p1, .nil, rfl, q1⟩
  · exact False.elim q1
end
end MP

/-! MpM: slices, isinstance, dicts displayed, f-strings. -/
namespace MP
open PySem PySem.Spec PyProof.Rows L2
section
variable {L : Lk} {X : Cx} {xr : XR} {W : WX} {C : Ctx} {σ : L2.St} {H : Hp} {Q : VK} {pos : Pos} {a b c : E} {pa pb pc : Expr} {es : List E} {pes : List Expr}
/-! slices -/
def PMo (L : Lk) (xr : XR) (W : WX) (X : Cx) (C : Ctx) (es : List E) (pe : Option Expr) : Prop := PO X pe fun σ H Q => ∃ bar al env st, EnvR L xr al H σ env ∧ StR L xr bar al H st ∧
  Post L xr W bar σ (fun _ _ (v d : Option Int) => v = d) al H (evBd C bar es env st) Q
theorem o_none : PMo L xr W X C [] none := ⟨fun pins s σ H Q I ⟨bar, al, env, st, E, S, q⟩ => po_none.run pins s σ H Q I (q none al H .refl S rfl)⟩
theorem o_some (ha : PM L xr W X C a pa) : PMo L xr W X C [a] (some pa) := by
  refine ⟨fun pins s σ H Q I ⟨bar, al, env, st, E, S, q⟩ => (po_some ha).run pins s σ H Q I ⟨bar, al, env, st, E, S, Post.bind q fun d st1 v al1 H1 x1 S1 p1 q1 => ?_⟩⟩
  cases d <;> first | exact False.elim q1 | skip
  cases p1
  exact ⟨_, rfl, q1 _ al1 H1 .refl S1 rfl⟩
theorem m_sl (o : On L X) {l h : List E} {pl ph : Option Expr} {p2 : Pos} (ha : PM L xr W X C a pa) (hl : PMo L xr W X C l pl) (hh : PMo L xr W X C h ph) : PM L xr W X C (.sl a l h) (.Subscript pa (.Slice pl ph none p2) pos) := by
  refine PE.weak (pe_slice (sl_ok (xr := xr) o) ha hl hh) fun σ H Q ⟨bar, al, env, st, E, S, q⟩ => ⟨bar, al, env, st, E, S, ?_⟩
  refine Post.bind q fun d st1 v al1 H1 x1 S1 p1 q1 => ⟨bar, al1, env, st1, E.stay x1.stay, S1, ?_⟩
  refine Post.bind q1 fun i st2 vl al2 H2 x2 S2 p2 q2 => ⟨bar, al2, env, st2, (E.stay x1.stay).stay x2.stay, S2, ?_⟩
  refine Post.bind q2 fun j st3 vh al3 H3 x3 S3 p3 q3 => ?_
  subst p2 p3
  exact ⟨W, bar, σ, al3, st3, d, S3, (p1.stay x2.stay).stay x3.stay, q3⟩
/-! f-strings -/
/-- the pieces: texts as they are, values formatted -/
def PJm (L : Lk) (xr : XR) (W : WX) (X : Cx) (C : Ctx) (es : List E) (pes : List Expr) : Prop := ∃ ts, PJ X pes ts ∧ ∀ (bar : Bar) (acc : Str) (env : Env) (al : List Addr) (st : Sto) (σ : L2.St) (H : Hp) (Q : Str → Hp → Prop), EnvR L xr al H σ env → StR L xr bar al H st →
  Post L xr W bar σ (RV L xr) al H (evFs C bar es acc env st) (fun v H => ∃ z, v = .str z ∧ Q z H) → tJs ts acc σ H Q
theorem j_nil : PJm L xr W X C [] [] := ⟨[], .nil, fun bar acc env al st σ H Q E S q => by
  obtain ⟨z, e, h⟩ := q (.str acc) al H .refl S (.str _)
  cases e
  exact h⟩
theorem j_str {j : Nat} {z : Str} (hs : PJm L xr W X C es pes) : PJm L xr W X C (.str z :: es) (.Constant (.str z) j pos :: pes) := by
  obtain ⟨ts, h1, h2⟩ := hs
  refine ⟨_ :: ts, .cons pe_str h1, fun bar acc env al st σ H Q E S q => ?_⟩
  rw [tJs.eq_2]
  replace q : Post L xr W bar σ (RV L xr) al H (if decide (acc.length + z.length ≤ LIM) then evFs C bar es (acc ++ z) env st else .bad) (fun v H => ∃ z, v = .str z ∧ Q z H) := q
  split at q
  · rename_i hl
    refine ⟨z, rfl, ?_, h2 bar _ env al st σ H Q E S q⟩
    rw [strLen_append]; exact lim_line (of_decide_eq_true hl)
  · exact False.elim q
theorem j_fmt (ha : PM L xr W X C a pa) (hs : PJm L xr W X C es pes) : PJm L xr W X C (a :: es) (.FormattedValue pa (-1) none pos :: pes) := by
  obtain ⟨ts, h1, h2⟩ := hs
  refine ⟨_ :: ts, .cons (pe_fmt ha) h1, fun bar acc env al st σ H Q E S q => ?_⟩
  rw [tJs.eq_2]
  refine ⟨bar, al, env, st, E, S, Post.bind q fun d st1 v al1 H1 x1 S1 p1 q1 => ?_⟩
  cases d <;> first | exact False.elim q1 | skip
  · rename_i i
    cases p1
    simp only at q1
    split at q1
    · rename_i hl
      rw [Bool.and_eq_true] at hl
      refine .inr ⟨i, rfl, of_decide_eq_true hl.1, _, rfl, ?_, h2 bar _ env al1 st1 σ H1 Q (E.stay x1.stay) S1 q1⟩
      have := lim_line (of_decide_eq_true hl.2)
      rw [strLen_append]; exact this
    · exact False.elim q1
  · rename_i z
    cases p1
    simp only at q1
    split at q1
    · rename_i hl
      refine .inl ⟨z, rfl, ?_, _, rfl, ?_, h2 bar _ env al1 st1 σ H1 Q (E.stay x1.stay) S1 q1⟩
      · exact Nat.le_trans (Nat.le_add_left _ _) (lim_line (of_decide_eq_true hl))
      · rw [strLen_append]; exact lim_line (of_decide_eq_true hl)
    · exact False.elim q1
theorem evFs_str {bar : Bar} : ∀ (es : List E) (acc : Str) (env : Env) (st st' : Sto) (d : D), evFs C bar es acc env st = .ok d st' → ∃ z, d = .str z
  | [], acc, env, st, st', d, h => by cases h; exact ⟨_, rfl⟩
  | e :: es, acc, env, st, st', d, h => by
    simp only [evFs] at h
    cases h1 : evE C bar e env st with
    | bad => rw [h1] at h; cases h
    | exn c p s => rw [h1] at h; cases h
    | ok x s =>
      rw [h1] at h
      simp only [Res.bind] at h
      cases x <;> first | (cases h; done) | skip
      all_goals simp only at h
      · split at h
        · exact evFs_str es _ env _ _ _ h
        · cases h
      · split at h
        · exact evFs_str es _ env _ _ _ h
        · cases h
theorem m_fstr {x y : E} {px py : Expr} (hs : PJm L xr W X C (x :: y :: es) (px :: py :: pes)) : PM L xr W X C (.fstr (x :: y :: es)) (.JoinedStr (px :: py :: pes) pos) := by
  obtain ⟨ts, h1, h2⟩ := hs
  refine PE.weak (pe_joined h1) fun σ H Q ⟨bar, al, env, st, E, S, q⟩ => h2 bar _ env al st σ H _ E S ?_
  replace q : Post L xr W bar σ (RV L xr) al H (evFs C bar (x :: y :: es) Str.empty env st) Q := q
  cases h : evFs C bar (x :: y :: es) Str.empty env st with
  | bad => rw [h] at q; exact q
  | exn c p s => rw [h] at q; exact q
  | ok d s =>
    rw [h] at q
    obtain ⟨z, rfl⟩ := evFs_str _ _ _ _ _ _ h
    intro v al' H' x' S' r'
    cases r'
    exact ⟨z, rfl, q _ al' H' x' S' (.str z)⟩
theorem m_fstr1 (hs : PM L xr W X C a pa) : PM L xr W X C (.fstr [a]) (.JoinedStr [.FormattedValue pa (-1) none pos] pos) := by
  refine PE.weak (pe_joined1 (pe_fmt hs)) fun σ H Q ⟨bar, al, env, st, E, S, q⟩ => ⟨bar, al, env, st, E, S, Post.bind q fun d st1 v al1 H1 x1 S1 p1 q1 => ?_⟩
  cases d <;> first | exact False.elim q1 | skip
  · rename_i i
    cases p1
    simp only at q1
    split at q1
    · rename_i hl
      rw [Bool.and_eq_true] at hl
      refine .inr ⟨i, rfl, of_decide_eq_true hl.1, ?_⟩
      simp only [evFs, Str.empty_append] at q1
      exact Post.now S1 (.str _) q1
    · exact False.elim q1
  · rename_i z
    cases p1
    simp only at q1
    split at q1
    · rename_i hl
      refine .inl ⟨z, rfl, Nat.le_trans (Nat.le_add_left _ _) (lim_line (of_decide_eq_true hl)), ?_⟩
      simp only [evFs, Str.empty_append] at q1
      exact Post.now S1 (.str _) q1
    · exact False.elim q1
/-! dicts -/
/-- a dict's entries, in turn -/
def PDm (L : Lk) (xr : XR) (W : WX) (X : Cx) (C : Ctx) (es : List E) (pos : Pos) (pk : List (Option Expr)) (pv : List Expr) : Prop := ∃ trs, PPs X pos pk pv trs ∧ ∀ (bar : Bar) (env : Env) (al : List Addr) (st : Sto) (σ : L2.St) (H : Hp) (Q : List (V × V) → Hp → Prop), EnvR L xr al H σ env → StR L xr bar al H st →
  Post L xr W bar σ (RVs L xr) al H (evEs C bar es env st) (fun vs H => ∀ ps : List (V × V), (ps.flatMap fun p => [p.1, p.2]) = vs → Q ps H) → tPairs trs σ H Q
theorem d_nil : PDm L xr W X C [] pos [] [] := ⟨[], pps_nil, fun bar env al st σ H Q E S q => q [] al H .refl S .nil [] rfl⟩
theorem d_cons {pks : List (Option Expr)} {pvs : List Expr} (ha : PM L xr W X C a pa) (hb : PM L xr W X C b pb) (hs : PDm L xr W X C es pos pks pvs) : PDm L xr W X C (a :: b :: es) pos (some pa :: pks) (pb :: pvs) := by
  obtain ⟨trs, h1, h2⟩ := hs
  refine ⟨_ :: trs, pps_cons ha hb h1, fun bar env al st σ H Q E S q => ?_⟩
  rw [tPairs.eq_2]
  refine ⟨bar, al, env, st, E, S, Post.bind q fun d st1 v al1 H1 x1 S1 p1 q1 => ⟨bar, al1, env, st1, E.stay x1.stay, S1, ?_⟩⟩
  have q1' : Post L xr W bar σ (RVs L xr) al1 H1 ((evE C bar b env st1).bind fun y st2 => (evEs C bar es env st2).bind fun ys st3 => .ok (d :: y :: ys) st3) (fun vs H => ∀ ps : List (V × V), (ps.flatMap fun p => [p.1, p.2]) = vs → Q ps H) := by
    have e : ((evEs C bar (b :: es) env st1).bind fun xs st2 => Res.ok (d :: xs) st2) = ((evE C bar b env st1).bind fun y st2 => (evEs C bar es env st2).bind fun ys st3 => .ok (d :: y :: ys) st3) := by
      simp only [evEs]
      cases evE C bar b env st1 with
      | ok y st2 => simp only [Res.bind]; cases evEs C bar es env st2 <;> rfl
      | exn c p s => rfl
      | bad => rfl
    rw [← e]; exact q1
  refine Post.bind q1' fun d2 st2 v2 al2 H2 x2 S2 p2 q2 => ?_
  refine h2 bar env al2 st2 σ H2 _ ((E.stay x1.stay).stay x2.stay) S2 ?_
  refine Post.bind q2 fun ds st3 vs al3 H3 x3 S3 p3 q3 => ?_
  intro ps e
  exact q3 (v :: v2 :: vs) al3 H3 .refl S3 (.cons ((p1.stay x2.stay).stay x3.stay) (.cons (p2.stay x3.stay) p3)) ((v, v2) :: ps) (by rw [List.flatMap_cons, e]; rfl)
theorem pairUp_rep {al : List Addr} {H : Hp} : ∀ (ds : List D) {vs : List V} {kvs : List (Key × D)}, Reps L.K L.w xr al H vs ds → pairUp ds = some kvs →
    ∃ ws : List (Key × V), ((ws.map fun kv => (kV kv.1, kv.2)).flatMap fun p => [p.1, p.2]) = vs ∧ RepK L.K L.w xr al H ws kvs
  | [], _, _, .nil, e => by simp [pairUp] at e; subst e; exact ⟨[], rfl, .nil⟩
  | [_], _, _, _, e => by simp [pairUp] at e
  | k :: v :: ds, _, kvs, .cons r1 (.cons r2 r3), e => by
    simp only [pairUp] at e
    cases hk : key k with
    | none => rw [hk] at e; simp at e
    | some kk =>
      cases hp : pairUp ds with
      | none => rw [hk, hp] at e; simp at e
      | some r =>
        rw [hk, hp] at e
        simp only [Option.some.injEq] at e
        subst e
        obtain ⟨ws, h1, h2⟩ := pairUp_rep ds r3 hp
        have := key_rep r1 hk
        subst this
        exact ⟨(kk, _) :: ws, by rw [List.map_cons, List.flatMap_cons, h1]; rfl, .cons r2 h2⟩
theorem m_dct0 {cell : Bool} : PM L xr W X C (.dct cell []) (.Dict [] [] pos) :=
  PE.weak pe_dnewK fun σ H Q ⟨bar, al, env, st, E, S, q⟩ p hp => made_newK S hp .nil q
theorem m_dct {cell : Bool} {pks : List (Option Expr)} {pvs : List Expr} (hs : PDm L xr W X C (a :: es) pos pks pvs) (hall : pks.all (·.isSome) = true := by rfl) (hl : pks.length = pvs.length := by rfl) (h0 : pks ≠ []) (h15 : pks.length ≤ 15) : PM L xr W X C (.dct cell (a :: es)) (.Dict pks pvs pos) := by
  obtain ⟨trs, h1, h2⟩ := hs
  refine PE.weak (pe_disp h1 hall hl h0 h15) fun σ H Q ⟨bar, al, env, st, E, S, q⟩ p hp => ?_
  have x0 : Ext bar al H (al ++ [p]) (upd H p (.dK [])) := .push hp
  have S0 : StR L xr bar (al ++ [p]) (upd H p (.dK [])) (st ++ [.dct []]) := S.push hp ⟨[], .inl upd_same, fun _ => upd_same, .nil⟩
  refine h2 bar env (al ++ [p]) (st ++ [.dct []]) σ _ _ (E.stay x0.stay) S0 ?_
  have q0 : Post L xr W bar σ (RV L xr) (al ++ [p]) (upd H p (.dK [])) ((evEs C bar (a :: es) env (st ++ [.dct []])).bind fun xs st1 => match pairUp xs, st1[st.length]? with
      | some kvs, some (.dct []) => if decide (kvs.length ≤ 15) && bar.can st.length then .ok (.ref st.length) (st1.set st.length (.dct (MP.mergeK [] kvs))) else .bad
      | _, _ => .bad) Q := Post.later q x0
  refine Post.bind q0 fun ds st1 vs al1 H1 x1 S1 p1 q1 => ?_
  split at q1
  · rename_i kvs hpu hcell
    split at q1
    · rename_i hlen
      rw [Bool.and_eq_true] at hlen
      obtain ⟨ws, h3, h4⟩ := pairUp_rep ds p1 hpu
      intro ps e
      have hps : ps = ws.map fun kv => (kV kv.1, kv.2) := by
        have : ∀ (ps qs : List (V × V)), (ps.flatMap fun p => [p.1, p.2]) = (qs.flatMap fun p => [p.1, p.2]) → ps = qs := by
          intro ps
          induction ps with
          | nil => intro qs h; cases qs with
            | nil => rfl
            | cons q qs => simp at h
          | cons p ps ih => intro qs h; cases qs with
            | nil => simp at h
            | cons q qs =>
              simp only [List.flatMap_cons, List.cons_append, List.nil_append, List.cons.injEq] at h
              rw [ih qs h.2.2]
              congr 1
              exact Prod.ext h.1 h.2.1
        exact this _ _ (e.trans h3.symm)
      have ea : al1[st.length]? = some p := by
        refine x1.refs _ _ ?_
        rw [← S.len]; simp
      obtain ⟨vs0, g1, g2, g3⟩ := S1.cell _ _ _ hcell ea
      cases g3
      refine ⟨g2 hlen.2, ws, hps, by rw [h4.length]; exact of_decide_eq_true hlen.1, ?_⟩
      have Sy : Stay xr al1 al1 H1 (upd H1 p (.dK (L2.mergeK [] ws))) := Stay.write ea
      exact q1 _ al1 _ (Ext.write ea hlen.2) (S1.write ea ⟨_, .inl upd_same, fun _ => upd_same, (h4.merge .nil).stay Sy⟩) (.ref ea)
    · exact False.elim q1
  · exact False.elim q1
/-! isinstance -/
def tcN : Tc → Option String
  | .bool => some "bool" | .int => some "int" | .str => some "str" | .list => some "list" | .tuple => some "tuple" | .valueError => some "ValueError" | .cls _ => none
theorem isi_rep (o : On L X) {bar : Bar} {al : List Addr} {st : Sto} {d : D} {v : V} {t : Tc} {n : String} {k : Bool} (hx : ∀ ad c p, ¬ xr.ex ad c p) (S : StR L xr bar al H st) (r : Rp L xr al H v d) (ht : tcN t = some n) (h : isiV C st d t = some k) :
    ∃ ty, TyX X.K H v ty ∧ PySem.W.kitOne X.K ty (.type n) = some k := by
  cases d with
  | non =>
    cases r
    refine ⟨_, .base .non, ?_⟩
    cases t <;> cases ht <;> cases h <;> exact L2.kit_ty (by decide +kernel)
  | bl b =>
    cases r
    refine ⟨_, .base (.bl _), ?_⟩
    cases t <;> cases ht <;> cases h <;> exact L2.kit_ty (by decide +kernel)
  | int b =>
    cases r
    refine ⟨_, .base (.int _), ?_⟩
    cases t <;> cases ht <;> cases h <;> exact L2.kit_ty (by decide +kernel)
  | str b =>
    cases r
    refine ⟨_, .base (.str _), ?_⟩
    cases t <;> cases ht <;> cases h <;> exact L2.kit_ty (by decide +kernel)
  | tup b =>
    have hk : PySem.W.kitOne X.K (.type "tuple") (.type n) = some k := by
      cases t <;> cases ht <;> cases h <;> exact L2.kit_ty (by decide +kernel)
    refine ⟨_, ?_, hk⟩
    cases r with
    | tup hh hr =>
      rcases hh with ⟨hh, _⟩ | hh
      · rcases hh with hh | ⟨ob, hh⟩
        · exact .base (.tup hh)
        · exact .fTuple hh
      · obtain ⟨ob, its, m, h1, h2, _⟩ := hh
        rw [← o.K] at h1
        exact .kTuple h1 h2
  | lst b =>
    have hk : PySem.W.kitOne X.K (.type "list") (.type n) = some k := by
      cases t <;> cases ht <;> cases h <;> exact L2.kit_ty (by decide +kernel)
    cases r with
    | lst h1 _ _ => exact ⟨_, .base (.lst h1), hk⟩
  | ref i =>
    simp only [isiV] at h
    cases hs : st[i]? with
    | none => rw [hs] at h; cases h
    | some c =>
      rw [hs] at h
      cases c with
      | lst xs =>
        have hk : PySem.W.kitOne X.K (.type "list") (.type n) = some k := by
          cases t <;> cases ht <;> cases h <;> exact L2.kit_ty (by decide +kernel)
        obtain ⟨a, vs, rfl, ea, h1, h2⟩ := cell_lst S r hs
        exact ⟨_, .base (.lst h1), hk⟩
      | _ => cases h
  | exn c p => cases r with
    | exn hh => exact absurd hh (hx _ _ _)
  | _ => cases h
theorem m_isi (o : On L X) (hx : ∀ ad c p, ¬ xr.ex ad c p) {t : Tc} {n : String} {px : Str} {x : Str} {p p2 : Pos} (ht : tcN t = some n) (hg : Gl X "isinstance") (hm : X.mg "isinstance" = none) (hgx : Gl X px) (hmx : X.mg px = none) (hb : bootBuiltins px = some (.type n))
    (ha : PM L xr W X C a pa) (hv : bootBuiltins "isinstance" = some (.builtin "isinstance")) (hp1 : px ≠ "__name__") (hp2 : (px == "__debug__") = false := by rfl) (g1 : ("isinstance" : Str) ≠ "__name__")
    (g3 : starEach [pa, .Name px p2] X.env = (false, eval pa X.env) :: starEach [.Name px p2] X.env := by rfl)
    (g4 : (backTo pos (starEach [.Name px p2] X.env)).any (·.1) = false := by rfl) : PM L xr W X C (.isi a t) (.Call (.Name "isinstance" p) [pa, .Name px p2] [] pos) := by
  have hn : PE X (.Name px p2) (tC (V.ty n)) := pe_bltn hgx hmx hb rfl hp1 hp2
  refine PE.weak (pe_callB call_isi hg hm hv (pa_cons ha (pa_cons hn pa_nil) g3) g1 rfl g3 g4) fun σ H Q ⟨bar, al, env, st, E, S, q⟩ => ⟨bar, al, env, st, E, S, ?_⟩
  refine Post.bind q fun d st1 v al1 H1 x1 S1 p1 q1 => ?_
  cases h : isiV C st1 d t with
  | none => rw [h] at q1; exact False.elim q1
  | some k =>
    rw [h] at q1
    obtain ⟨ty, h1, h2⟩ := isi_rep (C := C) o hx S1 p1 ht h
    exact ⟨v, .ty n, ty, .type n, k, rfl, .ty n, h1, h2, Post.now S1 (Rep.bl _) q1⟩
end
end MP

/-! MpN: calls of the text's defs, methods, classes. -/
namespace MP
open PySem PySem.Spec PyProof.Rows L2
/-- what a def promises, at a depth -/
def spF (L : Lk) (T : MP.Txt) (d f : Nat) : Sp := fun vs H Q E => ∃ xr bar al st ds, (∀ a c p, ¬ XR.ex xr a c p) ∧ vs.length = (L.ps f).length ∧ StR L xr bar al H st ∧ Reps L.K L.w xr al H vs ds ∧
  Post L xr (fun cls dd _ H => E cls dd H) bar [] (RV L xr) al H (MP.call T d f bar ds st) Q
section
variable {L : Lk} {X : Cx} {xr : XR} {W : WX} {C : Ctx} {σ : L2.St} {H : Hp} {Q : VK} {pos : Pos} {a b c : E} {pa pb pc : Expr} {es : List E} {pes : List Expr} {bar : Bar} {al al' : List Addr} {H' : Hp} {st st' : Sto}
theorem shut_can {i : Nat} (h : i < st.length) : (shutBar st).can i = false := by
  simp only [Bar.can, Bool.and_eq_false_iff, decide_eq_false_iff_not]
  exact .inl (by simpa using h)
theorem StR.shut (S : StR L xr bar al H st) : StR L xr (shutBar st) al H st :=
  ⟨S.len, S.nd, fun i c a e1 e2 => by
    have q := S.cell i c a e1 e2
    cases c with
    | lst ds => exact q
    | ins c fs => exact q
    | dct ds =>
      obtain ⟨vs, h1, h2, h3⟩ := q
      exact ⟨vs, h1, (fun z => by rw [shut_can (List.getElem?_eq_some_iff.mp e1).1] at z; cases z), h3⟩, S.hid⟩
theorem pre_get {more : List Addr} {i : Nat} {a : Addr} (nd : (al ++ more).Nodup) (e : (al ++ more)[i]? = some a) (h : al.length ≤ i) : a ∉ al := fun hm => by
  rw [List.getElem?_append_right h] at e
  exact (List.nodup_append.mp nd).2.2 a hm a (List.mem_of_getElem? e) rfl
/-- cells that are gone become trees -/
theorem frz_rep {more : List Addr} (S : StR L xr bar (al ++ more) H st) : ∀ (k : Nat) (v : V) (d d' : D), Rp L xr (al ++ more) H v d → frz al.length k st d = some d' → Rp L xr al H v d' := by
  have hno : ∀ p, Fr xr (al ++ more) p → Fr xr al p := fun p h => ⟨fun hm => h.1 (List.mem_append_left _ hm), h.2⟩
  intro k
  induction k with
  | zero => intro v d d' r e; simp [frz] at e
  | succ k ih =>
    have ihs : ∀ (ds : List D) (vs : List V) (ds' : List D), Reps L.K L.w xr (al ++ more) H vs ds → mapO (frz al.length k st) ds = some ds' → Reps L.K L.w xr al H vs ds' := by
      intro ds
      induction ds with
      | nil => intro vs ds' r e; cases r; simp [mapO] at e; subst e; exact .nil
      | cons d ds ih2 =>
        intro vs ds' r e
        cases r with
        | cons r1 r2 =>
          simp only [mapO] at e
          cases h1 : frz al.length k st d with
          | none => rw [h1] at e; simp at e
          | some d1 =>
            cases h2 : mapO (frz al.length k st) ds with
            | none => rw [h1, h2] at e; simp at e
            | some ds1 =>
              rw [h1, h2] at e
              simp only [Option.some.injEq] at e
              subst e
              exact .cons (ih _ _ _ r1 h1) (ih2 _ _ r2 h2)
    have ihk : ∀ (ds : List (Key × D)) (vs : List (Key × V)) (ds' : List (Key × D)), RepK L.K L.w xr (al ++ more) H vs ds → mapO (fun kv : Key × D => (frz al.length k st kv.2).map fun d => (kv.1, d)) ds = some ds' → RepK L.K L.w xr al H vs ds' := by
      intro ds
      induction ds with
      | nil => intro vs ds' r e; cases r; simp [mapO] at e; subst e; exact .nil
      | cons d ds ih2 =>
        intro vs ds' r e
        cases r with
        | cons r1 r2 =>
          rename_i kk v vs d
          simp only [mapO] at e
          cases h1 : frz al.length k st d with
          | none => rw [h1] at e; simp at e
          | some d1 =>
            cases h2 : mapO (fun kv : Key × D => (frz al.length k st kv.2).map fun d => (kv.1, d)) ds with
            | none => rw [h1, h2] at e; simp at e
            | some ds1 =>
              rw [h1, h2] at e
              simp only [Option.map_some, Option.some.injEq] at e
              subst e
              exact .cons (ih _ _ _ r1 h1) (ih2 _ _ r2 h2)
    intro v d d' r e
    cases d with
    | non => cases r; simp [frz] at e; subst e; exact .non
    | bl b => cases r; simp [frz] at e; subst e; exact .bl b
    | int b => cases r; simp [frz] at e; subst e; exact .int b
    | str b => cases r; simp [frz] at e; subst e; exact .str b
    | exn c p => simp [frz] at e
    | scr c => simp [frz] at e
    | kdc c => simp [frz] at e
    | tup xs =>
      simp only [frz, Option.map_eq_some_iff] at e
      obtain ⟨ys, h1, rfl⟩ := e
      cases r with
      | tup h q => exact .tup (h.elim (fun z => .inl ⟨z.1, hno _ z.2⟩) .inr) (ihs _ _ _ q h1)
    | lst xs =>
      simp only [frz, Option.map_eq_some_iff] at e
      obtain ⟨ys, h1, rfl⟩ := e
      cases r with
      | lst h n q => exact .lst h (hno _ n) (ihs _ _ _ q h1)
    | dct xs =>
      simp only [frz, Option.map_eq_some_iff] at e
      obtain ⟨ys, h1, rfl⟩ := e
      cases r with
      | dct h n q => exact .dct h (hno _ n) (ihk _ _ _ q h1)
    | ref i =>
      cases r with
      | ref ea =>
        rename_i a
        simp only [frz] at e
        split at e
        · rename_i hi
          cases e
          rw [List.getElem?_append_left hi] at ea
          exact .ref ea
        · rename_i hi
          have na : Fr xr al a := ⟨pre_get S.nd ea (by omega), fun hh => (S.hid a hh).1 (List.mem_of_getElem? ea)⟩
          split at e
          · rename_i xs hs
            simp only [Option.map_eq_some_iff] at e
            obtain ⟨ys, h1, rfl⟩ := e
            obtain ⟨vs, g1, g2⟩ := S.cell _ _ _ hs ea
            exact .lst g1 na (ihs _ _ _ g2 h1)
          · rename_i xs hs
            simp only [Option.map_eq_some_iff] at e
            obtain ⟨ys, h1, rfl⟩ := e
            obtain ⟨vs, g1, _, g2⟩ := S.cell _ _ _ hs ea
            exact .dct g1 na (ihk _ _ _ g2 h1)
          · cases e
/-- behind a call that keeps nothing -/
theorem Post.shut {r : RD} (S : StR L xr bar al H st) (q : Post L xr W bar σ (RV L xr) al H (shut st r) Q) : Post L xr W (shutBar st) σ (RV L xr) al H r Q := by
  have back : ∀ al' H' st', Ext (shutBar st) al H al' H' → StR L xr (shutBar st) al' H' st' → Ext bar al H al H' ∧ StR L xr bar al H' st := fun al' H' st' x S' => by
    have hk : ∀ p o, H p = some o → H' p = some o := fun p o e => x.keep p o e fun i ei => shut_can (by rw [← S.len]; exact (List.getElem?_eq_some_iff.mp ei).1)
    have x' : Ext bar al H al H' := ⟨⟨[], by simp, fun _ h => nomatch h⟩, fun p o e _ => hk p o e⟩
    refine ⟨x', S.len, S.nd, fun i c p e1 e2 => ?_, fun a ha => ⟨(S.hid a ha).1, (S.hid a ha).2.elim fun o h => ⟨o, hk a o h⟩⟩⟩
    obtain ⟨o, ho⟩ := S.some e2
    exact (S.cell i c p e1 e2).move x'.stay (by rw [hk p o ho, ho])
  cases r with
  | bad => exact q
  | exn c p st' =>
    intro cls dd al' H' x S' e
    obtain ⟨h1, h2⟩ := back al' H' st' x S'
    refine q cls dd al H' h1 h2 ?_
    obtain ⟨more, rfl, _⟩ := x.pre
    refine ⟨e.1, ?_⟩
    have e2 := e.2
    cases p with
    | none => exact e2
    | some i =>
      obtain ⟨d, g1, g2, g3⟩ := e2
      exact ⟨d, g1, fun hm => g2 (List.mem_append_left _ hm), g3⟩
  | ok d st' =>
    intro v al' H' x S' rv
    obtain ⟨h1, h2⟩ := back al' H' st' x S'
    replace q : Post L xr W bar σ (RV L xr) al H (match frz st.length 60 st' d with
      | some d' => .ok d' st
      | none => .bad) Q := q
    cases hf : frz st.length 60 st' d with
    | none => rw [hf] at q; exact False.elim q
    | some d' =>
      rw [hf] at q
      obtain ⟨more, rfl, _⟩ := x.pre
      rw [← S.len] at hf
      exact q v al H' h1 h2 (frz_rep S' 60 v d d' rv hf)
theorem Post.wish {r : RD} (q : Post L xr W bar σ (RV L xr) al H r Q) : Post L xr (fun cls dd _ H => WE W σ cls dd H) bar [] (RV L xr) al H r Q := by
  cases r with
  | bad => exact q
  | exn c p st' => exact q
  | ok d st' => exact q
theorem call_len {T : MP.Txt} {d f : Nat} {F : Fn} (hF : T.fn f = some F) {ds : List D} (q : Post L xr W bar σ (RV L xr) al H (MP.call T d f bar ds st) Q) : ds.length = F.np := by
  cases d with
  | zero => exact False.elim q
  | succ d =>
    simp only [MP.call, hF] at q
    by_cases h : ds.length = F.np
    · exact h
    · rw [if_neg h] at q; exact False.elim q
theorem call_fn {T : MP.Txt} {d f : Nat} {ds : List D} (q : Post L xr W bar σ (RV L xr) al H (MP.call T d f bar ds st) Q) : ∃ F, T.fn f = some F := by
  cases d with
  | zero => exact False.elim q
  | succ d =>
    cases h : T.fn f with
    | some F => exact ⟨F, rfl⟩
    | none => simp only [MP.call, h] at q; exact False.elim q
/-- what is known of the defs, at a depth -/
structure Fns (L : Lk) (T : MP.Txt) (d : Nat) (X : Cx) : Prop where
  on : On L X
  room : Room (2 * d + 2) X.A
  np : ∀ f F, T.fn f = some F → (L.ps f).length = F.np
  ok : ∀ f F, T.fn f = some F → FnOk X.prog X.w X.K X.mg X.base (CX X.prog X.w) (2 * d + 1) (L.fa f) (L.fd f) (L.ps f) (spF L T d f)
  bi : ∀ f F, T.fn f = some F → Binds X.K (L.fd f) (L.ps f) []
theorem rless {j k : Nat} {A : Around} (h : Room k A) (hj : j ≤ k) : Room j A := ⟨h.hd, by have := h.dp; omega, by have := h.un; omega⟩
theorem callR_sp (nx : ∀ a c p, ¬ xr.ex a c p) {T : MP.Txt} {d f : Nat} (hn : ∀ f F, T.fn f = some F → (L.ps f).length = F.np) {keep : Bool} {vs : List V} {ds : List D} (S : StR L xr bar al H st) (r : Reps L.K L.w xr al H vs ds)
    (q : Post L xr W bar σ (RV L xr) al H (if keep then MP.call T d f bar ds st else MP.shut st (MP.call T d f (shutBar st) ds st)) Q) : spF L T d f vs H Q (WE W σ) := by
  cases keep with
  | true =>
    replace q : Post L xr W bar σ (RV L xr) al H (MP.call T d f bar ds st) Q := q
    obtain ⟨F, hF⟩ := call_fn q
    exact ⟨xr, bar, al, st, ds, nx, by rw [hn f F hF, r.length]; exact call_len hF q, S, r, Post.wish q⟩
  | false =>
    replace q : Post L xr W bar σ (RV L xr) al H (MP.shut st (MP.call T d f (shutBar st) ds st)) Q := q
    have q' := Post.shut S q
    obtain ⟨F, hF⟩ := call_fn q'
    exact ⟨xr, shutBar st, al, st, ds, nx, by rw [hn f F hF, r.length]; exact call_len hF q', S.shut, r, Post.wish q'⟩
theorem m_call (nx : ∀ a c p, ¬ xr.ex a c p) {T : MP.Txt} {d f : Nat} {F : Fn} {keep : Bool} {x : Str} {p : Pos} (fs : Fns L T d X) (tk : Takes X W) (hF : T.fn f = some F) (hg : Gl X x) (hm : X.mg x = some (.ref (L.fa f))) (hk : PySem.W.keepIn X.K (.ref (L.fa f)) = true)
    (hs : PMs L xr W X (ctx T d) (a :: es) (pa :: pes)) (g2 : (x == "__debug__") = false := by rfl) (g3 : starEach (pa :: pes) X.env = (false, eval pa X.env) :: starEach pes X.env := by rfl)
    (g4 : (backTo pos (starEach pes X.env)).any (·.1) = false := by rfl) : PM L xr W X (ctx T d) (.call f keep (a :: es)) (.Call (.Name x p) (pa :: pes) [] pos) := by
  refine PE.weak (pe_callS (E := WE W) (fs.ok f F hF) (rless fs.room (by omega)) hg hm hk (fs.bi f F hF) (fun σ => passAt tk σ) hs g2 g3 g4) fun σ H Q h => ?_
  exact rA_then (k := fun bar ds st => if keep then MP.call T d f bar ds st else MP.shut st (MP.call T d f (shutBar st) ds st)) (fun bar env xs al H st ds _ S p q => callR_sp nx fs.np S p q) h
/-- a method, chosen when the object is known -/
def tMethA (X : Cx) (k : Nat) (m : Str) (W : WX) (ta : TE) (t : TA) : TE := fun σ H Q => ta σ H fun x H1 => ∃ (a C dx f : Addr) (fs : List (Str × V)) (fd : FuncData) (ps : List Str) (sp : Sp), x = V.ref a ∧ H1 a = some (.ins C dx fs) ∧ fs.lookup m = none ∧ L2.Cls X.K C ∧ L2.Meth X.K C m f ∧
  FnOk X.prog X.w X.K X.mg X.base (CX X.prog X.w) k f fd ps sp ∧ Binds X.K fd ps [] ∧ t σ H1 fun vs H2 => sp (x :: vs) H2 Q (WE W σ)
theorem pe_methA {k : Nat} {m : Str} {apos : Pos} {ta : TE} {t : TA} {pl : Sem Bool} (ho : PE X pa ta) (hr : Room k X.A) (tk : Takes X W) (ha : PA X (pb :: pes) t)
    (g3 : starEach (pb :: pes) X.env = (false, eval pb X.env) :: starEach pes X.env) (g4 : (backTo pos (starEach pes X.env)).any (·.1) = false)
    (g5 : eval (.Call (.Attribute pa m apos) (pb :: pes) [] pos) X.env = (do
      let ov ← eval pa X.env
      standAt apos.atName
      let __x ← holding [ov] (getMethod ov m pl)
      match __x with
        | (f, first) => callWith pos f first (backTo pos (starEach (pb :: pes) X.env)) (backToKw pos (keywordEach [] X.env)))) :
    PE X (.Call (.Attribute pa m apos) (pb :: pes) [] pos) (tMethA X k m W ta t) := by
  refine ⟨fun pins s σ H Q I h => PySem.W.methodCall_KW (pl := pl) (thn (ho.run pins s σ H _ I h) fun u s1 ⟨x, H1, I1, r1, a, Cc, dx, f, fs, fd, ps, sp, ex, ea, hl, hc, hm, hF, hb, q1⟩ => ?_) g5⟩
  subst ex
  cases (show u = Value.ref a from r1)
  refine getmeth_ok I1 ea hc hm hl ?_
  refine PySem.W.callWith_K I1.ok.mod.kin hm.kp (thn (ha.run pos pins s1 σ H1 _ I1 q1) fun us s2 ⟨vs, H2, I2, r2, q2⟩ => ?_) g3 g4
  exact ⟨I2.kIn, run_fnS (E := WE W) hF hr hb (passAt tk σ) I2 (.cons r1 r2) q2⟩
theorem pe_methA0 {k : Nat} {m : Str} {apos : Pos} {ta : TE} {pl : Sem Bool} (ho : PE X pa ta) (hr : Room k X.A) (tk : Takes X W)
    (g5 : eval (.Call (.Attribute pa m apos) [] [] pos) X.env = (do
      let ov ← eval pa X.env
      standAt apos.atName
      let __x ← holding [ov] (getMethod ov m pl)
      match __x with
        | (f, first) => callWith pos f first (backTo pos (starEach [] X.env)) (backToKw pos (keywordEach [] X.env)))) :
    PE X (.Call (.Attribute pa m apos) [] [] pos) (tMethA X k m W ta tNil) := by
  refine ⟨fun pins s σ H Q I h => PySem.W.methodCall_KW (pl := pl) (thn (ho.run pins s σ H _ I h) fun u s1 ⟨x, H1, I1, r1, a, Cc, dx, f, fs, fd, ps, sp, ex, ea, hl, hc, hm, hF, hb, q1⟩ => ?_) g5⟩
  subst ex
  cases (show u = Value.ref a from r1)
  refine getmeth_ok I1 ea hc hm hl ?_
  exact PySem.W.callWith_K0 I1.kIn hm.kp (run_fnS (E := WE W) hF hr hb (passAt tk σ) I1 (.cons r1 .nil) q1)
/-- what the text's methods give -/
structure MethF (L : Lk) (T : MP.Txt) : Prop where
  at_ : ∀ c m f, L.okC c = true → T.meth c m = some f → L2.Meth L.K (L.ca c) (L.me m) (L.fa f)
  ne : ∀ c m g f, T.meth c m = some g → L.okF f = true → L.fl f ≠ L.me m
  fn : ∀ c m f, T.meth c m = some f → ∃ F, T.fn f = some F
theorem lookup_no {m : Nat} (mf : ∀ f, L.okF f = true → L.fl f ≠ L.me m) {fs : List (Str × V)} {gs : List (Nat × D)} (r : RepF L xr al H fs gs) : fs.lookup (L.me m) = none := by
  induction r with
  | nil => rfl
  | cons k p r ih =>
    rename_i f _ _ _ _
    have : (L.me m == L.fl f) = false := by
      rw [beq_eq_false_iff_ne]
      exact fun z => mf f k z.symm
    simp only [List.lookup, this]
    exact ih
theorem m_meth (nx : ∀ a c p, ¬ xr.ex a c p) {T : MP.Txt} {d m : Nat} {keep : Bool} {pm : Str} {apos : Pos} {pl : Sem Bool} (fs : Fns L T d X) (cf : ClsF L) (mf : MethF L T) (tk : Takes X W) (he : pm = L.me m) (ho : PM L xr W X (ctx T d) a pa)
    (hs : PMs L xr W X (ctx T d) (b :: es) (pb :: pes)) (g3 : starEach (pb :: pes) X.env = (false, eval pb X.env) :: starEach pes X.env := by rfl)
    (g4 : (backTo pos (starEach pes X.env)).any (·.1) = false := by rfl)
    (g5 : eval (.Call (.Attribute pa pm apos) (pb :: pes) [] pos) X.env = (do
      let ov ← eval pa X.env
      standAt apos.atName
      let __x ← holding [ov] (getMethod ov pm pl)
      match __x with
        | (f, first) => callWith pos f first (backTo pos (starEach (pb :: pes) X.env)) (backToKw pos (keywordEach [] X.env))) := by rfl) :
    PM L xr W X (ctx T d) (.meth a m keep (b :: es)) (.Call (.Attribute pa pm apos) (pb :: pes) [] pos) := by
  subst he
  refine PE.weak (pe_methA (k := 2 * d + 1) ho (rless fs.room (by omega)) tk hs g3 g4 g5) fun σ H Q ⟨bar, al, env, st, E, S, q⟩ => ⟨bar, al, env, st, E, S, ?_⟩
  refine Post.bind q fun dd st1 v al1 H1 x1 S1 p1 q1 => ?_
  cases dd <;> first | exact False.elim q1 | skip
  rename_i i
  cases hst : st1[i]? with
  | none => simp only [hst] at q1; exact False.elim q1
  | some cc =>
    simp only [hst] at q1
    cases cc <;> first | exact False.elim q1 | skip
    rename_i c gs
    simp only at q1
    cases hme : T.meth c m with
    | none => rw [hme] at q1; exact False.elim q1
    | some f =>
      rw [hme] at q1
      cases p1 with
      | ref ea =>
        obtain ⟨dx, fs', h1, h2, h3, h4⟩ := S1.cell i _ _ hst ea
        obtain ⟨F, hF⟩ := mf.fn c m f hme
        refine ⟨_, _, dx, L.fa f, fs', L.fd f, L.ps f, spF L T d f, rfl, h1, lookup_no (fun f' hf' => mf.ne c m f f' hme hf') h2, by rw [fs.on.K]; exact cf.cls c h3, by rw [fs.on.K]; exact mf.at_ c m f h3 hme, fs.ok f F hF, fs.bi f F hF, ?_⟩
        refine ⟨bar, al1, env, st1, E.stay x1.stay, S1, Post.bind q1 fun ds st2 vs al2 H2 x2 S2 p2 q2 => ?_⟩
        exact callR_sp nx fs.np S2 (.cons (.ref (x2.refs _ _ ea)) p2) q2
theorem m_meth0 (nx : ∀ a c p, ¬ xr.ex a c p) {T : MP.Txt} {d m : Nat} {keep : Bool} {pm : Str} {apos : Pos} {pl : Sem Bool} (fs : Fns L T d X) (cf : ClsF L) (mf : MethF L T) (tk : Takes X W) (he : pm = L.me m) (ho : PM L xr W X (ctx T d) a pa)
    (g5 : eval (.Call (.Attribute pa pm apos) [] [] pos) X.env = (do
      let ov ← eval pa X.env
      standAt apos.atName
      let __x ← holding [ov] (getMethod ov pm pl)
      match __x with
        | (f, first) => callWith pos f first (backTo pos (starEach [] X.env)) (backToKw pos (keywordEach [] X.env))) := by rfl) :
    PM L xr W X (ctx T d) (.meth a m keep []) (.Call (.Attribute pa pm apos) [] [] pos) := by
  subst he
  refine PE.weak (pe_methA0 (k := 2 * d + 1) ho (rless fs.room (by omega)) tk g5) fun σ H Q ⟨bar, al, env, st, E, S, q⟩ => ⟨bar, al, env, st, E, S, ?_⟩
  refine Post.bind q fun dd st1 v al1 H1 x1 S1 p1 q1 => ?_
  cases dd <;> first | exact False.elim q1 | skip
  rename_i i
  cases hst : st1[i]? with
  | none => simp only [hst] at q1; exact False.elim q1
  | some cc =>
    simp only [hst] at q1
    cases cc <;> first | exact False.elim q1 | skip
    rename_i c gs
    simp only at q1
    cases hme : T.meth c m with
    | none => rw [hme] at q1; exact False.elim q1
    | some f =>
      rw [hme] at q1
      cases p1 with
      | ref ea =>
        obtain ⟨dx, fs', h1, h2, h3, h4⟩ := S1.cell i _ _ hst ea
        obtain ⟨F, hF⟩ := mf.fn c m f hme
        refine ⟨_, _, dx, L.fa f, fs', L.fd f, L.ps f, spF L T d f, rfl, h1, lookup_no (fun f' hf' => mf.ne c m f f' hme hf') h2, by rw [fs.on.K]; exact cf.cls c h3, by rw [fs.on.K]; exact mf.at_ c m f h3 hme, fs.ok f F hF, fs.bi f F hF, ?_⟩
        exact callR_sp nx fs.np S1 (.cons (.ref ea) .nil) q1
/-- an object is made -/
theorem makeP (nx : ∀ a c p, ¬ xr.ex a c p) {T : MP.Txt} {d f c : Nat} (hn : ∀ f F, T.fn f = some F → (L.ps f).length = F.np) (hc : L.okC c = true) {vs : List V} {ds : List D} (S : StR L xr bar al H st) (r : Reps L.K L.w xr al H vs ds)
    (q : Post L xr W bar σ (RV L xr) al H (match MP.call T d f bar (.ref st.length :: ds) (st ++ [.ins c []]) with
      | .ok .non st2 => .ok (.ref st.length) st2
      | _ => .bad) Q) (x dx : Addr) (hx : H x = none) (hd : H dx = none) (hne : dx ≠ x) :
    spF L T d f (.ref x :: vs) (upd (upd H dx (.own x)) x (.ins (L.ca c) dx [])) (fun v H2 => v = .non ∧ Q (.ref x) H2) fun _ _ _ => False := by
  have x0 : Ext bar al H al (upd H dx (.own x)) := .new hd
  have S0 : StR L xr bar al (upd H dx (.own x)) st := S.new hd
  have hx0 : upd H dx (.own x) x = none := by rw [upd_ne (Ne.symm hne)]; exact hx
  have x1 : Ext bar al (upd H dx (.own x)) (al ++ [x]) (upd (upd H dx (.own x)) x (.ins (L.ca c) dx [])) := .push hx0
  have S1 : StR L xr bar (al ++ [x]) (upd (upd H dx (.own x)) x (.ins (L.ca c) dx [])) (st ++ [.ins c []]) := S0.push hx0 ⟨dx, [], upd_same, .nil, hc, Nat.zero_le _⟩
  have ea : (al ++ [x])[st.length]? = some x := by rw [← S.len]; simp
  have X01 := x0.trans S1.nd x1
  have q' : Post L xr (fun cls dd _ H => False) bar [] (RV L xr) (al ++ [x]) (upd (upd H dx (.own x)) x (.ins (L.ca c) dx [])) (MP.call T d f bar (.ref st.length :: ds) (st ++ [.ins c []])) (fun v H2 => v = .non ∧ Q (.ref x) H2) := by
    cases hcl : MP.call T d f bar (.ref st.length :: ds) (st ++ [.ins c []]) with
    | bad => rw [hcl] at q; exact q
    | exn c p s => rw [hcl] at q; exact False.elim q
    | ok dd s =>
      rw [hcl] at q
      cases dd <;> first | exact False.elim q | skip
      intro v al' H' x' S' r'
      cases r'
      exact ⟨rfl, q _ al' H' (X01.trans S'.nd x') S' (.ref (x'.refs _ _ ea))⟩
  obtain ⟨F, hF⟩ := call_fn q'
  refine ⟨xr, bar, al ++ [x], st ++ [.ins c []], .ref st.length :: ds, nx, ?_, S1, .cons (.ref ea) (r.stay X01.stay), q'⟩
  have := call_len hF q'
  rw [hn f F hF, ← this, List.length_cons, List.length_cons, r.length]
/-- what the text's classes' making gives -/
structure MakeF (L : Lk) (T : MP.Txt) : Prop where
  make : ∀ c f, T.init c = some f → L.okC c = true ∧ L2.Mk L.K (L.ca c) (L.fa f)
theorem passes_no {X : Cx} : Passes (CX X.prog X.w) X fun _ _ _ => False := fun pins σ H s e s' I ⟨_, _, _, _, _, _, _, _, _, _, _, _, h⟩ => h.elim
theorem m_make (nx : ∀ a c p, ¬ xr.ex a c p) {T : MP.Txt} {d c f : Nat} {F : Fn} {x : Str} {p : Pos} (fs : Fns L T d X) (kf : MakeF L T) (hi : T.init c = some f) (hF : T.fn f = some F) (hg : Gl X x) (hm : X.mg x = some (.ref (L.ca c)))
    (hs : PMs L xr W X (ctx T d) (a :: es) (pa :: pes)) (g2 : (x == "__debug__") = false := by rfl) (g3 : starEach (pa :: pes) X.env = (false, eval pa X.env) :: starEach pes X.env := by rfl)
    (g4 : (backTo pos (starEach pes X.env)).any (·.1) = false := by rfl) : PM L xr W X (ctx T d) (.make c (a :: es)) (.Call (.Name x p) (pa :: pes) [] pos) := by
  obtain ⟨hc, hk⟩ := kf.make c f hi
  refine PE.weak (pe_make (by rw [fs.on.K]; exact hk) (fs.ok f F hF) fs.room hg hm (fs.bi f F hF) .nil passes_no hs g2 g3 g4) fun σ H Q h => ?_
  refine rA_then (k := fun bar ds st => match T.init c with
    | some f => match MP.call T d f bar (.ref st.length :: ds) (st ++ [.ins c []]) with
      | .ok .non st2 => .ok (.ref st.length) st2
      | _ => .bad
    | none => .bad) (fun bar env xs al H st ds _ S p q x dx hx hd hne => ?_) h
  rw [hi] at q
  rw [List.append_nil]
  exact makeP nx fs.np hc S p q x dx hx hd hne
theorem m_make0 (nx : ∀ a c p, ¬ xr.ex a c p) {T : MP.Txt} {d c f : Nat} {F : Fn} {x : Str} {p : Pos} (fs : Fns L T d X) (kf : MakeF L T) (hi : T.init c = some f) (hF : T.fn f = some F) (hg : Gl X x) (hm : X.mg x = some (.ref (L.ca c)))
    (g2 : (x == "__debug__") = false := by rfl) : PM L xr W X (ctx T d) (.make c []) (.Call (.Name x p) [] [] pos) := by
  obtain ⟨hc, hk⟩ := kf.make c f hi
  refine PE.weak (pe_make0 (by rw [fs.on.K]; exact hk) (fs.ok f F hF) fs.room hg hm (fs.bi f F hF) .nil passes_no g2) fun σ H Q ⟨bar, al, env, st, E, S, q⟩ x dx hx hd hne => ?_
  replace q : Post L xr W bar σ (RV L xr) al H (match T.init c with
    | some f => match MP.call T d f bar [.ref st.length] (st ++ [.ins c []]) with
      | .ok .non st2 => .ok (.ref st.length) st2
      | _ => .bad
    | none => .bad) Q := q
  rw [hi] at q
  exact makeP nx fs.np hc S .nil q x dx hx hd hne
end
end MP

/-! MpO: what is walked; targets. -/
namespace MP
open PySem PySem.Spec PyProof.Rows L2
section
variable {L : Lk} {X : Cx} {xr : XR} {W : WX} {C : Ctx} {σ : L2.St} {H : Hp} {Q : VK} {pos : Pos} {a b c : E} {pa pb pc : Expr} {es : List E} {pes : List Expr} {bar : Bar} {al al' : List Addr} {H' : Hp} {st st' : Sto}
/-- more objects are hidden, none that stood -/
structure Hides (xr xr2 : XR) (H : Hp) : Prop where
  ex : xr2.ex = xr.ex
  hid : ∀ a, xr2.hid a → xr.hid a ∨ H a = none
theorem Hides.refl : Hides xr xr H := ⟨rfl, fun _ => .inl⟩
theorem Hides.rep {xr2 : XR} (h : Hides xr xr2 H) {v : V} {d : D} (r : Rp L xr al H v d) : Rp L xr2 al H v d :=
  r.conv (fun a c p e => by rw [h.ex]; exact e) (fun _ _ e => e) fun a o e n => ⟨n.1, fun hh => (h.hid a hh).elim n.2 fun z => by rw [z] at e; cases e⟩
/-- a walk's turns give these items, while what is walked stays -/
structure Walk (L : Lk) (xr : XR) (al : List Addr) (H : Hp) (J : It) (xs ds : List D) : Prop where
  ref : ∀ i ∈ xs.filterMap cellOf, i < al.length
  go : ∀ (bar : Bar) i al' H', Ext (walkLo bar xs) al H al' H' → ∀ d, ds[i]? = some d → J.go i H' ∧ ∀ x H'', J.yld i H' x H'' → (H'' = H' ∨ ∃ T o, H' T = none ∧ H'' = upd H' T o) ∧ (∀ xr2 bar' st', Hides xr xr2 H → StR L xr2 bar' al' H' st' → Rp L xr2 al' H'' x d)
  stop : ∀ (bar : Bar) i al' H', Ext (walkLo bar xs) al H al' H' → ds.length = i → J.stop i H'
def denI (C : Ctx) (k : IK) (src : List E) : Bar → Env → Sto → Res (List D × List D) := fun bar env st => (evEs C bar src env st).bind fun xs st1 => match itemsV st1 k xs with
  | some ds => .ok (xs, ds) st1
  | none => .bad
def PIm (L : Lk) (xr : XR) (W : WX) (X : Cx) (C : Ctx) (k : IK) (src : List E) (tg iter : Expr) : Prop := PI X tg iter fun σ H R => ∃ bar al env st, EnvR L xr al H σ env ∧ StR L xr bar al H st ∧
  Post L xr W bar σ (fun al H J p => Walk L xr al H J p.1 p.2) al H (denI C k src bar env st) R
theorem PI.or {tg e : Expr} {t u : TI} (h : PI X tg e t) (h' : PI X tg e u) : PI X tg e fun σ H R => t σ H R ∨ u σ H R :=
  ⟨fun pins s σ H R I q => q.elim (h.run pins s σ H R I) (h'.run pins s σ H R I)⟩
theorem PI.weak {tg e : Expr} {t u : TI} (h : PI X tg e t) (hw : ∀ σ H R, u σ H R → t σ H R) : PI X tg e u := ⟨fun pins s σ H R I q => h.run pins s σ H R I (hw σ H R q)⟩
theorem keep_list {i : Nat} {p : Addr} {o : HO} {xs : List D} (nd : al.Nodup) (ea : al[i]? = some p) (hm : i ∈ xs.filterMap cellOf) (x : Ext (walkLo bar xs) al H al' H') (h : H p = some o) : H' p = some o := by
  refine x.keep p o h fun j ej => ?_
  have : j = i := (List.getElem?_inj (List.getElem?_eq_some_iff.mp ej).1 nd).mp (ej.trans ea.symm)
  subst this
  simp only [Bar.can, walkLo, Bool.and_eq_false_iff]
  right
  rw [Bool.not_eq_false', List.contains_iff_mem]
  exact List.mem_append_left _ hm
/-- where a list's value stands while it is walked -/
theorem asL_walk (S : StR L xr bar al H st) {v : V} {d : D} {ds : List D} (r : Rp L xr al H v d) (e : asL st d = some ds) {xs : List D} (hx : d ∈ xs) :
    ∃ a vs, v = .ref a ∧ H a = some (.lst vs) ∧ Reps L.K L.w xr al H vs ds ∧ (∀ i, cellOf d = some i → i < al.length) ∧ ∀ (b : Bar) al' H', Ext (walkLo b xs) al H al' H' → H' a = some (.lst vs) := by
  cases d with
  | lst ys =>
    simp only [asL, Option.some.injEq] at e
    subst e
    cases r with
    | lst h n q => exact ⟨_, _, rfl, h, q, nofun, fun b al' H' x => x.keep _ _ h fun i ei => absurd (List.mem_of_getElem? ei) n.1⟩
  | ref i =>
    have e' := e
    simp only [asL] at e
    split at e
    · rename_i ys hs
      cases e
      obtain ⟨a, vs, rfl, ea, h1, h2⟩ := cell_lst S r hs
      refine ⟨a, vs, rfl, h1, h2, fun j hj => by cases hj; exact (List.getElem?_eq_some_iff.mp ea).1, fun b al' H' x => keep_list S.nd ea (List.mem_filterMap.mpr ⟨_, hx, rfl⟩) x h1⟩
    · cases e
  | _ => simp [asL] at e
theorem walk_list (o : On L X) (S : StR L xr bar al H st) {v : V} {d : D} {ds : List D} (r : Rp L xr al H v d) (e : asL st d = some ds) : ∃ a vs, v = .ref a ∧ SqL X.K H a vs ∧ Walk L xr al H (Itl X.K a) [d] ds := by
  obtain ⟨a, vs, rfl, h1, h2, h3, h4⟩ := asL_walk S r e (xs := [d]) (List.mem_singleton.mpr rfl)
  refine ⟨a, vs, rfl, .inl (.inl h1), ⟨fun i hi => ?_, fun b i al' H' x d' hd => ?_, fun b i al' H' x hi => ?_⟩⟩
  · obtain ⟨z, hz, hc⟩ := List.mem_filterMap.mp hi
    cases List.mem_singleton.mp hz
    exact h3 i hc
  · obtain ⟨w, g1, g2⟩ := h2.get hd
    have hs : SqL X.K H' a vs := .inl (.inl (h4 b al' H' x))
    refine ⟨⟨vs, w, hs, g1⟩, fun y H'' hy => ?_⟩
    obtain ⟨rfl, hy⟩ := hy
    have := hy vs hs
    rw [g1] at this; cases this
    exact ⟨.inl rfl, fun _ _ _ hh _ => (hh.rep g2).stay x.stay⟩
  · exact ⟨vs, .inl (.inl (h4 b al' H' x)), by rw [h2.length]; exact Nat.le_of_eq hi⟩
theorem sqT_keep (o : On L X) {p : Addr} {vs : List V} (h : (Rd H p (.tup vs) ∧ Fr xr al p) ∨ KTup L.K p vs) {b : Bar} (x : Ext b al H al' H') : SqT X.K H' p vs :=
  o.sqT (al := al') (h.elim (fun z => .inl (x.stay.rd _ _ z.1 z.2)) .inr)
theorem walk_tup (o : On L X) {v : V} {ds : List D} (r : Rp L xr al H v (.tup ds)) : ∃ a vs, v = .ref a ∧ SqT X.K H a vs ∧ Walk L xr al H (Itt X.K a) [.tup ds] ds := by
  cases r with
  | tup h q =>
    rename_i p vs
    refine ⟨p, vs, rfl, o.sqT h, ⟨fun i hi => by simp [cellOf] at hi, fun b i al' H' x d' hd => ?_, fun b i al' H' x hi => ?_⟩⟩
    · obtain ⟨w, g1, g2⟩ := q.get hd
      have hs : SqT X.K H' p vs := sqT_keep o h x
      refine ⟨⟨vs, w, hs, g1⟩, fun y H'' hy => ?_⟩
      obtain ⟨rfl, hy⟩ := hy
      have := hy vs hs
      rw [g1] at this; cases this
      exact ⟨.inl rfl, fun _ _ _ hh _ => (hh.rep g2).stay x.stay⟩
    · exact ⟨vs, sqT_keep o h x, by rw [q.length]; exact Nat.le_of_eq hi⟩
theorem walk_str {z : Str} : Walk L xr al H (Its z) [.str z] (z.cps.toList.map fun c => .str (chr1 c)) := by
  refine ⟨fun i hi => by simp [cellOf] at hi, fun b i al' H' x d' hd => ?_, fun b i al' H' x hi => ?_⟩
  · rw [List.getElem?_map] at hd
    obtain ⟨c, h1, rfl⟩ := Option.map_eq_some_iff.mp hd
    have hc : z.cps[i]? = some c := by rw [← Array.getElem?_toList]; exact h1
    refine ⟨(Array.getElem?_eq_some_iff.mp hc).1, fun y H'' hy => ?_⟩
    obtain ⟨rfl, c', h2, rfl⟩ := hy
    rw [hc] at h2; cases h2
    exact ⟨.inl rfl, fun _ _ _ _ _ => .str _⟩
  · show z.cps.size ≤ i
    simp at hi; omega
theorem i_val (o : On L X) {tg : Expr} (ha : PM L xr W X C a pa) : PIm L xr W X C .val [a] tg pa := by
  refine PI.weak (PI.or (pi_list ha) (PI.or (pi_tup ha) (pi_str ha))) fun σ H R ⟨bar, al, env, st, E, S, q⟩ => ?_
  have e : denI C .val [a] bar env st = (evE C bar a env st).bind fun d st1 => match itemsV st1 .val [d] with
      | some ds => .ok ([d], ds) st1
      | none => .bad := by
    show ((Res.bind (evE C bar a env st) fun x st1 => Res.ok [x] st1).bind _) = _
    cases evE C bar a env st <;> rfl
  rw [e] at q
  cases h : evE C bar a env st with
  | bad => rw [h] at q; exact False.elim q
  | exn c p st1 =>
    rw [h] at q
    exact .inl ⟨bar, al, env, st, E, S, by
      show Post L xr W bar σ (RV L xr) al H (evE C bar a env st) _
      rw [h]; exact q⟩
  | ok d st1 =>
    rw [h] at q
    have hstep : ∀ {T : V → Hp → Prop}, (∀ v al1 H1, StR L xr bar al1 H1 st1 → Rp L xr al1 H1 v d → Post L xr W bar σ (fun al H J p => Walk L xr al H J p.1 p.2) al1 H1 (match itemsV st1 .val [d] with
      | some ds => .ok ([d], ds) st1
      | none => .bad) R → T v H1) → rE L xr W (fun bar env st => evE C bar a env st) σ H T := by
      intro T hT
      refine ⟨bar, al, env, st, E, S, ?_⟩
      show Post L xr W bar σ (RV L xr) al H (evE C bar a env st) _
      rw [h]
      intro v al1 H1 x1 S1 p1
      exact hT v al1 H1 S1 p1 (Post.later (r := match itemsV st1 .val [d] with
      | some ds => .ok ([d], ds) st1
      | none => .bad) q x1)
    cases d with
    | tup ds =>
      exact .inr (.inl (hstep fun v al1 H1 S1 p1 q1 => by
        obtain ⟨p, vs, rfl, h1, h2⟩ := walk_tup o p1
        exact ⟨p, rfl, ⟨vs, h1⟩, q1 _ al1 H1 .refl S1 h2⟩))
    | str z =>
      exact .inr (.inr (hstep fun v al1 H1 S1 p1 q1 => by
        cases p1
        exact ⟨z, rfl, q1 _ al1 H1 .refl S1 walk_str⟩))
    | lst ds =>
      exact .inl (hstep fun v al1 H1 S1 p1 q1 => by
        obtain ⟨p, vs, rfl, h1, h2⟩ := walk_list o S1 p1 (ds := ds) rfl
        exact ⟨p, rfl, ⟨vs, h1⟩, q1 _ al1 H1 .refl S1 h2⟩)
    | ref i =>
      exact .inl (hstep fun v al1 H1 S1 p1 q1 => by
        cases hl : asL st1 (.ref i) with
        | none =>
          simp only [itemsV, hl] at q1
          exact False.elim q1
        | some ds =>
          simp only [itemsV, hl] at q1
          obtain ⟨p, vs, rfl, h1, h2⟩ := walk_list o S1 p1 hl
          exact ⟨p, rfl, ⟨vs, h1⟩, q1 _ al1 H1 .refl S1 h2⟩)
    | _ => exact False.elim q
theorem i_range1 {tg : Expr} {p : Pos} (hg : Gl X "range") (hm : X.mg "range" = none) (hs : PMs L xr W X C [a] [pa]) (h1 : starEach [pa] X.env = [(false, eval pa X.env)] := by rfl) : PIm L xr W X C .range1 [a] tg (.Call (.Name "range" p) [pa] [] pos) := by
  refine PI.weak (pi_range1 hg hm hs h1) fun σ H R ⟨bar, al, env, st, E, S, q⟩ => ⟨bar, al, env, st, E, S, Post.bind q fun ds st1 vs al1 H1 x1 S1 p1 q1 => ?_⟩
  rcases ds with _ | ⟨d, _ | ⟨_, _⟩⟩
  · exact False.elim q1
  rotate_left
  · exact False.elim (by cases d <;> exact q1)
  cases d <;> first | exact False.elim q1 | skip
  rename_i n
  cases p1 with
  | cons p1 p2 =>
    cases p2; cases p1
    simp only [itemsV] at q1
    split at q1
    · rename_i ds hds
      split at hds
      · rename_i hn
        cases hds
        simp only [Bool.and_eq_true, decide_eq_true_eq] at hn
        refine ⟨n, rfl, by omega, by omega, q1 _ al1 H1 .refl S1 ⟨fun i hi => by simp [cellOf] at hi, fun b i al' H' x d hd => ?_, fun b i al' H' x hi => ?_⟩⟩
        · rw [List.getElem?_map] at hd
          obtain ⟨k, h1, rfl⟩ := Option.map_eq_some_iff.mp hd
          have hk := List.getElem?_eq_some_iff.mp h1
          obtain ⟨hk1, hk2⟩ := hk
          rw [List.getElem_range] at hk2
          subst hk2
          refine ⟨by show i < _; simpa using hk1, fun y H'' hy => ?_⟩
          obtain ⟨rfl, rfl⟩ := hy
          exact ⟨.inl rfl, fun _ _ _ _ _ => by rw [Int.zero_add]; exact .int _⟩
        · show _ ≤ i
          simp at hi; omega
      · cases hds
    · exact False.elim q1
theorem i_range2 {tg : Expr} {p : Pos} (hg : Gl X "range") (hm : X.mg "range" = none) (hs : PMs L xr W X C [a, b] [pa, pb]) (h1 : starEach [pa, pb] X.env = [(false, eval pa X.env), (false, eval pb X.env)] := by rfl) (h2 : starEach [pb] X.env = [(false, eval pb X.env)] := by rfl) : PIm L xr W X C .range2 [a, b] tg (.Call (.Name "range" p) [pa, pb] [] pos) := by
  refine PI.weak (pi_range2 hg hm hs h1 h2) fun σ H R ⟨bar, al, env, st, E, S, q⟩ => ⟨bar, al, env, st, E, S, Post.bind q fun ds st1 vs al1 H1 x1 S1 p1 q1 => ?_⟩
  rcases ds with _ | ⟨d, _ | ⟨e, _ | ⟨_, _⟩⟩⟩
  · exact False.elim q1
  · exact False.elim (by cases d <;> exact q1)
  rotate_left
  · exact False.elim (by cases d <;> first | exact q1 | (cases e <;> exact q1))
  cases d <;> first | exact False.elim q1 | skip
  cases e <;> first | exact False.elim q1 | skip
  rename_i lo hi
  cases p1 with
  | cons p1 p2 =>
    cases p2 with
    | cons p2 p3 =>
    cases p3; cases p2; cases p1
    simp only [itemsV] at q1
    split at q1
    · rename_i ds hds
      split at hds
      · rename_i hn
        cases hds
        simp only [Bool.and_eq_true, decide_eq_true_eq] at hn
        refine ⟨lo, hi, rfl, ⟨by omega, by omega, by omega, by omega⟩, q1 _ al1 H1 .refl S1 ⟨fun i hi => by simp [cellOf] at hi, fun b i al' H' x d hd => ?_, fun b i al' H' x hi => ?_⟩⟩
        · rw [List.getElem?_map] at hd
          obtain ⟨k, h1, rfl⟩ := Option.map_eq_some_iff.mp hd
          have hk := List.getElem?_eq_some_iff.mp h1
          obtain ⟨hk1, hk2⟩ := hk
          rw [List.getElem_range] at hk2
          subst hk2
          refine ⟨by show i < _; simpa using hk1, fun y H'' hy => ?_⟩
          obtain ⟨rfl, rfl⟩ := hy
          exact ⟨.inl rfl, fun _ _ _ _ _ => .int _⟩
        · show _ ≤ i
          simp at hi; omega
      · cases hds
    · exact False.elim q1
theorem i_enum (o : On L X) {elts : List Expr} {kk : Nat} {tpos p : Pos} (hg : Gl X "enumerate") (hm : X.mg "enumerate" = none) (hs : PMs L xr W X C [a] [pa]) (h1 : starEach [pa] X.env = [(false, eval pa X.env)] := by rfl) :
    PIm L xr W X C .enum [a] (.Tuple elts kk tpos) (.Call (.Name "enumerate" p) [pa] [] pos) := by
  refine PI.weak (pi_enum hg hm hs h1) fun σ H R ⟨bar, al, env, st, E, S, q⟩ => ⟨bar, al, env, st, E, S, Post.bind q fun ds st1 vs al1 H1 x1 S1 p1 q1 => ?_⟩
  rcases ds with _ | ⟨d, _ | ⟨_, _⟩⟩
  · exact False.elim q1
  rotate_left
  · exact False.elim q1
  cases p1 with
  | cons p1 p2 =>
    cases p2
    cases hl : asL st1 d with
    | none => simp only [itemsV, hl] at q1; exact False.elim q1
    | some ds =>
      simp only [itemsV, hl, Option.map_some] at q1
      obtain ⟨a, vs, rfl, h1, h2, h3, h4⟩ := asL_walk S1 p1 hl (xs := [d]) (List.mem_singleton.mpr rfl)
      refine ⟨a, vs, rfl, .inl (.inl h1), q1 _ al1 H1 .refl S1 ⟨fun i hi => ?_, fun b i al' H' x d' hd => ?_, fun b i al' H' x hi => ?_⟩⟩
      · obtain ⟨z, hz, hc⟩ := List.mem_filterMap.mp hi
        cases List.mem_singleton.mp hz
        exact h3 i hc
      · rw [List.getElem?_mapIdx] at hd
        obtain ⟨y, hy, rfl⟩ := Option.map_eq_some_iff.mp hd
        obtain ⟨w, g1, g2⟩ := h2.get hy
        have hs : SqL X.K H' a vs := .inl (.inl (h4 b al' H' x))
        refine ⟨⟨vs, w, hs, g1⟩, fun v H'' hv => ?_⟩
        obtain ⟨T, u, rfl, hT, rfl, hu⟩ := hv
        have := hu vs hs
        rw [g1] at this; cases this
        refine ⟨.inr ⟨T, _, hT, rfl⟩, fun xr2 bar' st' hh S' => ?_⟩
        have xn : Ext bar' al' H' al' (upd H' T (.tup [.int (i : Int), w])) := .new hT
        exact .tup (.inl ⟨.inl upd_same, S'.fr hT⟩) (.cons (.int _) (.cons (((hh.rep g2).stay x.stay).stay xn.stay) .nil))
      · exact ⟨vs, .inl (.inl (h4 b al' H' x)), by rw [h2.length]; simp at hi; omega⟩
/-! targets -/
theorem wipe_get : ∀ (vs : List Nat) (σ : L2.St) (j : Nat), (L2.wipe σ vs)[j]? = if j ∈ vs then (σ[j]?).map fun _ => none else σ[j]?
  | [], σ, j => by rw [L2.wipe.eq_1]; simp
  | v :: vs, σ, j => by
    rw [L2.wipe.eq_2, List.getElem?_set, wipe_get vs σ j]
    by_cases h : v = j
    · subst h
      simp only [List.mem_cons, true_or, if_true]
      by_cases hl : v < (L2.wipe σ vs).length
      · rw [if_pos hl]
        have := List.getElem?_eq_getElem hl
        rw [wipe_get vs σ v] at this
        split at this
        · cases hs : σ[v]? with
          | none => rw [hs] at this; cases this
          | some o => rfl
        · rw [this]; rfl
      · rw [if_neg hl]
        have := List.getElem?_eq_none (by omega : (L2.wipe σ vs).length ≤ v)
        rw [wipe_get vs σ v] at this
        split at this
        · rw [this]
        · rw [this]; rfl
    · rw [if_neg h]
      have : (j ∈ v :: vs) ↔ j ∈ vs := by simp [Ne.symm h]
      simp only [this]
theorem wipe_set (vs : List Nat) (σ : L2.St) (i : Nat) (o : Option V) (h : i ∈ vs) : L2.wipe (σ.set i o) vs = L2.wipe σ vs := by
  apply List.ext_getElem?
  intro j
  rw [wipe_get, wipe_get]
  by_cases hj : j ∈ vs
  · rw [if_pos hj, if_pos hj, List.getElem?_set]
    by_cases hij : i = j
    · subst hij
      rw [if_pos rfl]
      by_cases hl : i < σ.length
      · rw [if_pos hl, List.getElem?_eq_getElem hl]; rfl
      · rw [if_neg hl, List.getElem?_eq_none (by omega)]
    · rw [if_neg hij]
  · rw [if_neg hj, if_neg hj, List.getElem?_set_ne (fun e : i = j => hj (e ▸ h))]
theorem wipe_wipe (vs : List Nat) (σ : L2.St) : L2.wipe (L2.wipe σ vs) vs = L2.wipe σ vs := by
  apply List.ext_getElem?
  intro j
  rw [wipe_get]
  by_cases hj : j ∈ vs
  · rw [if_pos hj, wipe_get, if_pos hj]
    cases σ[j]? <;> rfl
  · rw [if_neg hj]
/-- a loop's names -/
def PGm (L : Lk) (XX : Cx → Prop) (tg : List Nat) (one : Bool) (ptg : Expr) : Prop := ∃ g : TG, (∀ X, XX X → PG X ptg g) ∧ ∀ (xr : XR) (K : PySem.W.Frag), K = L.K → ∀ (v : V) (d : D) (σ : L2.St) (H : Hp) (env env' : Env) (al : List Addr) (Q : L2.St → Hp → Prop), Rp L xr al H v d → EnvR L xr al H σ env →
  bindT one tg env d = some env' → (∀ σ', EnvR L xr al H σ' env' → (∀ vs, (∀ i ∈ tg, i ∈ vs) → L2.wipe σ' vs = L2.wipe σ vs) → Q σ' H) → g v σ H Q
def PGsm (L : Lk) (XX : Cx → Prop) (tg : List Nat) (ptg : List Expr) : Prop := ∃ g : TGs, (∀ X, XX X → PGs X ptg g) ∧ ∀ (xr : XR) (vs : List V) (ds : List D) (σ : L2.St) (H : Hp) (env : Env) (al : List Addr) (Q : L2.St → Hp → Prop), Reps L.K L.w xr al H vs ds → EnvR L xr al H σ env →
  ds.length = tg.length → (∀ σ', EnvR L xr al H σ' ((tg.zip ds).foldl (fun e p => e.set p.1 (some p.2)) env) → (∀ vs, (∀ i ∈ tg, i ∈ vs) → L2.wipe σ' vs = L2.wipe σ vs) → Q σ' H) → g vs σ H Q
theorem g_one {XX : Cx → Prop} {i : Nat} {x : Str} (h : ∀ X, XX X → X.N.Nodup ∧ X.N[i]? = some x ∧ L2.Loc X.env.scope x ∧ (X.fn x = true ∨ X.env.scope.names.lookup x = some .local)) : PGm L XX [i] true (.Name x pos) := by
  refine ⟨gName i, fun X hX => pg_name (h X hX).1 (h X hX).2.1 (h X hX).2.2.1 (h X hX).2.2.2, fun xr K hK v d σ H env env' al Q r E e k => ?_⟩
  cases e
  exact k _ (E.set i r) fun vs hv => wipe_set vs σ i _ (hv i (List.mem_singleton.mpr rfl))
theorem gs_nil {XX : Cx → Prop} : PGsm L XX [] [] := ⟨gNil, fun X _ => pgs_nil, fun xr vs ds σ H env al Q r E e k => by
  cases ds with
  | nil => cases r; exact ⟨rfl, k σ E fun vs _ => rfl⟩
  | cons d ds => simp at e⟩
theorem gs_cons {XX : Cx → Prop} {i : Nat} {is : List Nat} {x : Str} {ps : List Expr} (h : ∀ X, XX X → X.N.Nodup ∧ X.N[i]? = some x ∧ L2.Loc X.env.scope x ∧ (X.fn x = true ∨ X.env.scope.names.lookup x = some .local))
    (h2 : ∀ X, XX X → (assignEach (.Name x pos :: ps) X.env).map (fun y => y.2) = assign (.Name x pos) X.env :: (assignEach ps X.env).map fun y => y.2) (hs : PGsm L XX is ps) : PGsm L XX (i :: is) (.Name x pos :: ps) := by
  obtain ⟨g, g1, g2⟩ := hs
  refine ⟨L2.gCons (gName i) g, fun X hX => pgs_cons (pg_name (h X hX).1 (h X hX).2.1 (h X hX).2.2.1 (h X hX).2.2.2) (g1 X hX) (h2 X hX), fun xr vs ds σ H env al Q r E e k => ?_⟩
  cases r with
  | nil => simp at e
  | cons r1 r2 =>
    refine ⟨_, _, rfl, ?_⟩
    refine g2 xr _ _ _ H (env.set i (some _)) al Q r2 (E.set i r1) (by simpa using e) fun σ' E' hw => ?_
    exact k σ' E' fun vs hv => (hw vs fun j hj => hv j (List.mem_cons_of_mem _ hj)).trans (wipe_set vs σ i _ (hv i (List.mem_cons_self ..)))
theorem g_tup {XX : Cx → Prop} {tg : List Nat} {ps : List Expr} {kk : Nat} (hK : ∀ X, XX X → X.calm = true ∧ X.K = L.K) (h1 : ∀ X, XX X → (assignEach ps X.env).length = tg.length) (h2 : ∀ X, XX X → List.findIdx? (fun x => x.1) (assignEach ps X.env) = none)
    (hs : PGsm L XX tg ps) : PGm L XX tg false (.Tuple ps kk pos) := by
  obtain ⟨g, g1, g2⟩ := hs
  refine ⟨gTup L.K tg.length g, fun X hX => ?_, fun xr K hK' v d σ H env env' al Q r E e k => ?_⟩
  · have := pg_tup (pos := pos) (k := kk) (hK X hX).1 (g1 X hX) (h1 X hX) (h2 X hX)
    rw [(hK X hX).2] at this
    exact this
  · cases d <;> first | (simp [bindT] at e; done) | skip
    rename_i ds
    have e' : (if ds.length = tg.length then some ((tg.zip ds).foldl (fun e p => e.set p.1 (some p.2)) env) else none) = some env' := by
      simpa [bindT] using e
    split at e'
    · rename_i hl
      cases e'
      cases r with
      | tup h q =>
        have hsq : SqT L.K H _ _ := h.elim (fun z => Or.inl z.1) Or.inr
        exact ⟨_, _, rfl, hsq, by rw [q.length]; exact hl, g2 xr _ _ σ H env al Q q E hl k⟩
    · cases e'
end
end MP

/-! MpP: statements. -/
namespace MP
open PySem PySem.Spec PyProof.Rows L2
/-- what is wanted behind a statement -/
def PostS (L : Lk) (xr : XR) (W : WX) (bar : Bar) (al : List Addr) (H : Hp) (r : SR) (D : Ends) : Prop := match r with
  | .ok (.nx env) st => ∀ σ' al' H', Ext bar al H al' H' → StR L xr bar al' H' st → EnvR L xr al' H' σ' env → D.nx σ' H'
  | .ok (.rt d) st => ∀ v al' H', Ext bar al H al' H' → StR L xr bar al' H' st → Rp L xr al' H' v d → D.rt v H'
  | .exn c p env st => ∀ cls dd σ' al' H', Ext bar al H al' H' → StR L xr bar al' H' st → EnvR L xr al' H' σ' env → ExR L al' H' c p cls dd → W cls dd σ' H'
  | .bad => False
def PMS (L : Lk) (xr : XR) (W : WX) (X : Cx) (C : Ctx) (s : S) (ps : Stmt) : Prop := PS X ps fun D σ H => ∃ bar al env st, EnvR L xr al H σ env ∧ StR L xr bar al H st ∧ PostS L xr W bar al H (exS C bar s env st) D
def PMSs (L : Lk) (xr : XR) (W : WX) (X : Cx) (C : Ctx) (s : List S) (ps : List Stmt) : Prop := PSs X ps fun D σ H => ∃ bar al env st, EnvR L xr al H σ env ∧ StR L xr bar al H st ∧ PostS L xr W bar al H (exSs C bar s env st) D
section
variable {L : Lk} {X : Cx} {xr : XR} {W : WX} {C : Ctx} {σ : L2.St} {H : Hp} {Q : VK} {pos : Pos} {a b c : E} {pa pb pc : Expr} {es : List E} {pes : List Expr} {bar : Bar} {al al' al1 : List Addr} {H' H1 : Hp} {st st' : Sto} {env : Env} {D : Ends}
  {s1 : S} {ss ts : List S} {p1 : Stmt} {pss pts : List Stmt}
theorem PostS.later {r : SR} (h : PostS L xr W bar al H r D) (x : Ext bar al H al1 H1) : PostS L xr W bar al1 H1 r D := by
  rcases r with ⟨env | d, st⟩ | ⟨c, p, env, st⟩ | _
  · exact fun σ' al' H' y s e => h σ' al' H' (x.trans s.nd y) s e
  · exact fun v al' H' y s e => h v al' H' (x.trans s.nd y) s e
  · exact fun cls dd σ' al' H' y s e e2 => h cls dd σ' al' H' (x.trans s.nd y) s e e2
  · exact h
/-- an expression, then what is done with its value -/
theorem PostS.of {α β : Type} {R : List Addr → Hp → β → α → Prop} {r : Res α} {k : α → Sto → SR} {Q : β → Hp → Prop} (E : EnvR L xr al H σ env) (h : PostS L xr W bar al H (SR.of env r k) D)
    (hk : ∀ d st1 v al1 H1, Ext bar al H al1 H1 → StR L xr bar al1 H1 st1 → R al1 H1 v d → PostS L xr W bar al1 H1 (k d st1) D → Q v H1) : Post L xr W bar σ R al H r Q := by
  cases r with
  | bad => exact h
  | exn c p st1 => exact fun cls dd al' H' x s e => h cls dd σ al' H' x s (E.stay x.stay) e
  | ok d st1 => exact fun v al' H' x s r => hk d st1 v al' H' x s r (PostS.later (r := k d st1) h x)
theorem PostS.seq {r : SR} {k : Env → Sto → SR} {D1 : Ends} (h : PostS L xr W bar al H (r.seq k) D) (hr : D1.rt = D.rt)
    (hk : ∀ env1 st1 σ' al1 H1, Ext bar al H al1 H1 → StR L xr bar al1 H1 st1 → EnvR L xr al1 H1 σ' env1 → PostS L xr W bar al1 H1 (k env1 st1) D → D1.nx σ' H1) : PostS L xr W bar al H r D1 := by
  rcases r with ⟨env | d, st⟩ | ⟨c, p, env, st⟩ | _
  · exact fun σ' al' H' x s e => hk env st σ' al' H' x s e (PostS.later (r := k env st) h x)
  · intro v al' H' x s e
    rw [hr]; exact h v al' H' x s e
  · exact h
  · exact h
theorem s_bad : PMS L xr W X C .bad p1 := ⟨fun _ _ _ _ _ _ ⟨_, _, _, _, _, _, q⟩ => False.elim q⟩
theorem s_pass : PMS L xr W X C .pass (.Pass pos) := PS.weak ps_pass fun D σ H ⟨bar, al, env, st, E, S, q⟩ => q σ al H .refl S E
theorem s_retN : PMS L xr W X C .retN (.Return none pos) := PS.weak ps_retN fun D σ H ⟨bar, al, env, st, E, S, q⟩ => q _ al H .refl S .non
theorem s_ret (ha : PM L xr W X C a pa) : PMS L xr W X C (.ret a) (.Return (some pa) pos) :=
  PS.weak (ps_ret ha) fun D σ H ⟨bar, al, env, st, E, S, q⟩ => ⟨bar, al, env, st, E, S, PostS.of E q fun d st1 v al1 H1 x1 S1 p1 q1 => q1 v al1 H1 .refl S1 p1⟩
theorem s_expr (ha : PM L xr W X C a pa) (hs : swapsWith pa none pos.line X.env = pure false := by rfl) : PMS L xr W X C (.expr a) (.Expr pa pos) :=
  PS.weak (ps_expr ha hs) fun D σ H ⟨bar, al, env, st, E, S, q⟩ => ⟨bar, al, env, st, E, S, PostS.of E q fun d st1 v al1 H1 x1 S1 p1 q1 => q1 σ al1 H1 .refl S1 (E.stay x1.stay)⟩
theorem s_doc {x : Str} {j : Nat} {p2 : Pos} : PMS L xr W X C .pass (.Expr (.Constant (.str x) j pos) p2) := PS.weak ps_doc fun D σ H ⟨bar, al, env, st, E, S, q⟩ => q σ al H .refl S E
theorem asg_set {i : Nat} {te : TE} (h : te = rE L xr W fun bar env st => evE C bar a env st) (q : ∃ bar al env st, EnvR L xr al H σ env ∧ StR L xr bar al H st ∧ PostS L xr W bar al H (exS C bar (.asg i a) env st) D) : tAsg te (gName i) D σ H := by
  subst h
  obtain ⟨bar, al, env, st, E, S, q⟩ := q
  exact ⟨bar, al, env, st, E, S, PostS.of E q fun d st1 v al1 H1 x1 S1 p1 q1 => q1 _ al1 H1 .refl S1 ((E.stay x1.stay).set i p1)⟩
theorem s_asg {i : Nat} {x : Str} {p2 : Pos} (ha : PM L xr W X C a pa) (hN : X.N.Nodup) (hi : X.N[i]? = some x) (hx : L2.Loc X.env.scope x) (hs : swapsWith pa (some (.Name x p2)) pos.line X.env = pure false := by rfl)
    (hf : X.fn x = true ∨ X.env.scope.names.lookup x = some .local := by exact Or.inl rfl) : PMS L xr W X C (.asg i a) (.Assign [.Name x p2] pa pos) :=
  PS.weak (ps_set hN hi hx ha hs hf) fun D σ H q => asg_set rfl q
theorem s_asgT {tg : List Nat} {ptg : Expr} (hg : PGm L (· = X) tg false ptg) (hK : X.K = L.K) (ha : PM L xr W X C a pa) (h1 : swapsWithSole [ptg] pa pos.line X.env = pure false := by rfl) (h2 : swappedStores [ptg] pa X.env = pure none := by rfl)
    (h3 : (assignEach [ptg] X.env).map (fun x => x.2) = [assign ptg X.env] := by rfl) : PMS L xr W X C (.asgT tg a) (.Assign [ptg] pa pos) := by
  obtain ⟨g, g1, g2⟩ := hg
  refine PS.weak (ps_asg ha (g1 X rfl) h1 h2 h3) fun D σ H ⟨bar, al, env, st, E, S, q⟩ => ⟨bar, al, env, st, E, S, PostS.of E q fun d st1 v al1 H1 x1 S1 p1 q1 => ?_⟩
  cases h : bindT false tg env d with
  | none => rw [h] at q1; exact False.elim q1
  | some env1 =>
    rw [h] at q1
    exact g2 xr X.K hK v d σ H1 env env1 al1 _ p1 (E.stay x1.stay) h fun σ' E' _ => q1 σ' al1 H1 .refl S1 E'
theorem s_asgP2 {i j : Nat} {x y : Str} {px py pt : Pos} {kt k2 : Nat} {pt2 : Pos} (hc : X.calm = true) (hN : X.N.Nodup) (hi : X.N[i]? = some x) (hj : X.N[j]? = some y) (hij : i ≠ j) (hx : X.env.scope.names.lookup x = some .local)
    (hy : X.env.scope.names.lookup y = some .local) (hs : PMs L xr W X C [a, b] [pa, pb]) (hw : swappedStores [.Tuple [.Name x px, .Name y py] kt pt] (.Tuple [pa, pb] k2 pt2) X.env = pure (some [x, y]))
    (h1 : swapsWithSole [.Tuple [.Name x px, .Name y py] kt pt] (.Tuple [pa, pb] k2 pt2) pos.line X.env = pure false := by rfl) : PMS L xr W X C (.asgP [i, j] [a, b]) (.Assign [.Tuple [.Name x px, .Name y py] kt pt] (.Tuple [pa, pb] k2 pt2) pos) := by
  refine PS.weak (ps_par hc hN hi hj hij hx hy hs hw h1) fun D σ H ⟨bar, al, env, st, E, S, q⟩ => ⟨bar, al, env, st, E, S, PostS.of E q fun ds st1 vs al1 H1 x1 S1 p1 q1 => ?_⟩
  rcases ds with _ | ⟨d, _ | ⟨e, _ | ⟨_, _⟩⟩⟩ <;> first | exact False.elim q1 | skip
  cases p1 with
  | cons p1 p2 =>
    cases p2 with
    | cons p2 p3 =>
      cases p3
      exact ⟨_, _, rfl, q1 _ al1 H1 .refl S1 (((E.stay x1.stay).set i p1).set j p2)⟩
theorem put_fld {f : Nat} {v : V} {d : MP.D} (inj : ∀ f g, L.okF f = true → L.okF g = true → L.fl f = L.fl g → f = g) (hf : L.okF f = true) (rv : Rp L xr al H v d) : ∀ {fs : List (Str × V)} {gs : List (Nat × MP.D)}, RepF L xr al H fs gs →
    RepF L xr al H (putF (L.fl f) v fs) (putFd gs f d)
  | _, _, .nil => by rw [putF.eq_1]; exact .cons hf rv .nil
  | (_, w) :: fs, (g, e) :: gs, .cons k p r => by
    rw [putF.eq_2]
    unfold putFd
    by_cases h : g = f
    · subst h
      rw [if_pos rfl, if_pos rfl]
      exact .cons k rv r
    · rw [if_neg h, if_neg (fun z => h (inj g f k hf z))]
      exact .cons k p (put_fld inj hf rv r)
theorem putFd_len {f : Nat} {d : MP.D} : ∀ {gs : List (Nat × MP.D)}, (putFd gs f d).length ≤ gs.length + 1
  | [] => Nat.le_refl _
  | (g, e) :: gs => by
    unfold putFd
    split
    · simp
    · have := putFd_len (f := f) (d := d) (gs := gs)
      simp only [List.length_cons]; omega
theorem s_asgA (o : On L X) (cf : ClsF L) {f : Nat} {pf : Str} {p2 : Pos} (ha : PM L xr W X C a pa) (hb : PM L xr W X C b pb) (hf : L.okF f = true) (he : pf = L.fl f) (hs : swapsWith pb (some (.Attribute pa pf p2)) pos.line X.env = pure false := by rfl) :
    PMS L xr W X C (.asgA a f b) (.Assign [.Attribute pa pf p2] pb pos) := by
  subst he
  refine PS.weak (ps_fld ha hb hs) fun D σ H ⟨bar, al, env, st, E, S, q⟩ => ⟨bar, al, env, st, E, S, PostS.of E q fun dv st1 v al1 H1 x1 S1 p1 q1 => ?_⟩
  refine ⟨bar, al1, env, st1, E.stay x1.stay, S1, PostS.of (E.stay x1.stay) q1 fun d st2 u al2 H2 x2 S2 p2 q2 => ?_⟩
  cases h : setFld bar st2 d f dv with
  | none => rw [h] at q2; exact False.elim q2
  | some st3 =>
    rw [h] at q2
    cases d <;> simp only [setFld] at h <;> first | (cases h; done) | skip
    rename_i i
    split at h
    · rename_i c gs hst
      split at h
      · rename_i hc
        cases h
        rw [Bool.and_eq_true, decide_eq_true_eq] at hc
        cases p2 with
        | ref ea =>
          obtain ⟨dx, fs, h1, h2, h3, h4⟩ := S2.cell i _ _ hst ea
          refine ⟨_, _, dx, fs, rfl, h1, by rw [o.K]; exact cf.cls c h3, by rw [o.K]; exact cf.fld c f h3 hf, by rw [h2.length]; omega, ?_⟩
          have Sy : Stay xr al2 al2 H2 (upd H2 _ (.ins (L.ca c) dx (putF (L.fl f) v fs))) := Stay.write ea
          exact q2 σ al2 _ (Ext.write ea hc.1) (S2.write ea ⟨dx, _, upd_same, (put_fld cf.inj hf (p1.stay x2.stay) h2).stay Sy, h3, Nat.le_trans putFd_len (by omega)⟩) (((E.stay x1.stay).stay x2.stay).stay Sy)
      · cases h
    · cases h
theorem set_both (hu : X.A.units + 1 < cLine) : PSet X fun o i v H Q => rSetL o i v H Q ∨ ∃ a H4, o = V.ref a ∧ DPut H a i v H4 ∧ Q H4 := by
  intro pins s σ H o i v ov iv u Q I ro ri rv h
  rcases h with h | ⟨a, H4, rfl, h, q⟩
  · exact set_list pins s σ H o i v ov iv u Q I ro ri rv h
  · cases (show ov = Value.ref a from ro)
    exact d_setItem hu I h ri rv fun s' I' => ⟨H4, I', q⟩
theorem s_asgI (hu : X.A.units + 1 < cLine) {p2 : Pos} (ha : PM L xr W X C a pa) (hb : PM L xr W X C b pb) (hc : PM L xr W X C c pc)
    (h0 : ∀ (v : Value), assign (.Subscript pa pb p2) X.env v = (do
      let ov ← holding [v] (eval pa X.env)
      let iv ← holding [v, ov] (eval pb X.env)
      standAt p2
      holding [v, ov, iv] (setItem ov iv v)
      release [v, ov, iv] []) := by intro v; rfl)
    (h1 : swapsWithSole [.Subscript pa pb p2] pc pos.line X.env = pure false := by rfl) (h2 : swappedStores [.Subscript pa pb p2] pc X.env = pure none := by rfl)
    (h3 : (assignEach [.Subscript pa pb p2] X.env).map (fun x => x.2) = [assign (.Subscript pa pb p2) X.env] := by rfl) :
    PMS L xr W X C (.asgI a b c) (.Assign [.Subscript pa pb p2] pc pos) := by
  refine PS.weak (ps_asg hc (pg_sub ha hb (set_both hu) h0) h1 h2 h3) fun D σ H ⟨bar, al, env, st, E, S, q⟩ => ⟨bar, al, env, st, E, S, PostS.of E q fun dv st1 v al1 H1 x1 S1 p1 q1 => ?_⟩
  have E1 := E.stay x1.stay
  refine ⟨bar, al1, env, st1, E1, S1, PostS.of E1 q1 fun d st2 u al2 H2 x2 S2 p2 q2 => ?_⟩
  have E2 := E1.stay x2.stay
  refine ⟨bar, al2, env, st2, E2, S2, PostS.of E2 q2 fun e st3 w al3 H3 x3 S3 p3 q3 => ?_⟩
  have E3 := E2.stay x3.stay
  have pv := (p1.stay x2.stay).stay x3.stay
  have pd := p2.stay x3.stay
  cases h : setIx bar st3 d e dv with
  | none => rw [h] at q3; exact False.elim q3
  | some st4 =>
    rw [h] at q3
    cases d <;> simp only [setIx] at h <;> first | (cases h; done) | skip
    rename_i i
    split at h
    · rename_i hc
      cases pd with
      | ref ea =>
        split at h
        · rename_i kvs hst
          obtain ⟨vs, g1, g2, g3⟩ := S3.cell i _ _ hst ea
          split at h
          · rename_i k hk
            split at h
            · rename_i hl
              cases h
              have := key_rep p3 hk
              subst this
              have Sy : Stay xr al3 al3 H3 (upd H3 _ (.dK (L2.putK vs k v))) := Stay.write ea
              refine .inr ⟨_, _, rfl, .inl ⟨vs, k, g2 hc, rfl, by rw [g3.length, sizeLine_eq]; exact of_decide_eq_true hl, rfl⟩, ?_⟩
              exact q3 σ al3 _ (Ext.write ea hc) (S3.write ea ⟨_, .inl upd_same, fun _ => upd_same, (g3.put k pv).stay Sy⟩) (E3.stay Sy)
            · cases h
          · cases h
        · rename_i xs hst
          obtain ⟨vs, g1, g3⟩ := S3.cell i _ _ hst ea
          split at h
          · rename_i k
            split at h
            · rename_i j hj
              cases h
              cases p3
              have Sy : Stay xr al3 al3 H3 (upd H3 _ (.lst (vs.set j v))) := Stay.write ea
              refine .inl ⟨_, vs, k, j, rfl, rfl, g1, by rw [g3.length]; exact hj, ?_⟩
              exact q3 σ al3 _ (Ext.write ea hc) (S3.write ea ⟨_, upd_same, (g3.set pv j).stay Sy⟩) (E3.stay Sy)
            · cases h
          · cases h
        · cases h
    · cases h
/-! suites of statements -/
theorem ss_nil : PMSs L xr W X C [] [] := PSs.weak pss_nil fun D σ H ⟨bar, al, env, st, E, S, q⟩ => q σ al H .refl S E
theorem ss_cons (h : PMS L xr W X C s1 p1) (hs : PMSs L xr W X C ss pss) : PMSs L xr W X C (s1 :: ss) (p1 :: pss) := by
  refine PSs.weak (pss_cons h hs) fun D σ H ⟨bar, al, env, st, E, S, q⟩ => ⟨bar, al, env, st, E, S, ?_⟩
  exact PostS.seq (r := exS C bar s1 env st) q rfl fun env1 st1 σ' al1 H1 x1 S1 E1 q1 => ⟨bar, al1, env1, st1, E1, S1, q1⟩
theorem s_ite (ht : PMt L xr W X C a pa) (h1 : PMSs L xr W X C ss pss) (h2 : PMSs L xr W X C ts pts) : PMS L xr W X C (.ite a ss ts) (.If pa pss pts pos) := by
  refine PS.weak (ps_if ht h1 h2) fun D σ H ⟨bar, al, env, st, E, S, q⟩ => ⟨bar, al, env, st, E, S, PostS.of E q fun k st1 v al1 H1 x1 S1 p1 q1 => ?_⟩
  cases p1
  cases k
  · exact ⟨bar, al1, env, st1, E.stay x1.stay, S1, q1⟩
  · exact ⟨bar, al1, env, st1, E.stay x1.stay, S1, q1⟩
/-! loops -/
theorem walk_le {xs : List MP.D} {i : Nat} (h : (walkLo bar xs).can i = true) : bar.can i = true := by
  simp only [walkLo, Bar.can, Bool.and_eq_true, Bool.not_eq_true'] at h ⊢
  refine ⟨h.1, ?_⟩
  have := h.2
  cases hc : bar.lk.contains i
  · rfl
  · rw [List.contains_iff_mem] at hc
    rw [← Bool.not_eq_true, List.contains_iff_mem] at this
    exact absurd (List.mem_append_right _ hc) this
theorem Ext.unlock {xs : List MP.D} (x : Ext (walkLo bar xs) al H al' H') : Ext bar al H al' H' :=
  ⟨x.pre, fun a o e h => x.keep a o e fun i ei => by
    cases hc : (walkLo bar xs).can i
    · rfl
    · have := walk_le hc
      rw [h i ei] at this; cases this⟩
theorem StR.lock {xs : List MP.D} (S : StR L xr bar al H st) : StR L xr (walkLo bar xs) al H st :=
  ⟨S.len, S.nd, fun i c a e1 e2 => by
    have q := S.cell i c a e1 e2
    cases c with
    | lst ds => exact q
    | ins c fs => exact q
    | dct ds =>
      obtain ⟨vs, h1, h2, h3⟩ := q
      exact ⟨vs, h1, (fun z => h2 (walk_le z)), h3⟩, S.hid⟩
theorem unlockG {b' : Bar} (S : StR L xr bar al H st) (x : Ext b' al H al' H') (S' : StR L xr b' al' H' st') (hb' : ∀ i, bar.can i = true → b'.can i = true ∨ i < al.length) : StR L xr bar al' H' st' :=
  by
  refine ⟨S'.len, S'.nd, fun i c a e1 e2 => ?_, S'.hid⟩
  have q := S'.cell i c a e1 e2
  cases c with
  | lst ds => exact q
  | ins c fs => exact q
  | dct ds =>
    obtain ⟨vs, h1, h2, h3⟩ := q
    refine ⟨vs, h1, fun hb => ?_, h3⟩
    cases hw : b'.can i with
    | true => exact h2 hw
    | false =>
      have hi : i < al.length := (hb' i hb).elim (fun z => by rw [hw] at z; cases z) id
      have e3 : al[i]? = some a := by
        have h4 := x.refs i al[i] (List.getElem?_eq_getElem hi)
        rw [List.getElem?_eq_getElem hi]
        rw [e2] at h4; exact h4.symm ▸ rfl
      obtain ⟨o, ho⟩ := S.some e3
      have ho' : H' a = some o := x.keep a o ho fun j ej => by
        have : j = i := (List.getElem?_inj (List.getElem?_eq_some_iff.mp ej).1 S.nd).mp (ej.trans e3.symm)
        subst this; exact hw
      have hs : i < st.length := by rw [← S.len]; exact hi
      have q0 := S.cell i st[i] a (List.getElem?_eq_getElem hs) e3
      generalize st[i] = c0 at q0
      cases c0 with
      | lst ds =>
        obtain ⟨vs0, g1, _⟩ := q0
        rw [g1] at ho; cases ho
        rcases h1 with h1 | ⟨_, h1⟩ <;> (rw [ho'] at h1; cases h1)
      | ins c fs =>
        obtain ⟨dx, fs', g1, _⟩ := q0
        rw [g1] at ho; cases ho
        rcases h1 with h1 | ⟨_, h1⟩ <;> (rw [ho'] at h1; cases h1)
      | dct ds =>
        obtain ⟨vs0, _, g2, _⟩ := q0
        rw [g2 hb] at ho; cases ho
        rcases h1 with h1 | ⟨_, h1⟩
        · exact h1
        · rw [ho'] at h1; cases h1
theorem unlockS {xs : List MP.D} (S : StR L xr bar al H st) (x : Ext (walkLo bar xs) al H al' H') (S' : StR L xr (walkLo bar xs) al' H' st') (hr : ∀ i ∈ xs.filterMap cellOf, i < al.length) : StR L xr bar al' H' st' :=
  unlockG S x S' fun i hb => by
    cases hw : (walkLo bar xs).can i with
    | true => exact .inl rfl
    | false =>
      refine .inr (hr i ?_)
      simp only [Bar.can, Bool.and_eq_true, decide_eq_true_eq, Bool.not_eq_true'] at hb
      simp only [walkLo, Bar.can, Bool.and_eq_false_iff, Bool.not_eq_false'] at hw
      rcases hw with hw | hw
      · exact absurd hb.1 (of_decide_eq_false hw)
      · rw [List.contains_iff_mem] at hw
        rcases List.mem_append.mp hw with hw | hw
        · exact hw
        · have := hb.2
          rw [← Bool.not_eq_true, List.contains_iff_mem] at this
          exact absurd hw this
theorem PostS.unlock {xs : List MP.D} {r : SR} (S : StR L xr bar al H st) (hr : ∀ i ∈ xs.filterMap cellOf, i < al.length) (h : PostS L xr W bar al H r D) : PostS L xr W (walkLo bar xs) al H r D := by
  rcases r with ⟨env | d, st'⟩ | ⟨c, p, env, st'⟩ | _
  · exact fun σ' al' H' y s e => h σ' al' H' y.unlock (unlockS S y s hr) e
  · exact fun v al' H' y s e => h v al' H' y.unlock (unlockS S y s hr) e
  · exact fun cls dd σ' al' H' y s e e2 => h cls dd σ' al' H' y.unlock (unlockS S y s hr) e e2
  · exact h
theorem PostS.seqL {xs : List MP.D} {r : SR} {k : Env → Sto → SR} {D1 : Ends} (S : StR L xr bar al H st) (hr : ∀ i ∈ xs.filterMap cellOf, i < al.length) (h : PostS L xr W bar al H (r.seq k) D) (hrt : D1.rt = D.rt)
    (hk : ∀ env1 st1 σ' al1 H1, Ext (walkLo bar xs) al H al1 H1 → StR L xr bar al1 H1 st1 → EnvR L xr al1 H1 σ' env1 → PostS L xr W bar al1 H1 (k env1 st1) D → D1.nx σ' H1) : PostS L xr W (walkLo bar xs) al H r D1 := by
  rcases r with ⟨env | d, st'⟩ | ⟨c, p, env, st'⟩ | _
  · exact fun σ' al' H' x s e => hk env st' σ' al' H' x (unlockS S x s hr) e (PostS.later (r := k env st') h x.unlock)
  · intro v al' H' x s e
    rw [hrt]; exact h v al' H' x.unlock (unlockS S x s hr) e
  · exact fun cls dd σ' al' H' x s e e2 => h cls dd σ' al' H' x.unlock (unlockS S x s hr) e e2
  · exact h
/-- the turns -/
theorem for_turns {tg : List Nat} {one : Bool} {g : TG} {xs ds : List MP.D} {J : It} {al0 : List Addr} {H0 : Hp} (hw : Walk L xr al0 H0 J xs ds)
    (hg : ∀ (v : V) (d : MP.D) (σ : L2.St) (H : Hp) (env env' : Env) (al : List Addr) (Q : L2.St → Hp → Prop), Rp L xr al H v d → EnvR L xr al H σ env → bindT one tg env d = some env' → (∀ σ', EnvR L xr al H σ' env' → Q σ' H) → g v σ H Q)
    (E : EnvR L xr al0 H0 σ env) (S : StR L xr bar al0 H0 st) (q : PostS L xr W bar al0 H0 (forRun tg one (fun e s => exSs C (walkLo bar xs) ss e s) ds env st) D) :
    ∃ Wn : Nat → Nat → L2.St → Hp → Prop, (∃ m, Wn 0 m σ H0) ∧ ∀ i m σ H, Wn i m σ H → (J.stop i H ∧ D.nx σ H) ∨ (J.go i H ∧ ∃ N : L2.St → Hp → Prop, (∀ σ' H', N σ' H' → ∃ m', m' < m ∧ Wn (i + 1) m' σ' H') ∧ ∀ x H', J.yld i H x H' → g x σ H' fun σ2 H2 =>
      (fun (D : Ends) σ H => ∃ bar al env st, EnvR L xr al H σ env ∧ StR L xr bar al H st ∧ PostS L xr W bar al H (exSs C bar ss env st) D) ⟨N, D.rt, D.nx, N⟩ σ2 H2) := by
  refine ⟨fun i m σ H => ∃ al env st, Ext (walkLo bar xs) al0 H0 al H ∧ EnvR L xr al H σ env ∧ StR L xr bar al H st ∧ i + m = ds.length ∧ PostS L xr W bar al H (forRun tg one (fun e s => exSs C (walkLo bar xs) ss e s) (ds.drop i) env st) D,
    ⟨ds.length, al0, env, st, .refl, E, S, by omega, by simpa using q⟩, fun i m σ H ⟨al, env, st, x, E, S, hm, q⟩ => ?_⟩
  have hr : ∀ i ∈ xs.filterMap cellOf, i < al.length := fun j hj => by
    obtain ⟨more, rfl, _⟩ := x.pre
    rw [List.length_append]
    exact Nat.lt_of_lt_of_le (hw.ref j hj) (Nat.le_add_right _ _)
  by_cases hi : ds.length ≤ i
  · refine .inl ⟨hw.stop bar i al H x (by omega), ?_⟩
    rw [List.drop_eq_nil_of_le hi] at q
    exact q σ al H .refl S E
  · have hi' : i < ds.length := by omega
    obtain ⟨hgo, hy⟩ := hw.go bar i al H x ds[i] (List.getElem?_eq_getElem hi')
    rw [List.drop_eq_getElem_cons hi'] at q
    simp only [forRun] at q
    refine .inr ⟨hgo, fun σ' H' => ∃ m', m' < m ∧ ∃ al env st, Ext (walkLo bar xs) al0 H0 al H' ∧ EnvR L xr al H' σ' env ∧ StR L xr bar al H' st ∧ (i + 1) + m' = ds.length ∧ PostS L xr W bar al H' (forRun tg one (fun e s => exSs C (walkLo bar xs) ss e s) (ds.drop (i + 1)) env st) D,
      fun σ' H' h => h, fun v H'' hyl => ?_⟩
    obtain ⟨hH, hv⟩ := hy v H'' hyl
    have hx : Ext (walkLo bar xs) al H al H'' ∧ Ext bar al H al H'' ∧ StR L xr bar al H'' st := by
      rcases hH with rfl | ⟨T, o, hT, rfl⟩
      · exact ⟨.refl, .refl, S⟩
      · exact ⟨.new hT, .new hT, S.new hT⟩
    obtain ⟨x1, x2, S1⟩ := hx
    cases hb : bindT one tg env ds[i] with
    | none => rw [hb] at q; exact False.elim q
    | some env1 =>
      rw [hb] at q
      refine hg v ds[i] σ H'' env env1 al _ (hv xr bar st .refl S) (E.stay x2.stay) hb fun σ2 E2 => ?_
      refine ⟨walkLo bar xs, al, env1, st, E2, S1.lock, PostS.seqL S1 hr (PostS.later q x2) rfl fun env3 st3 σ3 al3 H3 x3 S3 E3 q3 => ?_⟩
      exact ⟨m - 1, by omega, al3, env3, st3, (x.trans S1.nd x1).trans S3.nd x3, E3, S3, by omega, q3⟩
theorem s_for {k : IK} {tg : List Nat} {one : Bool} {ptg iter : Expr} (hp : PassesOwn (model X.prog X.w) X.A X.env X.xe) (hc : X.calm = true) (hK : X.K = L.K) (hi : PIm L xr W X C k es ptg iter) (hg : PGm L (· = X) tg one ptg)
    (hs : PMSs L xr W X C ss pss) (hf : ∀ x : Value, foldedSetIterable iter X.env x = pure x := by intro x; rfl) : PMS L xr W X C (.forr tg one k es ss) (.For ptg iter pss [] pos) := by
  obtain ⟨g, g1, g2⟩ := hg
  refine PS.weak (ps_for hp hc hi (g1 X rfl) hs hf) fun D σ H ⟨bar, al, env, st, E, S, q⟩ => ⟨bar, al, env, st, E, S, ?_⟩
  have e : exS C bar (.forr tg one k es ss) env st = SR.of env (denI C k es bar env st) fun p st1 => forRun tg one (fun e s => exSs C (walkLo bar p.1) ss e s) p.2 env st1 := by
    simp only [exS, denI]
    cases evEs C bar es env st with
    | bad => rfl
    | exn c p s => rfl
    | ok xs st1 =>
      simp only [SR.of, Res.bind]
      cases itemsV st1 k xs <;> rfl
  rw [e] at q
  refine PostS.of E q fun p st1 J al1 H1 x1 S1 w q1 => ?_
  exact for_turns w (fun v d σ H env env' al Q r E h k => g2 xr X.K hK v d σ H env env' al Q r E h fun σ' E' _ => k σ' E') (E.stay x1.stay) S1 q1
theorem s_whl (hp : PassesOwn (model X.prog X.w) X.A X.env X.xe) (ht : PMt L xr W X C a pa) (hs : PMSs L xr W X C ss pss) : PMS L xr W X C (.whl a ss) (.While pa pss [] pos) := by
  refine PS.weak (ps_while hp ht hs) fun D σ H ⟨bar, al, env, st, E, S, q⟩ => ?_
  refine ⟨fun m σ H => ∃ al env st, EnvR L xr al H σ env ∧ StR L xr bar al H st ∧ PostS L xr W bar al H (whlRun (fun e s => (evE C bar a e s).bind asB) (fun e s => exSs C bar ss e s) m env st) D,
    ⟨C.whl, al, env, st, E, S, q⟩, fun m σ H ⟨al, env, st, E, S, q⟩ => ?_⟩
  cases m with
  | zero => exact False.elim q
  | succ m =>
    simp only [whlRun] at q
    refine ⟨bar, al, env, st, E, S, PostS.of E q fun k st1 v al1 H1 x1 S1 p1 q1 => ?_⟩
    cases p1
    cases k
    · exact q1 σ al1 H1 .refl S1 (E.stay x1.stay)
    · refine ⟨fun σ' H' => ∃ m', m' < m + 1 ∧ ∃ al env st, EnvR L xr al H' σ' env ∧ StR L xr bar al H' st ∧ PostS L xr W bar al H' (whlRun (fun e s => (evE C bar a e s).bind asB) (fun e s => exSs C bar ss e s) m' env st) D, fun σ' H' h => h, ?_⟩
      exact ⟨bar, al1, env, st1, E.stay x1.stay, S1, PostS.seq (r := exSs C bar ss env st1) q1 rfl fun env2 st2 σ' al2 H2 x2 S2 E2 q2 => ⟨m, by omega, al2, env2, st2, E2, S2, q2⟩⟩
end
end MP

/-! MpQ: list comprehensions. -/
namespace MP
open PySem PySem.Spec PyProof.Rows L2
abbrev Wno : WX := fun _ _ _ _ => False
/-- an object more is hidden -/
abbrev XR.hide (xr : XR) (p : Addr) : XR := ⟨xr.ex, fun a => xr.hid a ∨ a = p⟩
abbrev XR.with (xr : XR) (h : Addr → Prop) : XR := ⟨xr.ex, h⟩
section
variable {L : Lk} {X : Cx} {xr : XR} {W : WX} {C : Ctx} {σ : L2.St} {H : Hp} {Q : VK} {pos : Pos} {a b c : E} {pa pb pc : Expr} {es : List E} {pes : List Expr} {bar : Bar} {al al' al1 : List Addr} {H' H1 : Hp} {st st' : Sto} {env : Env} {p : Addr}
theorem hides (hp : H p = none) : Hides xr (xr.hide p) H := ⟨rfl, fun a h => h.elim .inl fun e => .inr (e ▸ hp)⟩
theorem Hides.reps {xr2 : XR} (h : Hides xr xr2 H) {v : List V} {d : List D} (r : Reps L.K L.w xr al H v d) : Reps L.K L.w xr2 al H v d :=
  r.conv (fun a c p e => by rw [h.ex]; exact e) (fun _ _ e => e) fun a o e n => ⟨n.1, fun hh => (h.hid a hh).elim n.2 fun z => by rw [z] at e; cases e⟩
theorem Hides.repk {xr2 : XR} (h : Hides xr xr2 H) {v : List (Key × V)} {d : List (Key × D)} (r : RepK L.K L.w xr al H v d) : RepK L.K L.w xr2 al H v d :=
  r.conv (fun a c p e => by rw [h.ex]; exact e) (fun _ _ e => e) fun a o e n => ⟨n.1, fun hh => (h.hid a hh).elim n.2 fun z => by rw [z] at e; cases e⟩
theorem RepF.conv {xr2 : XR} {K : Lk} (hc : ∀ v d, Rep L.K L.w xr al H v d → Rep L.K L.w xr2 al' H v d) : ∀ {fs : List (Str × V)} {gs : List (Nat × D)}, RepF L xr al H fs gs → RepF L xr2 al' H fs gs
  | _, _, .nil => .nil
  | _, _, .cons k r t => .cons k (hc _ _ r) (RepF.conv (K := K) hc t)
theorem Hides.cell {xr2 : XR} (h : Hides xr xr2 H) {i : Nat} {q : Addr} {c : Cell} (r : CellR L xr bar al H i q c) : CellR L xr2 bar al H i q c := by
  cases c with
  | lst ds => obtain ⟨vs, h1, h2⟩ := r; exact ⟨vs, h1, h.reps h2⟩
  | dct ds => obtain ⟨vs, h1, h2, h3⟩ := r; exact ⟨vs, h1, h2, h.repk h3⟩
  | ins c fs => obtain ⟨dx, fs', h1, h2, h3⟩ := r; exact ⟨dx, fs', h1, RepF.conv (K := L) (fun _ _ r => h.rep r) h2, h3⟩
/-- a new object is hidden -/
theorem StR.hide {o : HO} (S : StR L xr bar al H st) (hp : H p = none) : StR L (xr.hide p) bar al (upd H p o) st := by
  have S1 := S.new (o := o) hp
  refine ⟨S.len, S.nd, fun i c q e1 e2 => ?_, fun a ha => ?_⟩
  · exact ((hides (xr := xr) hp).cell (S.cell i c q e1 e2)).move (Ext.new (bar := bar) hp).stay (upd_ne fun z => S.not_mem hp (z ▸ List.mem_of_getElem? e2))
  · rcases ha with ha | rfl
    · exact S1.hid a ha
    · exact ⟨S.not_mem hp, o, upd_same⟩
/-- a hidden object is written -/
theorem Stay.hidw {o : HO} (h : xr.hid p) : Stay xr al al H (upd H p o) := by
  have ne : ∀ {a}, Fr xr al a → a ≠ p := fun n z => n.2 (z ▸ h)
  refine ⟨fun _ _ e => e, fun a u r n => ⟨?_, n⟩, fun a vs e n => by rw [upd_ne (ne n)]; exact e⟩
  rcases r with r | ⟨o', r⟩
  · exact .inl (by rw [upd_ne (ne n)]; exact r)
  · exact .inr ⟨o', by rw [upd_ne (ne n)]; exact r⟩
theorem StR.hidw {o : HO} (S : StR L xr bar al H st) (h : xr.hid p) : StR L xr bar al (upd H p o) st :=
  ⟨S.len, S.nd, fun i c q e1 e2 => (S.cell i c q e1 e2).move (Stay.hidw h) (upd_ne fun z => (S.hid p h).1 (z ▸ List.mem_of_getElem? e2)), fun a ha => ⟨(S.hid a ha).1, by
    by_cases z : a = p
    · subst z; exact ⟨o, upd_same⟩
    · obtain ⟨_, o', h'⟩ := S.hid a ha
      exact ⟨o', by rw [upd_ne z]; exact h'⟩⟩⟩
/-- nothing that stood was changed -/
theorem Ext.all {b : Bar} (hl : al.length = st.length) (x : Ext (shutBar st) al H al' H') : Ext b al H al' H' := ⟨x.pre, fun q o e _ => x.keep q o e fun i ei => shut_can (by rw [← hl]; exact (List.getElem?_eq_some_iff.mp ei).1)⟩
theorem EnvR.conv {xr2 : XR} (hc : ∀ v d, Rep L.K L.w xr al H v d → Rep L.K L.w xr2 al' H v d) (E : EnvR L xr al H σ env) : EnvR L xr2 al' H σ env := ⟨E.len, fun i d e => let ⟨v, h, r⟩ := E.at_ i d e; ⟨v, h, hc _ _ r⟩⟩
theorem CellR.conv {xr2 : XR} (he : ∀ a c p, xr.ex a c p → xr2.ex a c p) (hr : ∀ (i : Nat) a, al[i]? = some a → al'[i]? = some a) (hF : ∀ a o, H a = some o → Fr xr al a → Fr xr2 al' a) {i : Nat} {q : Addr} {c : Cell} (r : CellR L xr bar al H i q c) : CellR L xr2 bar al' H i q c := by
  cases c with
  | lst ds => obtain ⟨vs, h1, h2⟩ := r; exact ⟨vs, h1, h2.conv he hr hF⟩
  | dct ds => obtain ⟨vs, h1, h2, h3⟩ := r; exact ⟨vs, h1, h2, h3.conv he hr hF⟩
  | ins c fs => obtain ⟨dx, fs', h1, h2, h3⟩ := r; exact ⟨dx, fs', h1, RepF.conv (K := L) (fun _ _ r => r.conv he hr hF) h2, h3⟩
/-- a hidden object is shown: as a tree -/
theorem showS (S : StR L (xr.hide p) bar al H st) : StR L xr bar al H st :=
  ⟨S.len, S.nd, fun i c q e1 e2 => (S.cell i c q e1 e2).conv (xr := xr.hide p) (xr2 := xr) (fun _ _ _ e => e) (fun _ _ e => e) fun a o e n => ⟨n.1, fun h => n.2 (Or.inl h)⟩, fun a ha => S.hid a (.inl ha)⟩
theorem showR {vs : List V} {ds : List D} (r : Reps L.K L.w (xr.hide p) al H vs ds) : Reps L.K L.w xr al H vs ds :=
  r.conv (xr := xr.hide p) (xr' := xr) (fun _ _ _ e => e) (fun _ _ e => e) fun a o e n => ⟨n.1, fun h => n.2 (Or.inl h)⟩
/-- a hidden list is shown: as a cell -/
theorem adoptS {vs : List V} {ds : List D} (S : StR L (xr.hide p) bar al H st) (hp : H p = some (.lst vs)) (r : Reps L.K L.w (xr.hide p) al H vs ds) (hx : ¬ xr.hid p) : StR L xr bar (al ++ [p]) H (st ++ [.lst ds]) := by
  have hpn : p ∉ al := (S.hid p (.inr rfl)).1
  have hr : ∀ (i : Nat) a, al[i]? = some a → (al ++ [p])[i]? = some a := fun i a e => by
    rw [List.getElem?_append_left (List.getElem?_eq_some_iff.mp e).1]; exact e
  have hF : ∀ a o, H a = some o → Fr (xr.hide p) al a → Fr xr (al ++ [p]) a := fun a o e n => ⟨fun hm => (List.mem_append.mp hm).elim n.1 fun hm => n.2 (Or.inr (List.mem_singleton.mp hm)), fun h => n.2 (Or.inl h)⟩
  refine ⟨by simp [S.len], ?_, fun i c a e1 e2 => ?_, fun a ha => ?_⟩
  · refine List.nodup_append.mpr ⟨S.nd, by simp, fun a ha b hb => ?_⟩
    rw [List.mem_singleton.mp hb]
    exact fun z => hpn (z ▸ ha)
  · by_cases hl : i < al.length
    · rw [List.getElem?_append_left hl] at e2
      rw [List.getElem?_append_left (by rw [← S.len]; exact hl)] at e1
      exact (S.cell i c a e1 e2).conv (xr := xr.hide p) (xr2 := xr) (fun _ _ _ e => e) hr hF
    · rw [List.getElem?_append_right (by omega)] at e2
      rw [List.getElem?_append_right (by rw [← S.len]; omega)] at e1
      have h0 : i - al.length = 0 := by
        cases h : i - al.length with
        | zero => rfl
        | succ n => rw [h] at e2; simp at e2
      rw [h0] at e2
      rw [← S.len, h0] at e1
      simp at e1 e2
      subst e1 e2
      exact ⟨vs, hp, r.conv (xr := xr.hide p) (xr' := xr) (fun _ _ _ e => e) hr hF⟩
  · obtain ⟨n, o, h⟩ := S.hid a (.inl ha)
    refine ⟨fun hm => (List.mem_append.mp hm).elim n fun hm => ?_, o, h⟩
    rw [List.mem_singleton.mp hm] at ha
    exact hx ha
def PMc (L : Lk) (xr : XR) (W : WX) (X : Cx) (C : Ctx) (es : List E) (pes : List Expr) : Prop := PTs X pes (rT L xr W fun bar env st => evCond C bar es env st)
theorem c_nil : PMc L xr W X C [] [] := ⟨fun pins s σ H Q I ⟨bar, al, env, st, E, S, q⟩ => pts_nil.run pins s σ H Q I (q true al H .refl S rfl)⟩
theorem c_one (h : PMt L xr W X C a pa) : PMc L xr W X C [a] [pa] := pts_one h
/-- the blocks of a comprehension -/
def Blks (X : Cx) (scope : Scope) : Cx → Prop := fun Y => ∃ (s : Shared) (H : Hp) (q : Addr) (cl : List (Str × Addr)) (fp : List Addr), Y = X.blk s H scope (compEnvC scope cl q X.env) fp
theorem m_lc {cell one : Bool} {k : IK} {tg : List Nat} {src cond : List E} {elt : E} {ptg pit pelt : Expr} {pifs : List Expr} {scope : Scope} {own : List (Str × Nat)} (hc : X.calm = true) (hN : X.N.Nodup) (hK : X.K = L.K)
    (hi : PIm L xr W X C k src ptg pit) (ok : BlkOk X.N X.env.scope scope own) (he : own.map (fun x => x.2) = tg) (hg : PGm L (Blks X scope) tg one ptg) (ht : ∀ h Y, Blks X scope Y → PMc L (xr.with h) Wno Y C cond pifs)
    (hel : ∀ h Y, Blks X scope Y → PM L (xr.with h) Wno Y C elt pelt) (hf : ∀ x : Value, foldedSetIterable pit X.env x = pure x := by intro x; rfl) : PM L xr W X C (.lc cell elt tg one k src cond) (.ListComp pelt [⟨ptg, pit, pifs, 0⟩] scope pos) := by
  obtain ⟨g, g1, g2⟩ := hg
  have h1 := pe_lc (pos := pos) (tt := fun σ H Q => ∃ h, rT L (xr.with h) Wno (fun bar env st => evCond C bar cond env st) σ H Q) (te := fun σ H Q => ∃ h, rE L (xr.with h) Wno (fun bar env st => evE C bar elt env st) σ H Q)
    hc hN hi ok (fun s H q cl fp => g1 _ ⟨s, H, q, cl, fp, rfl⟩) (fun s H q cl fp => ⟨fun pins s' σ H' Q I ⟨h, z⟩ => (ht h _ ⟨s, H, q, cl, fp, rfl⟩).run pins s' σ H' Q I z⟩) (fun s H q cl fp => ⟨fun pins s' σ H' Q I ⟨h, z⟩ => (hel h _ ⟨s, H, q, cl, fp, rfl⟩).run pins s' σ H' Q I z⟩) hf
  rw [he] at h1
  refine PE.weak h1 fun σ H Q ⟨bar, al, env, st, E, S, q⟩ => ⟨bar, al, env, st, E, S, ?_⟩
  have e : evE C bar (.lc cell elt tg one k src cond) env st = (denI C k src bar env st).bind fun p st1 => match lcRun tg one (wipeE env tg) (fun e s => evCond C (shutBar st1) cond e s) (fun e s => evE C (shutBar st1) elt e s) p.2 st1 with
      | .ok ys st2 => if decide (ys.length ≤ LIM) then newL cell ys st2 else .bad
      | _ => .bad := by
    simp only [evE, denI]
    cases evEs C bar src env st with
    | bad => rfl
    | exn c p s => rfl
    | ok xs st1 =>
      simp only [Res.bind]
      cases itemsV st1 k xs <;> rfl
  replace q : Post L xr W bar σ (RV L xr) al H (evE C bar (.lc cell elt tg one k src cond) env st) Q := q
  rw [e] at q
  refine Post.bind q fun xd st1 J al1 H1 x1 S1 hw q1 D hD => ?_
  obtain ⟨xs, ds⟩ := xd
  have hl1 := S1.len
  have hDn : D ∉ al1 := S1.not_mem hD
  let xr2 := xr.hide D
  have hs2 : Hides xr xr2 H1 := hides hD
  have E2 : EnvR L xr2 al1 H1 σ env := EnvR.conv (fun _ _ r => hs2.rep r) (E.stay x1.stay)
  have x2 : Ext (shutBar st1) al1 H1 al1 (upd H1 D (.lst [])) := .new hD
  have S2 : StR L xr2 (shutBar st1) al1 (upd H1 D (.lst [])) st1 := S1.shut.hide hD
  cases hr : lcRun tg one (wipeE env tg) (fun e s => evCond C (shutBar st1) cond e s) (fun e s => evE C (shutBar st1) elt e s) ds st1 with
  | bad => rw [hr] at q1; exact False.elim q1
  | exn c p s => rw [hr] at q1; exact False.elim q1
  | ok ys0 st0 =>
    simp only [hr] at q1
    split at q1
    · rename_i hlen
      have hlen := of_decide_eq_true hlen
      refine ⟨fun i m H' => ∃ al' st' acc ys zs, Ext (shutBar st1) al1 H1 al' H' ∧ StR L xr2 (shutBar st1) al' H' st' ∧ H' D = some (.lst acc) ∧ Reps L.K L.w xr2 al' H' acc ys ∧ i + m = ds.length ∧ ys ++ zs = ys0 ∧
        lcRun tg one (wipeE env tg) (fun e s => evCond C (shutBar st1) cond e s) (fun e s => evE C (shutBar st1) elt e s) (ds.drop i) st' = .ok zs st0,
        ⟨ds.length, al1, st1, [], [], ys0, x2, S2, upd_same, .nil, by omega, rfl, by simpa using hr⟩, fun i m H' ⟨al', st', acc, ys, zs, x, S', hacc, racc, him, hys, hrun⟩ => ?_⟩
      have hw' : ∀ {b}, Ext (walkLo b xs) al1 H1 al' H' := x.all hl1
      by_cases hi' : ds.length ≤ i
      · refine .inl ⟨hw.stop bar i al' H' hw' (by show ds.length = i; omega), ?_⟩
        rw [List.drop_eq_nil_of_le hi'] at hrun
        simp only [lcRun, Res.ok.injEq] at hrun
        obtain ⟨rfl, rfl⟩ := hrun
        rw [List.append_nil] at hys
        subst hys
        -- what was hidden is shown
        have hxd : ¬ xr.hid D := fun hh => by
          obtain ⟨_, o, h⟩ := S1.hid D hh
          rw [hD] at h; cases h
        have hcan : ∀ i, bar.can i = true → (shutBar st1).can i = true ∨ i < al1.length := fun i _ => by
          by_cases h : i < al1.length
          · exact .inr h
          · refine .inl ?_
            simp only [Bar.can, Bool.and_eq_true, decide_eq_true_eq]
            exact ⟨by show st1.length ≤ i; omega, rfl⟩
        cases cell with
        | false =>
          exact q1 _ al' H' (x.all hl1) (unlockG S1 x (showS S') hcan) (.lst hacc ⟨(S'.hid D (.inr rfl)).1, hxd⟩ (showR racc))
        | true =>
          have x' : Ext (shutBar st1) al1 H1 (al' ++ [D]) H' := by
            obtain ⟨⟨more, e, hm⟩, hk⟩ := x
            refine ⟨⟨more ++ [D], by rw [e, List.append_assoc], fun q hq => (List.mem_append.mp hq).elim (hm q) fun hq => by rw [List.mem_singleton.mp hq]; exact hD⟩, hk⟩
          refine q1 (.ref D) (al' ++ [D]) H' (x'.all hl1) (unlockG S1 x' (adoptS S' hacc racc hxd) hcan) (.ref ?_)
          rw [← S'.len]; simp
      · have hi2 : i < ds.length := by omega
        obtain ⟨hgo, hy⟩ := hw.go bar i al' H' hw' ds[i] (List.getElem?_eq_getElem hi2)
        rw [List.drop_eq_getElem_cons hi2] at hrun
        refine .inr ⟨hgo, fun H5 => ∃ m', m' < m ∧ ∃ al' st' acc ys zs, Ext (shutBar st1) al1 H1 al' H5 ∧ StR L xr2 (shutBar st1) al' H5 st' ∧ H5 D = some (.lst acc) ∧ Reps L.K L.w xr2 al' H5 acc ys ∧ (i + 1) + m' = ds.length ∧ ys ++ zs = ys0 ∧
          lcRun tg one (wipeE env tg) (fun e s => evCond C (shutBar st1) cond e s) (fun e s => evE C (shutBar st1) elt e s) (ds.drop (i + 1)) st' = .ok zs st0, fun _ h => h, fun v H2 hv => ?_⟩
        obtain ⟨hH, hrep⟩ := hy v H2 hv
        have hx : Ext (shutBar st1) al' H' al' H2 ∧ StR L xr2 (shutBar st1) al' H2 st' := by
          rcases hH with rfl | ⟨T, o, hT, rfl⟩
          · exact ⟨.refl, S'⟩
          · exact ⟨.new hT, S'.new hT⟩
        obtain ⟨x3, S3⟩ := hx
        have x13 := x.trans S3.nd x3
        simp only [lcRun] at hrun
        cases hb : bindT one tg (wipeE env tg) ds[i] with
        | none => rw [hb] at hrun; cases hrun
        | some e1 =>
          rw [hb] at hrun
          refine g2 xr2 L.K rfl v ds[i] _ H2 _ e1 al' _ (hrep xr2 (shutBar st1) st' hs2 S') ((E2.wipe tg).stay x13.stay) hb fun σ2 EE hwp => ⟨by rw [hwp tg fun _ h => h, wipe_wipe], xr2.hid, ?_⟩
          refine ⟨shutBar st1, al', e1, st', EE, S3, ?_⟩
          show Post L xr2 Wno (shutBar st1) σ2 RB al' H2 (evCond C (shutBar st1) cond e1 st') _
          cases hcnd : evCond C (shutBar st1) cond e1 st' with
          | bad => simp only [hcnd, Res.bind] at hrun; cases hrun
          | exn c p s => simp only [hcnd, Res.bind] at hrun; cases hrun
          | ok kb st4 =>
            simp only [hcnd, Res.bind] at hrun
            intro bb al4 H4 x4 S4 rb
            cases rb
            have hDk : H4 D = some (.lst acc) := x4.keep D _ (x3.keep D _ hacc fun i e => absurd (List.mem_of_getElem? e) (S'.hid D (.inr rfl)).1) fun i e => absurd (List.mem_of_getElem? e) (S'.hid D (.inr rfl)).1
            have x14 := x13.trans S4.nd x4
            cases kb with
            | false =>
              show ∃ m', _
              exact ⟨m - 1, by omega, al4, st4, acc, ys, zs, x14, S4, hDk, (racc.stay x3.stay).stay x4.stay, by omega, hys, hrun⟩
            | true =>
              refine ⟨xr2.hid, shutBar st1, al4, e1, st4, EE.stay x4.stay, S4, ?_⟩
              show Post L xr2 Wno (shutBar st1) σ2 (RV L xr2) al4 H4 (evE C (shutBar st1) elt e1 st4) _
              cases hev : evE C (shutBar st1) elt e1 st4 with
              | bad => simp only [hev, if_true] at hrun; cases hrun
              | exn c p s => simp only [hev, if_true] at hrun; cases hrun
              | ok y st5 =>
                simp only [hev, if_true] at hrun
                cases hrest : lcRun tg one (wipeE env tg) (fun e s => evCond C (shutBar st1) cond e s) (fun e s => evE C (shutBar st1) elt e s) (ds.drop (i + 1)) st5 with
                | bad => rw [hrest] at hrun; cases hrun
                | exn c p s => rw [hrest] at hrun; cases hrun
                | ok zs' st6 =>
                  rw [hrest] at hrun
                  simp only [Res.ok.injEq] at hrun
                  obtain ⟨rfl, rfl⟩ := hrun
                  intro u al5 H5 x5 S5 ru
                  have hD5 : H5 D = some (.lst acc) := x5.keep D _ hDk fun i e => absurd (List.mem_of_getElem? e) (S4.hid D (.inr rfl)).1
                  have x15 := x14.trans S5.nd x5
                  have hacl : acc.length < sizeLine := by
                    rw [racc.length, sizeLine_eq]
                    have : ys.length + (y :: zs').length = ys0.length := by rw [← hys, List.length_append]
                    simp only [List.length_cons] at this
                    unfold LIM at hlen
                    omega
                  refine ⟨acc, hD5, hacl, m - 1, by omega, al5, st5, acc ++ [u], ys ++ [y], zs', ?_, S5.hidw (.inr rfl), upd_same, ?_, by omega, by rw [← hys]; simp, hrest⟩
                  · exact ⟨x15.pre, fun q o e nw => by rw [upd_ne (ne_of_none e hD)]; exact x15.keep q o e nw⟩
                  · exact ((((racc.stay x3.stay).stay x4.stay).stay x5.stay).append (.cons ru .nil)).stay (Stay.hidw (xr := xr2) (show xr2.hid D from Or.inr rfl))
    · exact False.elim q1
end
end MP

/-! MpR: all that a body's proof rests on; the rules again, with what they ask found by themselves; calls by depth. -/
namespace MP
open PySem PySem.Spec PyProof.Rows L2
/-- what the text's head gives -/
structure Tx (L : Lk) : Prop where
  cf : ClsF L
  mf : MethF L L.T
  kf : MakeF L L.T
  np : ∀ f F, L.T.fn f = some F → (L.ps f).length = F.np
/-- where a body runs -/
structure Sit (L : Lk) (d : Nat) (X : Cx) (xr : XR) (W : WX) : Prop where
  fs : Fns L L.T d X
  nx : ∀ a c p, ¬ xr.ex a c p
  tk : Takes X W
  calm : X.calm = true
/-- a def's name in the module -/
structure NmF (L : Lk) (f : Nat) (x : Str) : Prop where
  mg : L.mg x = some (.ref (L.fa f))
  kp : PySem.W.keepIn L.K (.ref (L.fa f)) = true
section
variable {L : Lk} {d : Nat} {X : Cx} {xr : XR} {W : WX} {pos : Pos} {a b c : E} {pa pb pc : Expr} {es : List E} {pes : List Expr}
theorem Sit.u (S : Sit L d X xr W) : X.A.units + 200 < cLine := by have := S.fs.room.un; omega
theorem Sit.u1 (S : Sit L d X xr W) : X.A.units + 1 < cLine := by have := S.u; omega
theorem Sit.u64 (S : Sit L d X xr W) : X.A.units + 64 < cLine := by have := S.u; omega
theorem Sit.u65 (S : Sit L d X xr W) : X.A.units + 65 < cLine := by have := S.u; omega
/-- a comprehension's block -/
theorem Sit.blk {scope : Scope} {h : Addr → Prop} {Y : Cx} (S : Sit L d X xr W) (hY : Blks X scope Y) : Sit L d Y (xr.with h) Wno := by
  obtain ⟨s, H, q, cl, fp, rfl⟩ := hY
  exact ⟨⟨⟨S.fs.on.prog, S.fs.on.w, S.fs.on.K, S.fs.on.mg⟩, S.fs.room, S.fs.np, S.fs.ok, S.fs.bi⟩, S.nx, (fun u s' ⟨_, _, _, _, _, _, _, _, _, _, _, _, _, _, _, _, h⟩ => h.elim), S.calm⟩
/-! the rules again -/
variable (S : Sit L d X xr W)
include S
theorem k_op {op : Op} {po : Operator} (ha : PM L xr W X (ctx L.T d) a pa) (hb : PM L xr W X (ctx L.T d) b pb) (he : po = opP op := by rfl) : PM L xr W X (ctx L.T d) (.op op a b) (.BinOp pa po pb pos) := m_op S.fs.on ha hb he
theorem k_catc (ha : PM L xr W X (ctx L.T d) a pa) (hb : PM L xr W X (ctx L.T d) b pb) : PM L xr W X (ctx L.T d) (.catc a b) (.BinOp pa .Add pb pos) := m_catc S.fs.on ha hb
theorem k_cmp {op : Cop} {po : CmpOp} (ha : PM L xr W X (ctx L.T d) a pa) (hb : PM L xr W X (ctx L.T d) b pb) (he : po = copP op := by rfl) (hm : behindInMarks po pb = false := by rfl) : PM L xr W X (ctx L.T d) (.cmp op a b) (.Compare pa [po] [pb] pos) := m_cmp S.fs.on S.u64 ha hb he hm
theorem k_inn {neg : Bool} {po : CmpOp} (ha : PM L xr W X (ctx L.T d) a pa) (hb : PM L xr W X (ctx L.T d) b pb) (he : po = inP neg := by rfl) (hm : behindInMarks po pb = false := by rfl) : PM L xr W X (ctx L.T d) (.inn neg a b) (.Compare pa [po] [pb] pos) := m_inn S.fs.on S.u65 ha hb he hm
theorem k_chain {op op' : Cop} {po po' : CmpOp} (ha : PM L xr W X (ctx L.T d) a pa) (hb : PM L xr W X (ctx L.T d) b pb) (hc : PM L xr W X (ctx L.T d) c pc) (he : po = copP op := by rfl) (he' : po' = copP op' := by rfl) (hm : lastMarks [po, po'] [pb, pc] = false := by rfl) :
    PM L xr W X (ctx L.T d) (.chain op op' a b c) (.Compare pa [po, po'] [pb, pc] pos) := m_chain S.fs.on S.u64 ha hb hc he he' hm
theorem kt_cmp {op : Cop} {po : CmpOp} (ha : PM L xr W X (ctx L.T d) a pa) (hb : PM L xr W X (ctx L.T d) b pb) (he : po = copP op := by rfl) (hm : behindInMarks po pb = false := by rfl) : PMt L xr W X (ctx L.T d) (.cmp op a b) (.Compare pa [po] [pb] pos) := t_cmp S.fs.on S.u64 ha hb he hm
theorem kt_inn {neg : Bool} {po : CmpOp} (ha : PM L xr W X (ctx L.T d) a pa) (hb : PM L xr W X (ctx L.T d) b pb) (he : po = inP neg := by rfl) (hm : behindInMarks po pb = false := by rfl) : PMt L xr W X (ctx L.T d) (.inn neg a b) (.Compare pa [po] [pb] pos) := t_inn S.fs.on S.u65 ha hb he hm
theorem kt_chain {op op' : Cop} {po po' : CmpOp} (ha : PM L xr W X (ctx L.T d) a pa) (hb : PM L xr W X (ctx L.T d) b pb) (hc : PM L xr W X (ctx L.T d) c pc) (he : po = copP op := by rfl) (he' : po' = copP op' := by rfl) (hm : lastMarks [po, po'] [pb, pc] = false := by rfl) :
    PMt L xr W X (ctx L.T d) (.chain op op' a b c) (.Compare pa [po, po'] [pb, pc] pos) := t_chain S.fs.on S.u64 ha hb hc he he' hm
theorem k_ix (ha : PM L xr W X (ctx L.T d) a pa) (hb : PM L xr W X (ctx L.T d) b pb) (hs : PlainIx pb := by intro o i; rfl) : PM L xr W X (ctx L.T d) (.ix a b) (.Subscript pa pb pos) := m_ix S.fs.on S.u1 ha hb hs
theorem k_sl {l h : List E} {pl ph : Option Expr} {p2 : Pos} (ha : PM L xr W X (ctx L.T d) a pa) (hl : PMo L xr W X (ctx L.T d) l pl) (hh : PMo L xr W X (ctx L.T d) h ph) : PM L xr W X (ctx L.T d) (.sl a l h) (.Subscript pa (.Slice pl ph none p2) pos) := m_sl S.fs.on ha hl hh
theorem k_attr (T : Tx L) {f : Nat} {pf : Str} (ha : PM L xr W X (ctx L.T d) a pa) (hf : L.okF f = true := by rfl) (he : pf = L.fl f := by rfl) (hb : attributeBase pa pf X.env (eval pa X.env) = eval pa X.env := by rfl) :
    PM L xr W X (ctx L.T d) (.attr a f) (.Attribute pa pf pos) := m_attr S.fs.on T.cf ha S.nx hf he hb
theorem k_bm {m : BM} {pm : Str} {apos cpos : Pos} (ho : PM L xr W X (ctx L.T d) a pa) (hs : PMs L xr W X (ctx L.T d) (b :: es) (pb :: pes)) (he : pm = bmN m := by rfl)
    (hbase : attributeBase pa pm X.env (eval pa X.env) = eval pa X.env := by rfl)
    (hfew : ((backTo cpos (starEach (pb :: pes) X.env)).all (fun x => !x.1) && (backToKw cpos (keywordEach [] X.env)).all (fun x => x.1.isSome)
      && decide ((pb :: pes).length + ([] : List Keyword).length + (if ([] : List Keyword).isEmpty then 0 else 1) < 30)) = true := by rfl)
    (hline : (apos.endLine == cpos.line) = true := by rfl) (hs1 : starEach (pb :: pes) X.env = (false, eval pb X.env) :: starEach pes X.env := by rfl) (hplain : (backTo cpos (starEach pes X.env)).any (·.1) = false := by rfl) :
    PM L xr W X (ctx L.T d) (.bm m a (b :: es)) (.Call (.Attribute pa pm apos) (pb :: pes) [] cpos) := m_bm S.fs.on S.u65 ho hs he hbase hfew hline hs1 hplain
theorem k_bm0 {m : BM} {pm : Str} {apos cpos : Pos} (ho : PM L xr W X (ctx L.T d) a pa) (he : pm = bmN m := by rfl)
    (hbase : attributeBase pa pm X.env (eval pa X.env) = eval pa X.env := by rfl) (hline : (apos.endLine == cpos.line) = true := by rfl) :
    PM L xr W X (ctx L.T d) (.bm m a []) (.Call (.Attribute pa pm apos) [] [] cpos) := m_bm0 S.fs.on S.u65 ho he hbase hline
theorem k_bfB {f : BF} {cell : Bool} {x : Str} {p : Pos} {id : String} (hm : L.mg x = none) (hs : PMs L xr W X (ctx L.T d) (a :: es) (pa :: pes)) (hid : bfF f = .builtin id := by rfl) (hg : Gl X x := by rfl) (hv : bootBuiltins x = some (.builtin id) := by rfl)
    (h1 : f ≠ .sorted := by decide) (h2 : f ≠ .sset := by decide) (g1 : x ≠ "__name__" := by decide) (g2 : (x == "__debug__") = false := by rfl) (g3 : starEach (pa :: pes) X.env = (false, eval pa X.env) :: starEach pes X.env := by rfl)
    (g4 : (backTo pos (starEach pes X.env)).any (·.1) = false := by rfl) : PM L xr W X (ctx L.T d) (.bf f cell (a :: es)) (.Call (.Name x p) (pa :: pes) [] pos) :=
  m_bfB (bf_ok S.fs.on S.calm f h1 h2) h1 h2 hid hg (by rw [S.fs.on.mg]; exact hm) hv hs g1 g2 g3 g4
theorem k_bfT {f : BF} {cell : Bool} {x : Str} {p : Pos} {id : String} (hm : L.mg x = none) (hs : PMs L xr W X (ctx L.T d) (a :: es) (pa :: pes)) (hid : bfF f = .type id := by rfl) (hg : Gl X x := by rfl) (hv : bootBuiltins x = some (.type id) := by decide +kernel)
    (h1 : f ≠ .sorted := by decide) (h2 : f ≠ .sset := by decide) (g1 : x ≠ "__name__" := by decide) (g2 : (x == "__debug__") = false := by rfl) (g3 : starEach (pa :: pes) X.env = (false, eval pa X.env) :: starEach pes X.env := by rfl)
    (g4 : (backTo pos (starEach pes X.env)).any (·.1) = false := by rfl) : PM L xr W X (ctx L.T d) (.bf f cell (a :: es)) (.Call (.Name x p) (pa :: pes) [] pos) :=
  m_bfT (bf_ok S.fs.on S.calm f h1 h2) h1 h2 hid hg (by rw [S.fs.on.mg]; exact hm) hv hs g1 g2 g3 g4
theorem k_isi {t : Tc} {n : String} {px : Str} {p p2 : Pos} (hm : L.mg "isinstance" = none) (hmx : L.mg px = none) (ha : PM L xr W X (ctx L.T d) a pa) (ht : tcN t = some n := by rfl) (hg : Gl X "isinstance" := by rfl) (hgx : Gl X px := by rfl) (hb : bootBuiltins px = some (.type n) := by decide +kernel)
    (hv : bootBuiltins "isinstance" = some (.builtin "isinstance") := by rfl) (hp1 : px ≠ "__name__" := by decide) (hp2 : (px == "__debug__") = false := by rfl) (g1 : ("isinstance" : Str) ≠ "__name__" := by decide)
    (g3 : starEach [pa, .Name px p2] X.env = (false, eval pa X.env) :: starEach [.Name px p2] X.env := by rfl)
    (g4 : (backTo pos (starEach [.Name px p2] X.env)).any (·.1) = false := by rfl) : PM L xr W X (ctx L.T d) (.isi a t) (.Call (.Name "isinstance" p) [pa, .Name px p2] [] pos) :=
  m_isi (x := px) S.fs.on S.nx ht hg (by rw [S.fs.on.mg]; exact hm) hgx (by rw [S.fs.on.mg]; exact hmx) hb ha hv hp1 hp2 g1 g3 g4
theorem k_glob {g : Nat} {x : Str} (hm : ∀ d, L.T.glob g = some d → ∃ u v, L.mg x = some u ∧ RelV v u ∧ ∀ xr al H, Rp L xr al H v d) (hg : Gl X x := by rfl) (h1 : (x == "__debug__") = false := by rfl) : PM L xr W X (ctx L.T d) (.glob g) (.Name x pos) :=
  m_glob hg (fun d h => by
    obtain ⟨u, v, h1, h2, h3⟩ := hm d h
    exact ⟨u, v, by rw [S.fs.on.mg]; exact h1, h2, h3 xr⟩) h1
theorem k_call {f : Nat} {F : Fn} {keep : Bool} {x : Str} {p : Pos} (nf : NmF L f x) (hs : PMs L xr W X (ctx L.T d) (a :: es) (pa :: pes)) (hF : L.T.fn f = some F := by rfl) (hg : Gl X x := by rfl)
    (g2 : (x == "__debug__") = false := by rfl) (g3 : starEach (pa :: pes) X.env = (false, eval pa X.env) :: starEach pes X.env := by rfl)
    (g4 : (backTo pos (starEach pes X.env)).any (·.1) = false := by rfl) : PM L xr W X (ctx L.T d) (.call f keep (a :: es)) (.Call (.Name x p) (pa :: pes) [] pos) :=
  m_call S.nx S.fs S.tk hF hg (by rw [S.fs.on.mg]; exact nf.mg) (by rw [S.fs.on.K]; exact nf.kp) hs g2 g3 g4
theorem k_meth (T : Tx L) {m : Nat} {keep : Bool} {pm : Str} {apos : Pos} {pl : Sem Bool} (ho : PM L xr W X (ctx L.T d) a pa) (hs : PMs L xr W X (ctx L.T d) (b :: es) (pb :: pes)) (he : pm = L.me m := by rfl)
    (g3 : starEach (pb :: pes) X.env = (false, eval pb X.env) :: starEach pes X.env := by rfl)
    (g4 : (backTo pos (starEach pes X.env)).any (·.1) = false := by rfl)
    (g5 : eval (.Call (.Attribute pa pm apos) (pb :: pes) [] pos) X.env = (do
      let ov ← eval pa X.env
      standAt apos.atName
      let __x ← holding [ov] (getMethod ov pm pl)
      match __x with
        | (f, first) => callWith pos f first (backTo pos (starEach (pb :: pes) X.env)) (backToKw pos (keywordEach [] X.env))) := by rfl) :
    PM L xr W X (ctx L.T d) (.meth a m keep (b :: es)) (.Call (.Attribute pa pm apos) (pb :: pes) [] pos) := m_meth S.nx S.fs T.cf T.mf S.tk he ho hs g3 g4 g5
theorem k_meth0 (T : Tx L) {m : Nat} {keep : Bool} {pm : Str} {apos : Pos} {pl : Sem Bool} (ho : PM L xr W X (ctx L.T d) a pa) (he : pm = L.me m := by rfl)
    (g5 : eval (.Call (.Attribute pa pm apos) [] [] pos) X.env = (do
      let ov ← eval pa X.env
      standAt apos.atName
      let __x ← holding [ov] (getMethod ov pm pl)
      match __x with
        | (f, first) => callWith pos f first (backTo pos (starEach [] X.env)) (backToKw pos (keywordEach [] X.env))) := by rfl) :
    PM L xr W X (ctx L.T d) (.meth a m keep []) (.Call (.Attribute pa pm apos) [] [] pos) := m_meth0 S.nx S.fs T.cf T.mf S.tk he ho g5
theorem k_make (T : Tx L) {c f : Nat} {F : Fn} {x : Str} {p : Pos} (hm : L.mg x = some (.ref (L.ca c))) (hs : PMs L xr W X (ctx L.T d) (a :: es) (pa :: pes)) (hi : L.T.init c = some f := by rfl) (hF : L.T.fn f = some F := by rfl) (hg : Gl X x := by rfl)
    (g2 : (x == "__debug__") = false := by rfl) (g3 : starEach (pa :: pes) X.env = (false, eval pa X.env) :: starEach pes X.env := by rfl)
    (g4 : (backTo pos (starEach pes X.env)).any (·.1) = false := by rfl) : PM L xr W X (ctx L.T d) (.make c (a :: es)) (.Call (.Name x p) (pa :: pes) [] pos) :=
  m_make S.nx S.fs T.kf hi hF hg (by rw [S.fs.on.mg]; exact hm) hs g2 g3 g4
theorem k_make0 (T : Tx L) {c f : Nat} {F : Fn} {x : Str} {p : Pos} (hm : L.mg x = some (.ref (L.ca c))) (hi : L.T.init c = some f := by rfl) (hF : L.T.fn f = some F := by rfl) (hg : Gl X x := by rfl)
    (g2 : (x == "__debug__") = false := by rfl) : PM L xr W X (ctx L.T d) (.make c []) (.Call (.Name x p) [] [] pos) := m_make0 S.nx S.fs T.kf hi hF hg (by rw [S.fs.on.mg]; exact hm) g2
omit S in
theorem k_var (i : Nat) {x : Str} (hN : X.N[i]? = some x := by rfl) (hv : Vis X.env.scope x := by first | exact Or.inl rfl | exact Or.inr (Or.inl rfl) | exact Or.inr (Or.inr rfl)) (h1 : (x == "__debug__") = false := by rfl) (h2 : (x == "__classdict__") = false := by rfl) :
    PM L xr W X (ctx L.T d) (.var i) (.Name x pos) := m_var hN hv h1 h2
omit S in
theorem h_range1 {tg : Expr} {p : Pos} (S : Sit L d X xr W) (hm : L.mg "range" = none) (hs : PMs L xr W X (ctx L.T d) [a] [pa]) (hg : Gl X "range" := by rfl) (h1 : starEach [pa] X.env = [(false, eval pa X.env)] := by rfl) : PIm L xr W X (ctx L.T d) .range1 [a] tg (.Call (.Name "range" p) [pa] [] pos) :=
  i_range1 hg (by rw [S.fs.on.mg]; exact hm) hs h1
theorem h_range2 {tg : Expr} {p : Pos} (hm : L.mg "range" = none) (hs : PMs L xr W X (ctx L.T d) [a, b] [pa, pb]) (hg : Gl X "range" := by rfl) (h1 : starEach [pa, pb] X.env = [(false, eval pa X.env), (false, eval pb X.env)] := by rfl) (h2 : starEach [pb] X.env = [(false, eval pb X.env)] := by rfl) :
    PIm L xr W X (ctx L.T d) .range2 [a, b] tg (.Call (.Name "range" p) [pa, pb] [] pos) := i_range2 hg (by rw [S.fs.on.mg]; exact hm) hs h1 h2
theorem h_enum {elts : List Expr} {kk : Nat} {tpos p : Pos} (hm : L.mg "enumerate" = none) (hs : PMs L xr W X (ctx L.T d) [a] [pa]) (hg : Gl X "enumerate" := by rfl) (h1 : starEach [pa] X.env = [(false, eval pa X.env)] := by rfl) :
    PIm L xr W X (ctx L.T d) .enum [a] (.Tuple elts kk tpos) (.Call (.Name "enumerate" p) [pa] [] pos) := i_enum S.fs.on hg (by rw [S.fs.on.mg]; exact hm) hs h1
theorem h_val {tg : Expr} (ha : PM L xr W X (ctx L.T d) a pa) : PIm L xr W X (ctx L.T d) .val [a] tg pa := i_val S.fs.on ha
theorem k_lc {cell one : Bool} {k : IK} {tg : List Nat} {src cond : List E} {elt : E} {ptg pit pelt : Expr} {pifs : List Expr} {scope : Scope} (own : List (Str × Nat))
    (hi : PIm L xr W X (ctx L.T d) k src ptg pit) (hg : PGm L (Blks X scope) tg one ptg) (ht : ∀ h Y, Blks X scope Y → Sit L d Y (xr.with h) Wno → PMc L (xr.with h) Wno Y (ctx L.T d) cond pifs)
    (hel : ∀ h Y, Blks X scope Y → Sit L d Y (xr.with h) Wno → PM L (xr.with h) Wno Y (ctx L.T d) elt pelt) (he : own.map (fun x => x.2) = tg := by rfl) (hN : X.N.Nodup := by decide) (ok : BlkOk X.N X.env.scope scope own := by exact ⟨rfl, by decide +kernel, by decide +kernel, by decide +kernel, by decide +kernel⟩)
    (hf : ∀ x : Value, foldedSetIterable pit X.env x = pure x := by intro x; rfl) : PM L xr W X (ctx L.T d) (.lc cell elt tg one k src cond) (.ListComp pelt [⟨ptg, pit, pifs, 0⟩] scope pos) :=
  m_lc S.calm hN S.fs.on.K hi ok he hg (fun h Y hY => ht h Y hY (S.blk hY)) (fun h Y hY => hel h Y hY (S.blk hY)) hf
theorem z_for {k : IK} {tg : List Nat} {one : Bool} {ptg iter : Expr} {ss : List MP.S} {pss : List Stmt} (hi : PIm L xr W X (ctx L.T d) k es ptg iter) (hg : PGm L (· = X) tg one ptg)
    (hs : PMSs L xr W X (ctx L.T d) ss pss) (hp : PassesOwn (model X.prog X.w) X.A X.env X.xe := by exact passes_of rfl) (hf : ∀ x : Value, foldedSetIterable iter X.env x = pure x := by intro x; rfl) : PMS L xr W X (ctx L.T d) (.forr tg one k es ss) (.For ptg iter pss [] pos) :=
  s_for hp S.calm S.fs.on.K hi hg hs hf
omit S in
theorem z_asg {i : Nat} {x : Str} {p2 : Pos} (ha : PM L xr W X (ctx L.T d) a pa) (hN : X.N.Nodup := by decide) (hi : X.N[i]? = some x := by rfl) (hx : L2.Loc X.env.scope x := by first | exact Or.inl rfl | exact Or.inr rfl) (hs : swapsWith pa (some (.Name x p2)) pos.line X.env = pure false := by rfl)
    (hf : X.fn x = true ∨ X.env.scope.names.lookup x = some .local := by exact Or.inl rfl) : PMS L xr W X (ctx L.T d) (.asg i a) (.Assign [.Name x p2] pa pos) := s_asg ha hN hi hx hs hf
theorem z_asgT {tg : List Nat} {ptg : Expr} (hg : PGm L (· = X) tg false ptg) (ha : PM L xr W X (ctx L.T d) a pa) (h1 : swapsWithSole [ptg] pa pos.line X.env = pure false := by rfl) (h2 : swappedStores [ptg] pa X.env = pure none := by rfl)
    (h3 : (assignEach [ptg] X.env).map (fun x => x.2) = [assign ptg X.env] := by rfl) : PMS L xr W X (ctx L.T d) (.asgT tg a) (.Assign [ptg] pa pos) := s_asgT hg S.fs.on.K ha h1 h2 h3
theorem z_asgP2 {i j : Nat} {x y : Str} {px py pt : Pos} {kt k2 : Nat} {pt2 : Pos} (hs : PMs L xr W X (ctx L.T d) [a, b] [pa, pb]) (hN : X.N.Nodup := by decide) (hi : X.N[i]? = some x := by rfl) (hj : X.N[j]? = some y := by rfl) (hij : i ≠ j := by decide) (hx : X.env.scope.names.lookup x = some .local := by rfl)
    (hy : X.env.scope.names.lookup y = some .local := by rfl) (hw : swappedStores [.Tuple [.Name x px, .Name y py] kt pt] (.Tuple [pa, pb] k2 pt2) X.env = pure (some [x, y]) := by rfl)
    (h1 : swapsWithSole [.Tuple [.Name x px, .Name y py] kt pt] (.Tuple [pa, pb] k2 pt2) pos.line X.env = pure false := by rfl) : PMS L xr W X (ctx L.T d) (.asgP [i, j] [a, b]) (.Assign [.Tuple [.Name x px, .Name y py] kt pt] (.Tuple [pa, pb] k2 pt2) pos) :=
  s_asgP2 S.calm hN hi hj hij hx hy hs hw h1
theorem z_asgA (T : Tx L) {f : Nat} {pf : Str} {p2 : Pos} (ha : PM L xr W X (ctx L.T d) a pa) (hb : PM L xr W X (ctx L.T d) b pb) (hf : L.okF f = true := by rfl) (he : pf = L.fl f := by rfl) (hs : swapsWith pb (some (.Attribute pa pf p2)) pos.line X.env = pure false := by rfl) :
    PMS L xr W X (ctx L.T d) (.asgA a f b) (.Assign [.Attribute pa pf p2] pb pos) := s_asgA S.fs.on T.cf ha hb hf he hs
theorem z_asgI {p2 : Pos} (ha : PM L xr W X (ctx L.T d) a pa) (hb : PM L xr W X (ctx L.T d) b pb) (hc : PM L xr W X (ctx L.T d) c pc)
    (h0 : ∀ (v : Value), assign (.Subscript pa pb p2) X.env v = (do
      let ov ← holding [v] (eval pa X.env)
      let iv ← holding [v, ov] (eval pb X.env)
      standAt p2
      holding [v, ov, iv] (setItem ov iv v)
      release [v, ov, iv] []) := by intro v; rfl)
    (h1 : swapsWithSole [.Subscript pa pb p2] pc pos.line X.env = pure false := by rfl) (h2 : swappedStores [.Subscript pa pb p2] pc X.env = pure none := by rfl)
    (h3 : (assignEach [.Subscript pa pb p2] X.env).map (fun x => x.2) = [assign (.Subscript pa pb p2) X.env] := by rfl) :
    PMS L xr W X (ctx L.T d) (.asgI a b c) (.Assign [.Subscript pa pb p2] pc pos) := s_asgI S.u1 ha hb hc h0 h1 h2 h3
end
/-! calls, by depth -/
theorem fn_step {L : Lk} {base : Heap} {d f : Nat} {F : Fn} {x qual : Str} {params : Arguments} {body : List Stmt} {scope : Scope} {dvs : List V} {kws : List (Str × V)} {N : List Str} (T : Tx L) (hF : L.T.fn f = some F)
    (D : FunD L.K x qual params body scope dvs kws (L.fa f) (L.fd f)) (sc : FnScope N (L.ps f) scope) (hN : N.length = F.ns) (hnp : (L.ps f).length = F.np) (hs : F.np ≤ F.ns)
    (ok : ∀ f F, L.T.fn f = some F → FnOk L.P L.w L.K L.mg base (CX L.P L.w) (2 * d + 1) (L.fa f) (L.fd f) (L.ps f) (spF L L.T d f)) (bi : ∀ f F, L.T.fn f = some F → Binds L.K (L.fd f) (L.ps f) [])
    (hb : ∀ (cdv : Value) (A : Around) (outer : List PySem.Env) (s : Shared) (H : Hp) (E : XK) (xr : XR) (W : WX), Sit L d (cxOf (CX L.P L.w) L.P L.w L.K L.mg base N qual scope (L.fa f) cdv A outer s H E) xr W →
      PMSs L xr W (cxOf (CX L.P L.w) L.P L.w L.K L.mg base N qual scope (L.fa f) cdv A outer s H E) (ctx L.T d) F.body body) :
    FnOk L.P L.w L.K L.mg base (CX L.P L.w) (2 * (d + 1) + 1) (L.fa f) (L.fd f) (L.ps f) (spF L L.T (d + 1) f) := by
  refine D.ok (k := 2 * d + 2) sc (fun vs H Q E ⟨_, _, _, _, _, _, h, _⟩ => h) fun cdv A outer s H vs Q E hr ⟨xr, bar, al, st, ds, nx, hl, S, r, q⟩ => ?_
  refine ⟨_, hb cdv A outer s H E xr (fun cls dd _ H => E cls dd H) ⟨⟨⟨rfl, rfl, rfl, rfl⟩, hr, T.np, ok, bi⟩, nx, takes_of rfl rfl rfl rfl, rfl⟩, ?_⟩
  have hdl : ds.length = F.np := call_len hF q
  refine ⟨bar, al, ds.map some ++ List.replicate (F.ns - F.np) none, st, ?_, S, ?_⟩
  · refine ⟨?_, fun i e he => ?_⟩
    · unfold L2.start
      simp only [List.length_append, List.length_map, List.length_replicate, hN, r.length, hdl]
    · by_cases hi : i < ds.length
      · rw [List.getElem?_append_left (by simpa using hi), List.getElem?_map] at he
        obtain ⟨d', h1, h2⟩ := Option.map_eq_some_iff.mp he
        cases h2
        obtain ⟨v, h3, h4⟩ := r.get h1
        refine ⟨v, ?_, h4⟩
        unfold L2.start
        rw [List.getElem?_append_left (by simpa [r.length] using hi), List.getElem?_map, h3]
        rfl
      · rw [List.getElem?_append_right (by simpa using hi)] at he
        rw [List.getElem?_replicate] at he
        split at he <;> cases he
  · simp only [MP.call, hF, if_pos hdl] at q
    cases hx : exSs (ctx L.T d) bar F.body (ds.map some ++ List.replicate (F.ns - F.np) none) st with
    | bad => rw [hx] at q; exact q
    | exn c p env st1 =>
      rw [hx] at q
      exact fun cls dd σ' al' H' x s e h => q cls dd al' H' x s h
    | ok fl st1 =>
      rw [hx] at q
      cases fl with
      | nx env => exact fun σ' al' H' x s e => q _ al' H' x s .non
      | rt dd => exact fun v al' H' x s e => q v al' H' x s e
end MP

/-! MpS: zip over lists, tuples, texts. -/
namespace MP
open PySem PySem.Spec PyProof.Rows L2
theorem drawsTuple {prog : Program} {w : World} {A : Around} (hh : A.handled = none) (it l : Addr) (hl : l ≠ it) (items : Array Value) :
    Draws prog w A it [it, l] items.size (fun i v => items[i]? = some v) fun i h => h.IsTupleIter it l i ∧ h.IsTuple l items := by
  refine ⟨fun i h ⟨⟨o, ho, _⟩, _⟩ => ⟨o, ho⟩, fun i h h' ⟨⟨o, h1, h2⟩, ⟨o2, h3, h4⟩⟩ hk => ⟨⟨o, hk it (by simp) o h1, h2⟩, ⟨o2, hk l (by simp) o2 h3, h4⟩⟩, fun i s Q E hi ⟨h1, h2⟩ k => ?_, fun s Q E ⟨h1, h2⟩ k => ?_⟩
  · refine RZ.nextOf_tuple_item h1 h2 (Array.getElem?_eq_getElem hi) fun h' h3 h4 => k _ h' _ (Array.getElem?_eq_getElem hi) ⟨h3, ?_⟩ h4
    obtain ⟨o2, g1, g2⟩ := h2
    exact ⟨o2, (h4.2 l hl).trans g1, g2⟩
  · exact RZ.nextOf_tuple_end hh h1 h2 (by simp) k
/-- an iterator upon a value -/
def ItS (ty : String) (v : Value) (it : Addr) (i : Nat) (h : Heap) : Prop := ∃ o, h.get? it = some o ∧ o.cls = Value.type ty ∧ o.data = Data.fields #[v, Value.int (i : Int) 0]
inductive KI | lst | tup | asc | wide
def itTy : KI → String
  | .lst => "list_iterator" | .tup => "tuple_iterator" | .asc => "str_ascii_iterator" | .wide => "str_iterator"
/-- what is walked, its kind, its items -/
inductive SrcK (K : PySem.W.Frag) (H : Hp) : KI → V → Value → List V → Prop
  | lst (b : Addr) (xs : List V) : SqL K H b xs → SrcK K H .lst (.ref b) (.ref b) xs
  | tup (b : Addr) (xs : List V) : SqT K H b xs → SrcK K H .tup (.ref b) (.ref b) xs
  | asc (z : Str) (t : Tok) : (z.cps.all fun c => decide (c < 128)) = true → SrcK K H .asc (.str z) (.str z t) (z.cps.toList.map fun c => V.str ⟨#[c]⟩)
  | wide (z : Str) (t : Tok) : (z.cps.all fun c => decide (c < 128)) = false → SrcK K H .wide (.str z) (.str z t) (z.cps.toList.map fun c => V.str ⟨#[c]⟩)
section
variable {X : Cx} {pins : List (Addr × Obj)} {σ : L2.St} {H : Hp} {s : Shared} {ty : KI} {x : V} {v : Value} {xs ys : List V}
theorem SrcK.inj (I : L2.Inv X pins σ H s) (a : SrcK X.K H ty x v xs) (b : SrcK X.K H ty x v ys) : xs = ys := by
  cases a with
  | lst _ _ h => cases b with | lst _ _ h' => exact I.list_inj h h'
  | tup _ _ h => cases b with | tup _ _ h' => exact I.tuple_inj h h'
  | asc => cases b; rfl
  | wide => cases b; rfl
theorem SrcK.lt (I : L2.Inv X pins σ H s) (a : SrcK X.K H ty x v xs) : ∀ b, x = .ref b → b < s.heap.objs.size := by
  intro b e
  cases a with
  | lst _ _ h =>
    cases e
    obtain ⟨its, _, h2, _⟩ := I.list h
    exact h2.lt
  | tup _ _ h =>
    cases e
    obtain ⟨its, _, ⟨o, h2, _⟩, _⟩ := I.tuple h
    exact Heap.lt_size h2
  | asc => cases e
  | wide => cases e
theorem vals_at : ∀ {vs : List V} {us : List Value}, Vals vs us → ∀ (i : Nat) (u : Value), us[i]? = some u → ∃ y, vs[i]? = some y ∧ RelV y u
  | _, _, .nil, i, u, e => by simp at e
  | _, _, .cons r t, 0, u, e => by simp at e; subst e; exact ⟨_, rfl, r⟩
  | _, _, .cons r t, i + 1, u, e => by
    obtain ⟨y, h1, h2⟩ := vals_at t i u (by simpa using e)
    exact ⟨y, by simpa using h1, h2⟩
theorem vals_len {vs : List V} {us : List Value} (h : Vals vs us) : vs.length = us.length := by
  induction h with
  | nil => rfl
  | cons _ _ ih => simp [ih]
theorem src_draws (I : L2.Inv X pins σ H s) (hh : X.A.handled = none) (k : SrcK X.K H ty x v xs) (it : Addr) (hb : ∀ b, x = .ref b → b ≠ it) : ∃ (n : Nat) (fp : List Addr) (P : Nat → Value → Prop) (St : Nat → Heap → Prop), Draws X.prog X.w X.A.in1 it fp n P St ∧ n = xs.length ∧
    (∀ i, ItS (itTy ty) v it i s.heap → St i s.heap) ∧ (∀ i h, St i h → ItS (itTy ty) v it i h) ∧ (∀ i u, P i u → ∃ y, xs[i]? = some y ∧ RelV y u) ∧ it ∈ fp ∧ ∀ b ∈ fp, b = it ∨ x = .ref b := by
  have hh' : X.A.in1.handled = none := hh
  cases k with
  | lst b _ h =>
    obtain ⟨its, h1, h2, _⟩ := I.list h
    refine ⟨_, _, _, _, Draws.list hh' it b (hb b rfl) its.toArray, by rw [vals_len h1]; simp, fun i hi => ⟨hi, h2.isList⟩, fun i h z => z.1, fun i u hu => vals_at h1 i u (by simpa using hu), by simp, fun c hc => ?_⟩
    simp at hc
    exact hc.imp id fun e => by rw [e]
  | tup b _ h =>
    obtain ⟨its, h1, h2, _⟩ := I.tuple h
    refine ⟨_, _, _, _, drawsTuple hh' it b (hb b rfl) its.toArray, by rw [vals_len h1]; simp, fun i hi => ⟨hi, h2⟩, fun i h z => z.1, fun i u hu => vals_at h1 i u (by simpa using hu), by simp, fun c hc => ?_⟩
    simp at hc
    exact hc.imp id fun e => by rw [e]
  | asc z t hz =>
    refine ⟨_, _, _, _, Draws.strAscii hh' it z t, by simp, fun i hi => hi, fun i h z => z, fun i u ⟨c, t', h1, h2⟩ => ?_, by simp, fun c hc => .inl (by simpa using hc)⟩
    subst h2
    exact ⟨.str ⟨#[c]⟩, by rw [List.getElem?_map, Array.getElem?_toList, h1]; rfl, ⟨t', rfl⟩⟩
  | wide z t hz =>
    refine ⟨_, _, _, _, Draws.strWide hh' it z t, by simp, fun i hi => hi, fun i h z => z, fun i u ⟨c, t', h1, h2⟩ => ?_, by simp, fun c hc => .inl (by simpa using hc)⟩
    subst h2
    exact ⟨.str ⟨#[c]⟩, by rw [List.getElem?_map, Array.getElem?_toList, h1]; rfl, ⟨t', rfl⟩⟩
end
/-- the turns of a zip -/
def Jz (K : PySem.W.Frag) (t1 t2 : KI) (x1 x2 : V) (v1 v2 : Value) : It :=
  { go := fun i H => ∃ xs ys x y, SrcK K H t1 x1 v1 xs ∧ SrcK K H t2 x2 v2 ys ∧ xs[i]? = some x ∧ ys[i]? = some y,
    yld := fun i H v H' => ∃ T x y, v = V.ref T ∧ H T = none ∧ H' = upd H T (.tup [x, y]) ∧ (∀ xs, SrcK K H t1 x1 v1 xs → xs[i]? = some x) ∧ ∀ ys, SrcK K H t2 x2 v2 ys → ys[i]? = some y,
    stop := fun i H => ∃ xs ys, SrcK K H t1 x1 v1 xs ∧ SrcK K H t2 x2 v2 ys ∧ i = min xs.length ys.length }
/-- apart -/
structure Apt (z TI TO i1 i2 : Addr) (x1 x2 : V) : Prop where
  ne : [z, TI, TO, i1, i2].Nodup
  s1 : ∀ b, x1 = .ref b → b ∉ [z, TI, TO, i1, i2]
  s2 : ∀ b, x2 = .ref b → b ∉ [z, TI, TO, i1, i2]
theorem turn_mix {P : Program} {w : World} {K : PySem.W.Frag} {elts : List Expr} {kk : Nat} {tpos : Pos} {z TI TO i1 i2 : Addr} {t1 t2 : KI} {x1 x2 : V} {v1 v2 : Value} (ap : Apt z TI TO i1 i2 x1 x2) :
    Turn P w K (.Tuple elts kk tpos) (Jz K t1 t2 x1 x2 v1 v2) [z, TI, TO, i1, i2] z fun i h => IsZip h z TI TO Value.none ∧ IsTupOf2 h TI (Value.ref i1) (Value.ref i2) ∧ (∃ a b, IsTupOf2 h TO a b) ∧ ItS (itTy t1) v1 i1 i h ∧ ItS (itTy t2) v2 i2 i h := by
  have hne := ap.ne
  simp only [List.nodup_cons, List.mem_cons, List.not_mem_nil, or_false, not_or, List.nodup_nil, and_true, not_false_eq_true] at hne
  obtain ⟨⟨n1, n2, n3, n4⟩, ⟨n5, n6, n7⟩, ⟨n8, n9⟩, n10⟩ := hne
  have hs1 := ap.s1
  have hs2 := ap.s2
  simp only [List.mem_cons, List.not_mem_nil, or_false, not_or] at hs1 hs2
  have sep : ∀ {fp1 fp2 : List Addr}, i1 ∈ fp1 → (∀ b ∈ fp1, b = i1 ∨ x1 = .ref b) → i2 ∈ fp2 → (∀ b ∈ fp2, b = i2 ∨ x2 = .ref b) → ZipSep2 z TI TO i1 i2 fp1 fp2 := fun h1 h2 h3 h4 =>
    ⟨Ne.symm n1, Ne.symm n2, n5, n6, h1, fun h => (h2 z h).elim n3 fun e => (hs1 z e).1 rfl, fun h => (h2 TO h).elim n8 fun e => (hs1 TO e).2.2.1 rfl, n7, h3, fun h => (h4 z h).elim n4 fun e => (hs2 z e).1 rfl,
      fun h => (h4 TO h).elim n9 fun e => (hs2 TO e).2.2.1 rfl, fun h => (h4 i1 h).elim n10 fun e => (hs2 i1 e).2.2.2.1 rfl, fun h => (h2 i2 h).elim (Ne.symm n10) fun e => (hs1 i2 e).2.2.2.2 rfl⟩
  refine ⟨by simp, ?_, ?_, ?_, ?_, ?_⟩
  · intro i h ⟨h1, h2, ⟨a, b, h3⟩, ⟨o4, g1, g2, g3⟩, ⟨o5, f1, f2, f3⟩⟩ c hc
    simp only [List.mem_cons, List.not_mem_nil, or_false] at hc
    rcases hc with rfl | rfl | rfl | rfl | rfl
    · exact ⟨_, h1, fun v => by simp⟩
    · exact ⟨_, h2, fun v => by simp⟩
    · exact ⟨_, h3, fun v => by simp⟩
    · exact ⟨o4, g1, fun v => by rw [g3]; simp⟩
    · exact ⟨o5, f1, fun v => by rw [f3]; simp⟩
  · intro i h h' ⟨h1, h2, ⟨a, b, h3⟩, ⟨o4, g1, g2⟩, ⟨o5, f1, f2⟩⟩ hk
    exact ⟨hk z (by simp) _ h1, hk TI (by simp) _ h2, ⟨a, b, hk TO (by simp) _ h3⟩, ⟨o4, hk i1 (by simp) _ g1, g2⟩, ⟨o5, hk i2 (by simp) _ f1, f2⟩⟩
  · intro X hP hw hK hcalm i pins s σ H E I hfp ⟨h1, h2, h3, h4, h5⟩ ⟨xs, ys, x, y, k1, k2, e1, e2⟩
    subst hP hw hK
    have hh := I.ok.hd hcalm
    obtain ⟨m1, fp1, P1, St1, D1, l1, a1, b1, c1, d1, f1⟩ := src_draws I hh k1 i1 (fun b hb => (hs1 b hb).2.2.2.1)
    obtain ⟨m2, fp2, P2, St2, D2, l2, a2, b2, c2, d2, f2⟩ := src_draws I hh k2 i2 (fun b hb => (hs2 b hb).2.2.2.2)
    have WT := WalksT.zipD2 (sep d1 f1 d2 f2) D1 D2
    have hi1 := (List.getElem?_eq_some_iff.mp e1).1
    have hi2 := (List.getElem?_eq_some_iff.mp e2).1
    refine WT.item i s _ _ (by rw [l1, l2]; omega) ⟨h1, h2, h3, a1 i h4, a2 i h5⟩ fun T vals h' tk hPt hT hTup hMid hfr => ?_
    obtain ⟨u1, u2, p1, p2, rfl⟩ := hPt
    obtain ⟨y1, q1, r1⟩ := c1 i u1 p1
    obtain ⟨y2, q2, r2⟩ := c2 i u2 p2
    rw [e1] at q1; cases q1
    rw [e2] at q2; cases q2
    refine ⟨_, rfl, WT.go elts kk tpos i T _ _ _ hMid fun h'' hSt hfr2 => ?_⟩
    obtain ⟨g1, g2, g3, g4, g5⟩ := hSt
    have hTw := WT.apart i T _ hMid
    have hTn : H T = none := I.hok.fresh hT
    have hTup2 : PyProof.Rows.IsTup h'' T [u1, u2].toArray := by
      obtain ⟨o, o1, o2⟩ := hTup
      exact ⟨o, hfr2 T o hTw o1, o2⟩
    refine ⟨V.ref T, upd H T (.tup [x, y]), ?_, rfl, ⟨T, x, y, rfl, hTn, rfl, fun xs' k' => ?_, fun ys' k' => ?_⟩, ⟨g1, g2, g3, b1 _ _ g4, b2 _ _ g5⟩, fun b hb => ?_⟩
    · refine Inv.turnedNew (s := s) (ch := [z, TO, i1, i2]) I (fun b o hb ho => hfr2 b o hb (hfr b o hb ho)) (fun b hb => hfp b ?_) hT ?_
      · simp only [List.mem_cons, List.not_mem_nil, or_false] at hb ⊢
        rcases hb with h | h | h | h <;> simp [h]
      · unfold ObjOk
        exact ⟨of_decide_eq_true rfl, [u1, u2], .cons r1 (.cons r2 .nil), hTup2⟩
    · rw [k'.inj I k1]; exact e1
    · rw [k'.inj I k2]; exact e2
    · have hne : b ≠ T := fun e => by
        subst e
        simp only [List.mem_cons, List.not_mem_nil, or_false] at hb
        have hlt : b < s.heap.objs.size := by
          obtain ⟨o4, g1, _⟩ := h4
          obtain ⟨o5, g2, _⟩ := h5
          obtain ⟨a, b', g3⟩ := h3
          rcases hb with rfl | rfl | rfl | rfl | rfl
          · exact Heap.lt_size h1
          · exact Heap.lt_size h2
          · exact Heap.lt_size g3
          · exact Heap.lt_size g1
          · exact Heap.lt_size g2
        exact absurd hlt (Nat.not_lt.mpr hT)
      rw [upd_ne hne]
      exact (hfp b hb).1
  · intro X hP hw hK hcalm i pins s σ H E I hfp ⟨h1, h2, h3, h4, h5⟩ ⟨xs, ys, k1, k2, e⟩
    subst hP hw hK
    have hh := I.ok.hd hcalm
    obtain ⟨m1, fp1, P1, St1, D1, l1, a1, b1, c1, d1, f1⟩ := src_draws I hh k1 i1 (fun b hb => (hs1 b hb).2.2.2.1)
    obtain ⟨m2, fp2, P2, St2, D2, l2, a2, b2, c2, d2, f2⟩ := src_draws I hh k2 i2 (fun b hb => (hs2 b hb).2.2.2.2)
    have WT := WalksT.zipD2 (sep d1 f1 d2 f2) D1 D2
    rw [← l1, ← l2] at e
    subst e
    refine WT.done s _ _ ⟨h1, h2, h3, a1 _ h4, a2 _ h5⟩ fun h' tk hfr => ⟨rfl, ?_⟩
    refine Inv.turnedL (ch := [z, TO, i1, i2]) I hfr fun b hb => hfp b ?_
    simp only [List.mem_cons, List.not_mem_nil, or_false] at hb ⊢
    rcases hb with h | h | h | h <;> simp [h]
  · intro A i s Q E ⟨h1, _⟩ q
    exact wpAny_pyIter_zip h1 q
def itO (k : KI) (v : Value) : Obj := { cls := .type (itTy k), data := .fields #[v, .int 0 0] }
def ReadyI : KI → Value → Heap → Prop
  | .lst, .ref l, h => ∃ its, h.IsList l its
  | .tup, .ref l, h => ∃ its, h.IsTuple l its
  | .asc, .str z _, _ => (z.cps.all fun c => decide (c < 128)) = true
  | .wide, .str z _, _ => (z.cps.all fun c => decide (c < 128)) = false
  | _, _, _ => False
theorem ready_push {k : KI} {v : Value} {h : Heap} (o : Obj) (r : ReadyI k v h) : ReadyI k v (h.push o) := by
  cases k <;> cases v <;> first | exact False.elim r | skip
  · obtain ⟨its, o1, h1, h2⟩ := r
    exact ⟨its, o1, Heap.get?_push_of_some o h1, h2⟩
  · obtain ⟨its, h1⟩ := r
    exact ⟨its, h1.push o⟩
  · exact r
  · exact r
theorem iter_wp {prog : Program} {w : World} {A : Around} {E : Value → Shared → Prop} {s : Shared} {k : KI} {v : Value} {Q : Value → Shared → Prop} (r : ReadyI k v s.heap)
    (q : Q (.ref s.heap.objs.size) { heap := s.heap.push (itO k v), gens := s.gens, drawn := s.drawn, toks := s.toks, os := s.os }) : wpAny (model prog w) A (pyIter v) Q E s := by
  cases k <;> cases v <;> first | exact False.elim r | skip
  · obtain ⟨its, h⟩ := r
    exact wpAny_pyIter_list h q
  · obtain ⟨its, h⟩ := r
    exact wpAny_pyIter_tuple h q
  · exact wpAny_pyIter_ascii r q
  · exact wpAny_pyIter_wide r q
def zO (n : Nat) : Obj := { cls := .type "zip", data := .fields #[.none, .bool false, .bool false, .ref (n + 2), .ref (n + 3)] }
def zTI (n : Nat) : Obj := { cls := .type "tuple", data := .seq #[.ref n, .ref (n + 1)] }
def zTO : Obj := { cls := .type "tuple", data := .seq #[.none, .none] }
def zH (k1 k2 : KI) (v1 v2 : Value) (h : Heap) : Heap := ((((h.push (itO k1 v1)).push (itO k2 v2)).push (zTI h.objs.size)).push zTO).push (zO h.objs.size)
theorem meets_zipM (k1 k2 : KI) (v1 v2 : Value) : Meets (Builtin.«zip.__new__» { pos := [Value.type "zip", v1, v2] }) fun A R s => ReadyI k1 v1 s.heap ∧ ReadyI k2 v2 s.heap ∧
    R (.ok (.ret (.ref (s.heap.objs.size + 4)))) { heap := zH k1 k2 v1 v2 s.heap, gens := s.gens, drawn := s.drawn, toks := s.toks, os := s.os } := by
  refine Meets.of_wp fun prog w A R s ⟨r1, r2, hR⟩ => ?_
  obtain ⟨h, g, d, t, os⟩ := s
  unfold Builtin.«zip.__new__»
  refine wpAny_bind ?_
  unfold Builtin.SmallTypes.newClass
  refine wpAny_bind (wpAny_of_eq (a := true) rfl ?_)
  simp only [Bool.not_true, Bool.false_eq_true, if_false]
  refine wpAny_bind (wpAny_of_eq sub_zip ?_)
  simp only [Bool.not_true, Bool.false_eq_true, if_false]
  refine wpAny_pure ?_
  simp only [List.length_nil, gt_iff_lt, Nat.not_lt_zero, if_false]
  refine wpAny_bind ?_
  unfold Builtin.SmallTypes.iterAll
  simp only [List.forIn_cons, List.forIn_nil]
  refine wpAny_bind (wpAny_bind ?_)
  refine wpAny_bind (wpAny_holding (iter_wp r1 ?_))
  refine wpAny_pure ?_
  refine wpAny_bind (wpAny_bind (wpAny_holding (iter_wp (ready_push _ r2) ?_)))
  refine wpAny_pure ?_
  refine wpAny_pure ?_
  refine wpAny_pure ?_
  refine wpAny_bind ?_
  have nt : ∀ {a b : Value} {h : Heap} {Q : Value → Shared → Prop} {E : Value → Shared → Prop}, Q (.ref h.objs.size) { heap := h.push { cls := .type "tuple", data := .seq #[a, b] }, gens := g, drawn := d, toks := t, os := os } →
      wpAny (model prog w) A.in1 (newTuple [a, b]) Q E { heap := h, gens := g, drawn := d, toks := t, os := os } := by
    intro a b h Q E q
    unfold newTuple newObj
    have hs : ¬ ([a, b].toArray.size > sizeLine) := by rw [sizeLine_eq]; show ¬ (2 > _); decide
    simp only [hs, if_false]
    unfold newObjAsIs
    refine wpAny_bind (wpAny_alloc' ?_)
    exact wpAny_pure q
  refine nt ?_
  refine wpAny_bind (nt ?_)
  refine wpAny_bind ?_
  unfold Builtin.SmallTypes.newRecord newObj
  have hs : ∀ a b : Value, ¬ ((Builtin.SmallTypes.ownedTupleFields ++ [Value.bool false, a, b]).toArray.size > sizeLine + 2) := fun a b => by rw [sizeLine_eq]; show ¬ (5 > _); decide
  simp only [hs, if_false]
  unfold newObjAsIs
  refine wpAny_bind (wpAny_alloc' ?_)
  refine wpAny_pure ?_
  refine wpAny_pure ⟨_, rfl, ?_⟩
  have e : ∀ (h : Heap) (o1 o2 o3 o4 : Obj), ((((h.push o1).push o2).push o3).push o4).objs.size = h.objs.size + 4 := fun h o1 o2 o3 o4 => by simp only [Heap.size_push]
  have hR' : R (.ok (.ret (.ref (h.objs.size + 4)))) { heap := zH k1 k2 v1 v2 h, gens := g, drawn := d, toks := t, os := os } := hR
  have e4 : zH k1 k2 v1 v2 h = ((((h.push (itO k1 v1)).push (itO k2 v2)).push { cls := .type "tuple", data := .seq #[.ref h.objs.size, .ref (h.push (itO k1 v1)).objs.size] }).push { cls := .type "tuple", data := .seq #[.none, .none] }).push
      { cls := .type "zip", data := .fields #[.none, .bool false, .bool false, .ref ((h.push (itO k1 v1)).push (itO k2 v2)).objs.size, .ref (((h.push (itO k1 v1)).push (itO k2 v2)).push { cls := .type "tuple", data := .seq #[.ref h.objs.size, .ref (h.push (itO k1 v1)).objs.size] }).objs.size] } := by
    unfold zH zO zTI zTO
    simp only [Heap.size_push]
  rw [e4] at hR'
  have e5 := e h (itO k1 v1) (itO k2 v2) { cls := .type "tuple", data := .seq #[.ref h.objs.size, .ref (h.push (itO k1 v1)).objs.size] } { cls := .type "tuple", data := .seq #[.none, .none] }
  rw [← e5] at hR'
  exact hR'
/-- zip is called -/
theorem call_zipM {prog : Program} {w : World} {A : Around} {E : Value → Shared → Prop} {s : Shared} {k1 k2 : KI} {v1 v2 : Value} {Q : Value → Shared → Prop} (r1 : ReadyI k1 v1 s.heap) (r2 : ReadyI k2 v2 s.heap)
    (q : Q (.ref (s.heap.objs.size + 4)) { heap := zH k1 k2 v1 v2 s.heap, gens := s.gens, drawn := s.drawn, toks := s.toks, os := s.os }) : wpAny (model prog w) A (PySem.call (.type "zip") [v1, v2]) Q E s := by
  refine callType_new F.called_zip (of_decide_eq_true rfl) (F.typeCall_zip_2 _ _) (F.newCall_zip_2 _ _) (fun obj => F.args_object_init_3 _ _ _) F.entry_zip_new (meets_zipM k1 k2 v1 v2) ⟨r1, r2, ?_, q⟩
  have e : (zH k1 k2 v1 v2 s.heap).get? (s.heap.objs.size + 4) = some (zO s.heap.objs.size) := by
    have h := Heap.get?_push_size ((((s.heap.push (itO k1 v1)).push (itO k2 v2)).push (zTI s.heap.objs.size)).push zTO) (o := zO s.heap.objs.size) rfl
    simp only [Heap.size_push] at h
    exact h
  exact ⟨_, e, rfl⟩
section
variable {L : Lk} {d : Nat} {X : Cx} {xr : XR} {W : WX} {C : Ctx} {pos : Pos} {a b c : E} {pa pb pc : Expr} {es : List E} {pes : List Expr} {pins : List (Addr × Obj)} {σ : L2.St} {H : Hp} {s : Shared} {bar : Bar} {al : List Addr} {st : Sto}
theorem SrcK.ready {k : KI} {x : V} {v : Value} {xs : List V} (I : L2.Inv X pins σ H s) (h : SrcK X.K H k x v xs) : ReadyI k v s.heap := by
  cases h with
  | lst b _ h => obtain ⟨its, _, h2, _⟩ := I.list h; exact ⟨_, h2.isList⟩
  | tup b _ h => obtain ⟨its, _, h2, _⟩ := I.tuple h; exact ⟨_, h2⟩
  | asc z t h => exact h
  | wide z t h => exact h
theorem zsrc (o : On L X) (S : StR L xr bar al H st) {x : V} {d : MP.D} {ds ys : List MP.D} (r : Rp L xr al H x d) (e : itemsV.src st d = some ds) (hm : d ∈ ys) :
    (∀ i, cellOf d = some i → i < al.length) ∧ ∃ xs, Reps L.K L.w xr al H xs ds ∧ ∀ v, RelV x v → ∃ k, SrcK X.K H k x v xs ∧ ∀ (b : Bar) al' H', Ext (walkLo b ys) al H al' H' → SrcK X.K H' k x v xs := by
  have hl : asL st d = some ds → (∀ i, cellOf d = some i → i < al.length) ∧ ∃ xs, Reps L.K L.w xr al H xs ds ∧ ∀ v, RelV x v → ∃ k, SrcK X.K H k x v xs ∧ ∀ (b : Bar) al' H', Ext (walkLo b ys) al H al' H' → SrcK X.K H' k x v xs := fun e => by
    obtain ⟨p, vs, rfl, h1, h2, h3, h4⟩ := asL_walk S r e hm
    refine ⟨h3, vs, h2, fun v rv => ?_⟩
    cases (show v = Value.ref p from rv)
    exact ⟨.lst, .lst p vs (.inl (.inl h1)), fun b al' H' x => .lst p vs (.inl (.inl (h4 b al' H' x)))⟩
  cases d with
  | tup zs =>
    simp only [itemsV.src, Option.some.injEq] at e
    subst e
    refine ⟨nofun, ?_⟩
    cases r with
    | tup h q =>
      rename_i p vs
      refine ⟨vs, q, fun v rv => ?_⟩
      cases (show v = Value.ref p from rv)
      exact ⟨.tup, .tup p vs (o.sqT h), fun b al' H' x => .tup p vs (sqT_keep o h x)⟩
  | str z =>
    simp only [itemsV.src, Option.some.injEq] at e
    subst e
    refine ⟨nofun, ?_⟩
    cases r
    refine ⟨z.cps.toList.map fun c => V.str ⟨#[c]⟩, ?_, fun v rv => ?_⟩
    · have : ∀ l : List Nat, Reps L.K L.w xr al H (l.map fun c => V.str ⟨#[c]⟩) (l.map fun c => MP.D.str (chr1 c)) := by
        intro l
        induction l with
        | nil => exact .nil
        | cons c l ih => exact .cons (.str _) ih
      exact this _
    · obtain ⟨t, rfl⟩ := rv
      cases h : z.cps.all fun c => decide (c < 128)
      · exact ⟨.wide, .wide z t h, fun _ _ _ _ => .wide z t h⟩
      · exact ⟨.asc, .asc z t h, fun _ _ _ _ => .asc z t h⟩
  | _ => exact hl e
theorem walk_zip {x1 x2 : V} {d1 d2 : MP.D} {ds1 ds2 : List MP.D} {xs ys : List V} {k1 k2 : KI} {v1 v2 : Value} (hc1 : ∀ i, cellOf d1 = some i → i < al.length) (hc2 : ∀ i, cellOf d2 = some i → i < al.length)
    (r1 : Reps L.K L.w xr al H xs ds1) (r2 : Reps L.K L.w xr al H ys ds2) (g1 : ∀ (b : Bar) al' H', Ext (walkLo b [d1, d2]) al H al' H' → SrcK X.K H' k1 x1 v1 xs) (g2 : ∀ (b : Bar) al' H', Ext (walkLo b [d1, d2]) al H al' H' → SrcK X.K H' k2 x2 v2 ys) :
    Walk L xr al H (Jz X.K k1 k2 x1 x2 v1 v2) [d1, d2] (List.zipWith (fun a b => MP.D.tup [a, b]) ds1 ds2) := by
  refine ⟨fun i hi => ?_, fun b i al' H' x d' hd => ?_, fun b i al' H' x hi => ?_⟩
  · obtain ⟨z, hz, hc⟩ := List.mem_filterMap.mp hi
    simp only [List.mem_cons, List.not_mem_nil, or_false] at hz
    rcases hz with rfl | rfl
    · exact hc1 i hc
    · exact hc2 i hc
  · rw [List.getElem?_zipWith] at hd
    cases e1 : ds1[i]? with
    | none => rw [e1] at hd; simp at hd
    | some a1 =>
      cases e2 : ds2[i]? with
      | none => rw [e1, e2] at hd; simp at hd
      | some a2 =>
        rw [e1, e2] at hd
        simp only [Option.some.injEq] at hd
        subst hd
        obtain ⟨w1, f1, p1⟩ := r1.get e1
        obtain ⟨w2, f2, p2⟩ := r2.get e2
        have s1 := g1 b al' H' x
        have s2 := g2 b al' H' x
        refine ⟨⟨xs, ys, w1, w2, s1, s2, f1, f2⟩, fun v H'' hv => ?_⟩
        obtain ⟨T, u1, u2, rfl, hT, rfl, hu1, hu2⟩ := hv
        have z1 := hu1 xs s1
        have z2 := hu2 ys s2
        rw [f1] at z1; cases z1
        rw [f2] at z2; cases z2
        refine ⟨.inr ⟨T, _, hT, rfl⟩, fun xr2 bar' st' hh S' => ?_⟩
        have xn : Ext bar' al' H' al' (upd H' T (.tup [w1, w2])) := .new hT
        exact .tup (.inl ⟨.inl upd_same, S'.fr hT⟩) (.cons (((hh.rep p1).stay x.stay).stay xn.stay) (.cons (((hh.rep p2).stay x.stay).stay xn.stay) .nil))
  · refine ⟨xs, ys, g1 b al' H' x, g2 b al' H' x, ?_⟩
    rw [r1.length, r2.length, ← hi, List.length_zipWith]
theorem i_zip (o : On L X) {elts : List Expr} {kk : Nat} {tpos p : Pos} (hg : Gl X "zip") (hm : X.mg "zip" = none) (hs : PMs L xr W X C [a, b] [pa, pb]) (h1 : starEach [pa, pb] X.env = (false, eval pa X.env) :: starEach [pb] X.env)
    (h2 : (backTo pos (starEach [pb] X.env)).any (·.1) = false) : PIm L xr W X C .zip [a, b] (.Tuple elts kk tpos) (.Call (.Name "zip" p) [pa, pb] [] pos) := by
  refine ⟨fun pins s σ H R I ⟨bar, al, env, st, E, S, q⟩ => ?_⟩
  refine Call_ (ld_blt I hg hm boot_zip (callWith_type1 (thn (hs.run pos pins s σ H (fun vs H1 => ∃ x1 x2, vs = [x1, x2] ∧ ∀ v1 v2, RelV x1 v1 → RelV x2 v2 → ∃ k1 k2 xs ys, SrcK X.K H1 k1 x1 v1 xs ∧ SrcK X.K H1 k2 x2 v2 ys ∧ R (Jz X.K k1 k2 x1 x2 v1 v2) H1) I
    ⟨bar, al, env, st, E, S, Post.bind q fun ds st1 vs al1 H1 x1 S1 p1 q1 => ?_⟩) fun us s1 ⟨vs, H1, I1, r1, x1, x2, evs, hk⟩ => ?_) h1 h2))
  · rcases ds with _ | ⟨d1, _ | ⟨d2, _ | ⟨_, _⟩⟩⟩
    · exact False.elim q1
    · exact False.elim (by cases d1 <;> exact q1)
    rotate_left
    · exact False.elim (by cases d1 <;> first | exact q1 | (cases d2 <;> exact q1))
    cases p1 with
    | cons p1 p2 =>
      cases p2 with
      | cons p2 p3 =>
        cases p3
        refine ⟨_, _, rfl, fun v1 v2 rv1 rv2 => ?_⟩
        cases e1 : itemsV.src st1 d1 with
        | none => simp only [itemsV, e1] at q1; exact False.elim q1
        | some ds1 =>
          cases e2 : itemsV.src st1 d2 with
          | none => simp only [itemsV, e1, e2] at q1; exact False.elim q1
          | some ds2 =>
            simp only [itemsV, e1, e2] at q1
            obtain ⟨hc1, xs, rr1, f1⟩ := zsrc o S1 p1 e1 (ys := [d1, d2]) (by simp)
            obtain ⟨hc2, ys, rr2, f2⟩ := zsrc o S1 p2 e2 (ys := [d1, d2]) (by simp)
            obtain ⟨k1, s1, g1⟩ := f1 v1 rv1
            obtain ⟨k2, s2, g2⟩ := f2 v2 rv2
            exact ⟨k1, k2, xs, ys, s1, s2, q1 _ al1 H1 .refl S1 (walk_zip hc1 hc2 rr1 rr2 g1 g2)⟩
  · subst evs
    cases r1 with
    | cons rv1 rr =>
      cases rr with
      | cons rv2 rr =>
        cases rr
        rename_i v1 v2 _
        obtain ⟨k1, k2, xs, ys, s1', s2', hR⟩ := hk v1 v2 rv1 rv2
        refine call_zipM (s1'.ready I1) (s2'.ready I1) ?_
        have l1 := s1'.lt I1
        have l2 := s2'.lt I1
        generalize hn : s1.heap.objs.size = n at l1 l2 ⊢
        have p1 : ∀ (h : Heap) (o : Obj) (m : Nat), h.objs.size = m → o.isFreed = false → (h.push o).get? m = some o := fun h o m e f => by rw [← e]; exact Heap.get?_push_size h f
        have q1 : (s1.heap.push (itO k1 v1)).objs.size = n + 1 := by rw [Heap.size_push, hn]
        have q2 : ((s1.heap.push (itO k1 v1)).push (itO k2 v2)).objs.size = n + 2 := by rw [Heap.size_push, q1]
        have q3 : (((s1.heap.push (itO k1 v1)).push (itO k2 v2)).push (zTI s1.heap.objs.size)).objs.size = n + 3 := by rw [Heap.size_push, q2]
        have q4 : ((((s1.heap.push (itO k1 v1)).push (itO k2 v2)).push (zTI s1.heap.objs.size)).push zTO).objs.size = n + 4 := by rw [Heap.size_push, q3]
        have g0 := Heap.get?_push_of_some (zO s1.heap.objs.size) (Heap.get?_push_of_some zTO (Heap.get?_push_of_some (zTI s1.heap.objs.size) (Heap.get?_push_of_some (itO k2 v2) (p1 s1.heap (itO k1 v1) n hn rfl))))
        have g1 := Heap.get?_push_of_some (zO s1.heap.objs.size) (Heap.get?_push_of_some zTO (Heap.get?_push_of_some (zTI s1.heap.objs.size) (p1 _ (itO k2 v2) _ q1 rfl)))
        have g2 := Heap.get?_push_of_some (zO s1.heap.objs.size) (Heap.get?_push_of_some zTO (p1 _ (zTI s1.heap.objs.size) _ q2 rfl))
        have g3 := Heap.get?_push_of_some (zO s1.heap.objs.size) (p1 _ zTO _ q3 rfl)
        have g4 := p1 _ (zO s1.heap.objs.size) _ q4 rfl
        rw [hn] at g0 g1 g2 g3 g4
        have hH : zH k1 k2 v1 v2 s1.heap = ((((s1.heap.push (itO k1 v1)).push (itO k2 v2)).push (zTI n)).push zTO).push (zO n) := by unfold zH; rw [hn]
        rw [hH]
        refine wpAny_pyIter_zip (TI := n + 2) (TO := n + 3) (f0 := .none) g4 ?_
        refine ⟨n + 4, [n + 4, n + 2, n + 3, n, n + 1], _, _, H1, rfl, I1.kept fun b u hb => ?_, turn_mix (t1 := k1) (t2 := k2) ⟨?_, ?_, ?_⟩, ⟨g4, g2, ⟨_, _, g3⟩, ⟨_, g0, rfl, rfl⟩, ⟨_, g1, rfl, rfl⟩⟩, fun b hb => ?_, hR⟩
        · exact Heap.get?_push_of_some _ (Heap.get?_push_of_some _ (Heap.get?_push_of_some _ (Heap.get?_push_of_some _ (Heap.get?_push_of_some _ hb))))
        · simp
        · intro b hb hm
          have hb' : n ≤ b := by
            simp only [List.mem_cons, List.not_mem_nil, or_false] at hm
            rcases hm with e | e | e | e | e <;> rw [e] <;> first | exact Nat.le_add_right _ _ | exact Nat.le_refl _
          exact absurd (l1 b hb) (Nat.not_lt.mpr hb')
        · intro b hb hm
          have hb' : n ≤ b := by
            simp only [List.mem_cons, List.not_mem_nil, or_false] at hm
            rcases hm with e | e | e | e | e <;> rw [e] <;> first | exact Nat.le_add_right _ _ | exact Nat.le_refl _
          exact absurd (l2 b hb) (Nat.not_lt.mpr hb')
        · have hb' : n ≤ b := by
            simp only [List.mem_cons, List.not_mem_nil, or_false] at hb
            rcases hb with e | e | e | e | e <;> rw [e] <;> first | exact Nat.le_add_right _ _ | exact Nat.le_refl _
          exact I1.fpOk (by rw [hn]; exact hb') (I1.hok.fresh (by rw [hn]; exact hb'))
theorem h_zip (S : Sit L d X xr W) {elts : List Expr} {kk : Nat} {tpos p : Pos} (hm : L.mg "zip" = none) (hs : PMs L xr W X (ctx L.T d) [a, b] [pa, pb]) (hg : Gl X "zip" := by rfl) (h1 : starEach [pa, pb] X.env = (false, eval pa X.env) :: starEach [pb] X.env := by rfl)
    (h2 : (backTo pos (starEach [pb] X.env)).any (·.1) = false := by rfl) : PIm L xr W X (ctx L.T d) .zip [a, b] (.Tuple elts kk tpos) (.Call (.Name "zip" p) [pa, pb] [] pos) :=
  i_zip S.fs.on hg (by rw [S.fs.on.mg]; exact hm) hs h1 h2
end
end MP

/-! MpT: the end: from the head's facts to the law. -/
namespace MP
open PySem PySem.Spec PyProof.Rows L2
/-- the function that stands at an address -/
def fdOf (K : PySem.W.Frag) (f : Addr) : FuncData := match K.lookup f with
  | some ⟨_, _, .func fd, _⟩ => fd
  | _ => PySem.W.fnOf Str.empty Str.empty ⟨[], [], none, [], [], none, []⟩ [] { kind := .function, names := [], isGenerator := false, isCoroutine := false } .none .none .none .none none .none .none
theorem fdOf_eq {K : PySem.W.Frag} {x qual : Str} {params : Arguments} {body : List Stmt} {scope : Scope} {dvs : List V} {kws : List (Str × V)} {f : Addr} {fd : FuncData} (F : FunD K x qual params body scope dvs kws f fd) : FunD K x qual params body scope dvs kws f (fdOf K f) := by
  obtain ⟨oc, od, dV, kV, doc, pm, an, cdv, ct, osl, h1, h2, _⟩ := F.ex
  have e : fdOf K f = fd := by unfold fdOf; rw [h2]
  rw [e]; exact F
theorem fn_zero {L : Lk} {base : Heap} {f : Nat} : FnOk L.P L.w L.K L.mg base (CX L.P L.w) 1 (L.fa f) (L.fd f) (L.ps f) (spF L L.T 0 f) :=
  ⟨fun vs H Q E ⟨_, _, _, _, _, _, h, _⟩ => h, fun A outer s H args us vs Q E _ _ _ _ ⟨_, _, _, _, _, _, _, _, _, q⟩ => False.elim q⟩
/-- a written dict's entries, one by one -/
def entB (K : PySem.W.Frag) : List DictEntry → List (Str × He.Dv) → Bool
  | [], [] => true
  | e :: es, q :: qs => (match e.key with
    | .str x _ => decide (x = q.1)
    | _ => false) && He.relB (He.Dv.v K q.2) e.val && entB K es qs
  | _, _ => false
def dkB (K : PySem.W.Frag) (a : Addr) (kvs : List (Str × He.Dv)) : Bool := match K.lookup a with
  | some ⟨_, _, .dict es _, _⟩ => entB K es.toList kvs
  | _ => false
theorem entB_ok {K : PySem.W.Frag} (z : Str) : ∀ {es : List DictEntry} {kvs : List (Str × He.Dv)}, entB K es kvs = true → (es.any fun x => x.refKey) = false ∧
    ∃ r, (es.find? fun x => x.key.isStr z).map (·.val) = r ∧ RelO (valV (kvs.map fun q => ((Sum.inr q.1 : Key), He.Dv.v K q.2)) (Sum.inr z)) r
  | [], [], _ => ⟨rfl, none, rfl, trivial⟩
  | e :: es, q :: qs, h => by
    unfold entB at h
    rw [Bool.and_eq_true, Bool.and_eq_true] at h
    obtain ⟨⟨h1, h2⟩, h3⟩ := h
    obtain ⟨i1, r, i2, i3⟩ := entB_ok z h3
    obtain ⟨hs, key, val⟩ := e
    cases key <;> simp only at h1 <;> first | (exact absurd h1 (by decide)) | skip
    rename_i x t
    have h1 := of_decide_eq_true h1
    subst h1
    refine ⟨by rw [List.any_cons, i1]; rfl, ?_⟩
    by_cases hz : q.1 = z
    · refine ⟨some val, ?_, ?_⟩
      · rw [List.find?_cons_of_pos (by subst hz; simp [Value.isStr])]; rfl
      · rw [List.map_cons]
        have : valV (((Sum.inr q.1 : Key), He.Dv.v K q.2) :: qs.map fun q => ((Sum.inr q.1 : Key), He.Dv.v K q.2)) (Sum.inr z) = some (He.Dv.v K q.2) := by
          unfold valV
          rw [List.find?_cons_of_pos (by simp [hz])]; rfl
        rw [this]
        exact He.relB_ok h2
    · refine ⟨r, ?_, ?_⟩
      · rw [List.find?_cons_of_neg (by simp [Value.isStr, hz])]; exact i2
      · rw [List.map_cons, valV_neg (by simpa using hz)]; exact i3
theorem kdic_of {K : PySem.W.Frag} {w : World} {a : Addr} {kvs : List (Str × He.Dv)} {ds : List (Key × D)} (hd : ∃ es n, KDict K w a es n) (hv : dkB K a kvs = true)
    (hr : ∀ xr al H, RepK K w xr al H (kvs.map fun q => ((Sum.inr q.1 : Key), He.Dv.v K q.2)) ds) : ∀ xr al H, Rep K w xr al H (.ref a) (.kdc ds) := by
  obtain ⟨es, n, hd⟩ := hd
  intro xr al H
  refine .kdc ⟨es, n, hd, fun p hp => ?_, fun z => ?_⟩ (hr xr al H)
  · obtain ⟨q, _, rfl⟩ := List.mem_map.mp hp
    exact ⟨q.1, rfl⟩
  · unfold dkB at hv
    rw [hd.at_] at hv
    obtain ⟨h1, r, h2, h3⟩ := entB_ok z hv
    refine ⟨r, ?_, h3⟩
    unfold PySem.W.nsIn
    rw [hd.at_]
    simp only
    cases hf : es.toList.find? (fun x => x.key.isStr z) with
    | none =>
      rw [hf] at h2
      simp only [Option.map_none] at h2
      subst h2
      simp only [h1, Bool.false_eq_true, if_false]
    | some e =>
      rw [hf] at h2
      simp only [Option.map_some] at h2
      subst h2
      rfl
/-- exceptions that leave, of any program -/
def CXA : CXT := fun outer H s E e s' => ∃ P w, L2.CX P w outer H s E e s'
theorem FnOk.all {P : Program} {w : World} {K : PySem.W.Frag} {mg : Str → Option Value} {base : Heap} {k : Nat} {f : Addr} {fd : FuncData} {ps : List Str} {sp : Sp} (F : FnOk P w K mg base (CX P w) k f fd ps sp) : FnOk P w K mg base CXA k f fd ps sp :=
  ⟨F.len, fun A outer s H args us vs Q E hr he hb hv h => codeAny_mono (F.run A outer s H args us vs Q E hr he hb hv h) fun r s' z => by
    rcases r with e | fl
    · exact ⟨P, w, z⟩
    · cases fl <;> exact z⟩
/-- the law's call -/
theorem law_sp {L : Lk} {d f : Nat} (hp : (L.ps f).length = 1) (hm : ∀ ns : List Int, ns.length ≤ 63 → ∃ st, MP.call L.T d f ⟨0, []⟩ [.scr (ns.map D.int)] [] = .ok (.bl true) st)
    (H : Hp) (a : Addr) (ns : List Int) (hl : ns.length ≤ 63) (hs : SqL L.K H a (ns.map V.int)) : spF L L.T d f [V.ref a] H (fun v _ => v = .bl true) fun _ _ _ => False := by
  obtain ⟨st, e⟩ := hm ns hl
  have hr : ∀ ns : List Int, Reps L.K L.w ⟨fun _ _ _ => False, fun _ => False⟩ [] H (ns.map V.int) (ns.map D.int) := by
    intro ns
    induction ns with
    | nil => exact .nil
    | cons n ns ih => exact .cons (.int n) ih
  refine ⟨⟨fun _ _ _ => False, fun _ => False⟩, ⟨0, []⟩, [], [], _, fun _ _ _ h => h, by rw [hp]; rfl, ⟨rfl, List.nodup_nil, fun i c p e => by simp at e, fun _ h => h.elim⟩, .cons (.scr (hs.elim (fun z => .inl ⟨z, fun h => (nomatch h), fun h => h⟩) .inr) (hr ns)) .nil, ?_⟩
  rw [e]
  intro v al' H' x S r
  cases r
  rfl
end MP

/-! MpU: the interpreter's runs, in plain steps. -/
namespace MP
open PySem
theorem get_end (st : Sto) (c : Cell) : (st ++ [c])[st.length]? = some c := by simp
theorem set_end (st : Sto) (c c' : Cell) : (st ++ [c]).set st.length c' = st ++ [c'] := by simp
theorem can_end (st : Sto) : (shutBar st).can st.length = true := by simp [Bar.can]
theorem bind_ok {α β : Type} (a : α) (st : Sto) (k : α → Sto → Res β) : (Res.ok a st).bind k = k a st := rfl
theorem of_ok {α : Type} (env : Env) (a : α) (st : Sto) (k : α → Sto → SR) : SR.of env (.ok a st) k = k a st := rfl
theorem seq_nx (env : Env) (st : Sto) (k : Env → Sto → SR) : (SR.ok (.nx env) st).seq k = k env st := rfl
theorem seq_rt (x : D) (st : Sto) (k : Env → Sto → SR) : (SR.ok (.rt x) st).seq k = .ok (.rt x) st := rfl
theorem asB_ok (b : Bool) (st : Sto) : asB (.bl b) st = .ok b st := rfl
theorem opt_some (st : Sto) (d : D) : opt st (some d) = .ok d st := rfl
/-! comparisons -/
section
variable (st : Sto) (a b : Str) (i j : Int)
theorem eq_ss : cmpV st .eq (.str a) (.str b) = .ok (.bl (decide (a = b))) st := rfl
theorem ne_ss : cmpV st .ne (.str a) (.str b) = .ok (.bl (!decide (a = b))) st := rfl
theorem eq_is : cmpV st .eq (.int i) (.str b) = .ok (.bl false) st := rfl
theorem ne_is : cmpV st .ne (.int i) (.str b) = .ok (.bl true) st := rfl
theorem eq_bb {a b : Bool} : cmpV st .eq (.bl a) (.bl b) = .ok (.bl (decide (a = b))) st := rfl
theorem ne_bb {a b : Bool} : cmpV st .ne (.bl a) (.bl b) = .ok (.bl (!decide (a = b))) st := rfl
theorem eq_ii : cmpV st .eq (.int i) (.int j) = .ok (.bl (decide (i = j))) st := rfl
theorem ne_ii : cmpV st .ne (.int i) (.int j) = .ok (.bl (!decide (i = j))) st := rfl
theorem lt_ii : cmpV st .lt (.int i) (.int j) = .ok (.bl (decide (i < j))) st := rfl
theorem le_ii : cmpV st .le (.int i) (.int j) = .ok (.bl (decide (i ≤ j))) st := rfl
theorem gt_ii : cmpV st .gt (.int i) (.int j) = .ok (.bl (decide (j < i))) st := rfl
theorem ge_ii : cmpV st .ge (.int i) (.int j) = .ok (.bl (decide (j ≤ i))) st := rfl
/-! operators -/
theorem add_ii : opV st .add (.int i) (.int j) = .ok (.int (i + j)) st := rfl
theorem sub_ii : opV st .sub (.int i) (.int j) = .ok (.int (i - j)) st := rfl
theorem big_of {i : Int} (h : i.natAbs < 2 ^ 200) : decide (i.natAbs < BIG) = true := by
  refine decide_eq_true ?_
  unfold BIG
  exact Nat.lt_of_lt_of_le h (Nat.pow_le_pow_right (by decide) (by decide))
theorem big2_of {i : Int} (h : i.natAbs < 2 ^ 200) : decide (i.natAbs < BIG2) = true := by
  refine decide_eq_true ?_
  unfold BIG2
  exact Nat.lt_of_lt_of_le h (Nat.pow_le_pow_right (by decide) (by decide))
theorem mul_ii {i j : Int} (h1 : i.natAbs < 2 ^ 200) (h2 : j.natAbs < 2 ^ 200) : opV st .mul (.int i) (.int j) = .ok (.int (i * j)) st := by
  show (if mulOk i j = true then _ else _) = _
  unfold mulOk
  rw [big_of h1, big_of h2]; rfl
theorem mod_ii {i j : Int} (h : 0 < j) : opV st .mod (.int i) (.int j) = .ok (.int (i % j)) st := by
  show (if decide (0 < j) = true then _ else _) = _
  rw [decide_eq_true h]; rfl
theorem fdiv_ii {i j : Int} (h : 0 < j) (h2 : j.natAbs < 2 ^ 200) : opV st .fdiv (.int i) (.int j) = .ok (.int (i / j)) st := by
  show (if divOk j = true then _ else _) = _
  unfold divOk
  rw [decide_eq_true h, big2_of h2]; rfl
theorem pow_ii {i j : Int} (h : 0 ≤ j) (h1 : j ≤ 1000000) (h2 : i.natAbs < 2 ^ 62) : opV st .pow (.int i) (.int j) = .ok (.int (i ^ j.toNat)) st := by
  show (if powOk i j = true then _ else _) = _
  unfold powOk W64
  rw [decide_eq_true h, decide_eq_true h1, decide_eq_true h2]; rfl
theorem add_ss {a b : Str} (h : a.length + b.length ≤ 16777216) : opV st .add (.str a) (.str b) = .ok (.str (a ++ b)) st := by
  show (if decide (a.length + b.length ≤ LIM) = true then _ else _) = _
  rw [decide_eq_true (p := a.length + b.length ≤ LIM) h]; rfl
theorem add_ll {xs ys : List D} (h : xs.length + ys.length ≤ 16777216) : opV st .add (.lst xs) (.lst ys) = .ok (.lst (xs ++ ys)) st := by
  show (if decide (xs.length + ys.length ≤ LIM) = true then _ else _) = _
  rw [decide_eq_true (p := xs.length + ys.length ≤ LIM) h]; rfl
/-! built-ins -/
theorem str_i {c : Bool} {i : Int} (h : i.natAbs < 2 ^ 200) : bfV st .str c [.int i] = .ok (.str (strOf i)) st := by
  have : i.natAbs.log2 < 1920 := PySem.Flt.log2_lt_of (by decide) (Nat.lt_of_lt_of_le h (Nat.pow_le_pow_right (by decide) (by decide)))
  show (if decide (i.natAbs.log2 < 1920) = true then _ else _) = _
  rw [decide_eq_true this]; rfl
theorem str_s {c : Bool} : bfV st .str c [.str a] = .ok (.str a) st := rfl
theorem len_s {c : Bool} {a : Str} (h : a.length ≤ 16777216) : bfV st .len c [.str a] = .ok (.int a.length) st := by
  show (if decide (a.length ≤ LIM) = true then _ else _) = _
  rw [decide_eq_true (p := a.length ≤ LIM) h]; rfl
theorem len_t {c : Bool} {xs : List D} : bfV st .len c [.tup xs] = .ok (.int xs.length) st := rfl
theorem len_l {c : Bool} {xs : List D} : bfV st .len c [.lst xs] = .ok (.int xs.length) st := rfl
theorem abs_i {c : Bool} : bfV st .abs c [.int i] = .ok (.int (if i < 0 then -i else i)) st := rfl
end
/-! a loop whose body never leaves -/
theorem for_inv {tg : List Nat} {one : Bool} {body : Env → Sto → SR} (I : Nat → Env → Sto → Prop) : ∀ (ds : List D) (n : Nat) (env : Env) (st : Sto), I n env st →
    (∀ k d env st, ds[k]? = some d → I (n + k) env st → ∃ e env1 st1, bindT one tg env d = some e ∧ body e st = .ok (.nx env1) st1 ∧ I (n + k + 1) env1 st1) →
    ∃ env1 st1, forRun tg one body ds env st = .ok (.nx env1) st1 ∧ I (n + ds.length) env1 st1
  | [], n, env, st, h, _ => ⟨env, st, rfl, h⟩
  | d :: ds, n, env, st, h, hb => by
    obtain ⟨e, env1, st1, h1, h2, h3⟩ := hb 0 d env st rfl h
    obtain ⟨env2, st2, h4, h5⟩ := for_inv I ds (n + 1) env1 st1 h3 fun k d' env' st' hk hI => by
      have := hb (k + 1) d' env' st' (by simpa using hk) (by rw [show n + (k + 1) = n + 1 + k by omega]; exact hI)
      rw [show n + (k + 1) + 1 = n + 1 + k + 1 by omega] at this
      exact this
    refine ⟨env2, st2, ?_, ?_⟩
    · simp only [forRun, h1, h2, seq_nx, h4]
    · rw [List.length_cons, show n + (ds.length + 1) = n + 1 + ds.length by omega]; exact h5
/-- a comprehension without test, whose items leave the store -/
theorem lc_map {tg : List Nat} {one : Bool} {env : Env} {cond : Env → Sto → Res Bool} {elt : Env → Sto → RD} {st : Sto} (f : D → D) : ∀ (ds : List D),
    (∀ d ∈ ds, ∃ e, bindT one tg env d = some e ∧ cond e st = .ok true st ∧ elt e st = .ok (f d) st) → lcRun tg one env cond elt ds st = .ok (ds.map f) st
  | [], _ => rfl
  | d :: ds, h => by
    obtain ⟨e, h1, h2, h3⟩ := h d (List.mem_cons_self ..)
    have ih := lc_map f ds fun d' hd => h d' (List.mem_cons_of_mem _ hd)
    simp only [lcRun, h1, h2, bind_ok, if_true, h3, ih, List.map_cons]
theorem strOf_len {i : Int} (h : i.natAbs < 2 ^ 200) : (strOf i).length ≤ 1921 :=
  PyProof.Rows.int_text_len_1921 (PySem.Flt.log2_lt_of (by decide) (Nat.lt_of_lt_of_le h (Nat.pow_le_pow_right (by decide) (by decide))))
theorem sum_le {α : Type} (f : α → Nat) (M : Nat) : ∀ {xs : List α}, (∀ x ∈ xs, f x ≤ M) → (xs.map f).sum ≤ xs.length * M
  | [], _ => by simp
  | x :: xs, h => by
    have := sum_le f M (xs := xs) fun y hy => h y (List.mem_cons_of_mem _ hy)
    have := h x (List.mem_cons_self ..)
    simp only [List.map_cons, List.sum_cons, List.length_cons, Nat.succ_mul]
    omega
/-- a join whose texts are short -/
theorem join_ok {bar : Bar} {st : Sto} {z : Str} {d : D} {ys : List Str} {M N : Nat} (ha : (asL st d).bind allS = some ys) (h : ∀ y ∈ ys, y.length ≤ M) (hn : ys.length ≤ N) (hb : N * M + N * z.length ≤ 16777216) : bmV bar st .join (.str z) [d] = .ok (.str (PySem.Txt.join z ys)) st := by
  simp only [bmV, ha]
  rw [if_pos]
  refine decide_eq_true (p := _ ≤ LIM) ?_
  have h1 := sum_le (fun y : Str => y.length) M h
  have h2 := Nat.mul_le_mul_right M hn
  have h3 := Nat.mul_le_mul_right z.length hn
  show _ ≤ 16777216
  omega
theorem allS_str : ∀ ys : List Str, allS (ys.map D.str) = some ys
  | [] => rfl
  | y :: ys => by simp [allS, allS_str ys]
/-! calls -/
/-- what a body's end gives -/
def fin : SR → RD
  | .ok (.nx _) st => .ok .non st
  | .ok (.rt x) st => .ok x st
  | .exn c p _ st => .exn c p st
  | .bad => .bad
theorem call_eq {T : Txt} {d f : Nat} {F : Fn} {lo : Bar} {xs : List D} {st : Sto} (h : T.fn f = some F) (hl : xs.length = F.np) :
    call T (d + 1) f lo xs st = fin (exSs (ctx T d) lo F.body (xs.map some ++ List.replicate (F.ns - F.np) none) st) := by
  simp only [call, h, hl, if_true]
  cases exSs (ctx T d) lo F.body (xs.map some ++ List.replicate (F.ns - F.np) none) st with
  | ok fl st1 => cases fl <;> rfl
  | exn c p e st1 => rfl
  | bad => rfl
theorem fin_nx (env : Env) (st : Sto) : fin (.ok (.nx env) st) = .ok .non st := rfl
theorem fin_rt (x : D) (st : Sto) : fin (.ok (.rt x) st) = .ok x st := rfl
theorem shut_str (st st' : Sto) (z : Str) : shut st (.ok (.str z) st') = .ok (.str z) st := rfl
theorem shut_int (st st' : Sto) (z : Int) : shut st (.ok (.int z) st') = .ok (.int z) st := rfl
theorem shut_non (st st' : Sto) : shut st (.ok .non st') = .ok .non st := rfl
theorem shut_bl (st st' : Sto) (b : Bool) : shut st (.ok (.bl b) st') = .ok (.bl b) st := rfl
/-! steps -/
section
variable {C : Ctx} {bar : Bar} {env : Env} {st st1 st2 : Sto}
theorem ev_lc {cell one : Bool} {elt : E} {tg : List Nat} {k : IK} {src cond : List E} {xs ds ys : List D} (h1 : evEs C bar src env st = .ok xs st1) (h2 : itemsV st1 k xs = some ds)
    (h3 : lcRun tg one (wipeE env tg) (fun e s => evCond C (shutBar st1) cond e s) (fun e s => evE C (shutBar st1) elt e s) ds st1 = .ok ys st2) (h4 : ys.length ≤ 16777216) : evE C bar (.lc cell elt tg one k src cond) env st = newL cell ys st2 := by
  simp only [evE, h1, bind_ok, h2, h3]
  rw [if_pos (decide_eq_true (p := ys.length ≤ LIM) h4)]
theorem ex_for {one : Bool} {tg : List Nat} {k : IK} {src : List E} {body : List S} {xs ds : List D} {r : SR} (h1 : evEs C bar src env st = .ok xs st1) (h2 : itemsV st1 k xs = some ds)
    (h3 : forRun tg one (fun e s => exSs C (walkLo bar xs) body e s) ds env st1 = r) : exS C bar (.forr tg one k src body) env st = r := by
  simp only [exS, h1, of_ok, h2, h3]
theorem ev_var {i : Nat} {d : D} (h : env[i]? = some (some d)) : evE C bar (.var i) env st = .ok d st := by
  simp only [evE, h]
theorem evs_nil : evEs C bar [] env st = .ok [] st := rfl
theorem evs_cons {e : E} {es : List E} {x : D} {xs : List D} (h1 : evE C bar e env st = .ok x st1) (h2 : evEs C bar es env st1 = .ok xs st2) : evEs C bar (e :: es) env st = .ok (x :: xs) st2 := by
  simp only [evEs, h1, bind_ok, h2]
end
end MP

/-! MpV: more plain steps. -/
namespace MP
open PySem
theorem app_end {α : Type} (f : α → D) {bar : Bar} {st : Sto} {xs : List α} {x : α} {i : Nat} (hi : i = st.length) (hb : bar.can st.length = true) (hl : xs.length < 16777216) :
    bmV bar (st ++ [.lst (xs.map f)]) .append (.ref i) [f x] = .ok .non (st ++ [.lst ((xs ++ [x]).map f)]) := by
  subst hi
  have hq : (xs.map f).length < LIM := by rw [List.length_map]; exact hl
  simp only [bmV, get_end, decide_eq_true hq, if_true, setC, hb, set_end, List.map_append, List.map_cons, List.map_nil]
theorem can_walk {st : Sto} {xs : List D} (h : xs.filterMap cellOf = []) : (walkLo (shutBar st) xs).can st.length = true := by
  simp [walkLo, Bar.can, h]
theorem cut_to {α : Type} (xs : List α) (j : Nat) : cut xs none (some (j : Int)) = xs.take j := by
  have h1 : ¬ ((j : Int) < 0) := by omega
  simp only [cut, sIx, List.drop_zero, Nat.sub_zero, h1, if_false, Int.toNat_natCast]
  rw [List.take_eq_take_iff]; omega
theorem cut_from {α : Type} (xs : List α) (j : Nat) : cut xs (some (j : Int)) none = xs.drop j := by
  have h1 : ¬ ((j : Int) < 0) := by omega
  simp only [cut, sIx, h1, if_false, Int.toNat_natCast]
  by_cases h : j ≤ xs.length
  · rw [Nat.min_eq_left h, List.take_of_length_le]
    rw [List.length_drop]
    omega
  · rw [Nat.min_eq_right (by omega), List.drop_of_length_le (Nat.le_refl _), List.drop_of_length_le (by omega)]
    simp
theorem cut_mid {α : Type} (xs : List α) (i j : Nat) (h : i ≤ j) (h2 : j ≤ xs.length) : cut xs (some (i : Int)) (some (j : Int)) = (xs.drop i).take (j - i) := by
  have h1 : ¬ ((j : Int) < 0) := by omega
  have h3 : ¬ ((i : Int) < 0) := by omega
  simp only [cut, sIx, h1, h3, if_false, Int.toNat_natCast]
  rw [Nat.min_eq_left h2, Nat.min_eq_left (Nat.le_trans h h2)]
theorem ix_lst {st : Sto} {xs : List D} {j : Nat} {x : D} (h : xs[j]? = some x) : ixV st (.lst xs) (.int (j : Int)) = .ok x st := by
  have hl := (List.getElem?_eq_some_iff.mp h).1
  have h1 : (j : Int) < (xs.length : Int) := by omega
  have h0 : (0 : Int) ≤ (j : Int) := by omega
  have h2 := (List.getElem?_eq_some_iff.mp h).2
  simp [ixV, look, asK, asL, atI, ixN, opt_some, hl, h0, h2]
theorem ix_ref {st : Sto} {i : Nat} {xs : List D} {j : Nat} {x : D} (hi : st[i]? = some (.lst xs)) (h : xs[j]? = some x) : ixV st (.ref i) (.int (j : Int)) = .ok x st := by
  have hl := (List.getElem?_eq_some_iff.mp h).1
  have h1 : (j : Int) < (xs.length : Int) := by omega
  have h0 : (0 : Int) ≤ (j : Int) := by omega
  have h2 := (List.getElem?_eq_some_iff.mp h).2
  simp [ixV, look, asK, asL, hi, atI, ixN, opt_some, hl, h0, h2]
end MP

namespace MP.k45
open PySem PySem.Spec PyProof.Rows L2 MP
/-- is_name -/
def f0 : Fn := ⟨1, 2,
  [.ret (.and [(.chain .le .le (.int 1) (.bf .len false [(.var 0)]) (.glob 0)), (.bf .all false [(.lc false (.inn false (.var 1) (.glob 1)) [1] true .val [(.var 0)] [])])])]⟩
/-- check_deed -/
def f6 : Fn := ⟨1, 1,
  [.ite (.or [(.cmp .eq (.bf .len false [(.var 0)]) (.int 0)), (.inn true (.ix (.var 0) (.int 0)) (.glob 5)), (.cmp .ne (.bf .len false [(.var 0)]) (.ix (.glob 5) (.ix (.var 0) (.int 0))))])
     [.bad]
     []]⟩
/-- check_day -/
def f32 : Fn := ⟨1, 1,
  [.ite (.not (.chain .le .le (.int 1) (.var 0) (.glob 10)))
     [.bad]
     []]⟩
/-- check_row -/
def f33 : Fn := ⟨1, 4,
  [.expr (.call 6 false [(.var 0)]),
   .asg 1 (.ix (.glob 11) (.ix (.var 0) (.int 0))),
   .forr [2, 3] false .zip [(.var 1), (.sl (.var 0) [(.int 1)] [])]
     [.ite (.and [(.cmp .eq (.var 2) (.str "d")), (.cmp .gt (.bf .abs false [(.var 3)]) (.glob 12))])
        [.bad]
        []],
   .forr [2, 3] false .zip [(.var 1), (.sl (.var 0) [(.int 1)] [])]
     [.ite (.or [(.and [(.cmp .eq (.var 2) (.str "n")), (.not (.call 0 false [(.var 3)]))]), (.and [(.cmp .eq (.var 2) (.str "u")), (.cmp .ne (.var 3) (.str "")), (.not (.call 0 false [(.var 3)]))])])
        [.bad]
        []]]⟩
/-- place_of -/
def f34 : Fn := ⟨2, 4,
  [.forr [2, 3] false .enum [(.var 0)]
     [.ite (.cmp .eq (.ix (.var 3) (.int 0)) (.var 1))
        [.ret (.var 2)]
        []],
   .bad]⟩
/-- Diary.__init__ -/
def f38 : Fn := ⟨1, 1,
  [.asgA (.var 0) 5 (.tup [(.tup []), (.int 1)]),
   .asgA (.var 0) 6 (.lst true []),
   .asgA (.var 0) 7 (.lst true [])]⟩
/-- Diary.become -/
def f39 : Fn := ⟨3, 3,
  [.expr (.bm .append (.attr (.var 0) 6) [(.attr (.var 0) 5)]),
   .asgA (.var 0) 7 (.lst true []),
   .asgA (.var 0) 5 (.tup [(.bf .tuple false [(.var 1)]), (.var 2)])]⟩
/-- Diary.rows -/
def f40 : Fn := ⟨1, 1,
  [.ret (.bf .list true [(.ix (.attr (.var 0) 5) (.int 0))])]⟩
/-- Diary.coming -/
def f41 : Fn := ⟨1, 1,
  [.ret (.ix (.attr (.var 0) 5) (.int 1))]⟩
/-- Diary.enter -/
def f42 : Fn := ⟨3, 4,
  [.expr (.call 32 false [(.var 1)]),
   .expr (.call 33 false [(.var 2)]),
   .asg 3 (.meth (.var 0) 17 false []),
   .expr (.meth (.var 0) 18 true [(.op .add (.meth (.var 0) 19 false []) (.lst false [(.tup [(.var 3), (.var 1), (.var 2)])])), (.op .add (.var 3) (.int 1))]),
   .ret (.var 3)]⟩
/-- Diary.strike -/
def f43 : Fn := ⟨2, 4,
  [.asg 2 (.meth (.var 0) 19 false []),
   .asg 3 (.call 34 false [(.var 2), (.var 1)]),
   .expr (.meth (.var 0) 18 true [(.op .add (.sl (.var 2) [] [(.var 3)]) (.sl (.var 2) [(.op .add (.var 3) (.int 1))] [])), (.meth (.var 0) 17 false [])])]⟩
/-- Diary.correct -/
def f44 : Fn := ⟨4, 6,
  [.asg 4 (.meth (.var 0) 19 false []),
   .asg 5 (.call 34 false [(.var 4), (.var 1)]),
   .expr (.call 32 false [(.var 2)]),
   .expr (.call 33 false [(.var 3)]),
   .expr (.meth (.var 0) 18 true [(.op .add (.op .add (.sl (.var 4) [] [(.var 5)]) (.lst false [(.tup [(.var 1), (.var 2), (.var 3)])])) (.sl (.var 4) [(.op .add (.var 5) (.int 1))] [])), (.meth (.var 0) 17 false [])])]⟩
/-- Diary.back -/
def f45 : Fn := ⟨1, 1,
  [.ite (.cmp .eq (.attr (.var 0) 6) (.lst false []))
     [.bad]
     [],
   .expr (.bm .append (.attr (.var 0) 7) [(.attr (.var 0) 5)]),
   .asgA (.var 0) 5 (.bm .pop (.attr (.var 0) 6) [])]⟩
/-- _law_feed -/
def f49 : Fn := ⟨2, 7,
  [.asg 2 (.lst true []),
   .asg 3 (.int 71),
   .forr [4] true .val [(.sl (.var 0) [] [(.int 63)])]
     [.asg 3 (.op .mod (.op .add (.op .add (.op .mul (.var 3) (.int 48271)) (.op .mod (.var 4) (.int 2147483629))) (.int 7)) (.int 2147483647)),
      .asg 5 (.op .sub (.var 4) (.op .pow (.int 10) (.int 18))),
      .ite (.cmp .lt (.var 5) (.int 0))
        [.expr (.bm .append (.var 2) [(.op .mod (.var 4) (.int 1000003))])]
        [],
      .forr [6] true .range1 [(.int 60)]
        [.ite (.cmp .gt (.var 5) (.int 0))
           [.expr (.bm .append (.var 2) [(.op .mod (.var 5) (.int 1009))]),
            .asg 5 (.op .fdiv (.var 5) (.int 1009))]
           []]],
   .forr [6] true .range1 [(.op .sub (.var 1) (.bf .len false [(.var 2)]))]
     [.asg 3 (.op .mod (.op .add (.op .add (.op .add (.op .mul (.op .mul (.var 3) (.var 3)) (.var 3)) (.op .mul (.int 69621) (.var 3))) (.op .mul (.int 17) (.var 6))) (.int 3)) (.int 2147483629)),
      .expr (.bm .append (.var 2) [(.op .mod (.op .fdiv (.var 3) (.int 1013)) (.int 1009))])],
   .ret (.sl (.var 2) [] [(.var 1)])]⟩
/-- _law_same -/
def f50 : Fn := ⟨2, 4,
  [.ite (.isN false (.var 1))
     [.ret (.isN false (.var 0))]
     [],
   .ite (.isi (.var 1) .bool)
     [.ret (.and [(.isi (.var 0) .bool), (.cmp .eq (.var 0) (.var 1))])]
     [],
   .ite (.or [(.isi (.var 1) .list), (.isi (.var 1) .tuple)])
     [.ite (.or [(.cmp .ne (.isi (.var 0) .list) (.isi (.var 1) .list)), (.cmp .ne (.isi (.var 0) .tuple) (.isi (.var 1) .tuple))])
        [.ret (.bl false)]
        [],
      .ret (.and [(.cmp .eq (.bf .len false [(.var 0)]) (.bf .len false [(.var 1)])), (.bf .all false [(.lc false (.call 50 false [(.var 2), (.var 3)]) [2, 3] false .zip [(.var 0), (.var 1)] [])])])]
     [],
   .ite (.isi (.var 1) .str)
     [.ret (.and [(.isi (.var 0) .str), (.cmp .eq (.var 0) (.var 1))])]
     [],
   .ret (.and [(.isi (.var 0) .int), (.not (.isi (.var 0) .bool)), (.cmp .eq (.var 0) (.var 1))])]⟩
/-- _law_names -/
def f51 : Fn := ⟨2, 8,
  [.asg 2 (.str "abcdefghijklmnopqrstuvwxyz"),
   .asg 3 (.bm .join (.str "") [(.lc false (.ix (.var 2) (.op .mod (.op .add (.ix (.var 0) (.int 0)) (.op .mul (.op .add (.var 6) (.int 1)) (.op .fdiv (.ix (.var 0) (.int 1)) (.int 8)))) (.int 26))) [6] true .range1 [(.op .mod (.ix (.var 0) (.int 1)) (.int 8))] [])]),
   .asg 4 (.op .mod (.ix (.var 0) (.int 2)) (.op .add (.bf .len false [(.var 3)]) (.int 1))),
   .asg 5 (.lst true []),
   .forr [6] true .range1 [(.var 1)]
     [.asg 7 (.ix (.var 2) (.op .mod (.op .add (.ix (.var 0) (.int 3)) (.op .mul (.int 7) (.var 6))) (.int 26))),
      .expr (.bm .append (.var 5) [(.op .add (.op .add (.sl (.var 3) [] [(.var 4)]) (.var 7)) (.sl (.var 3) [(.var 4)] []))])],
   .ret (.var 5)]⟩
/-- word_of -/
def f88 : Fn := ⟨1, 1,
  [.ite (.cmp .eq (.var 0) (.str ""))
     [.ret (.str "-")]
     [],
   .ret (.bf .str false [(.var 0)])]⟩
/-- deed_text -/
def f91 : Fn := ⟨1, 2,
  [.ret (.bm .join (.str " ") [(.lc false (.call 88 false [(.var 1)]) [1] true .val [(.var 0)] [])])]⟩
/-- written -/
def f92 : Fn := ⟨1, 6,
  [.asg 1 (.lst true [(.fstr [(.str "next "), (.meth (.var 0) 17 false [])])]),
   .forr [2, 3, 4] false .val [(.meth (.var 0) 19 false [])]
     [.expr (.bm .append (.var 1) [(.fstr [(.var 2), (.str " "), (.var 3), (.str " "), (.call 91 false [(.var 4)])])])],
   .ret (.bm .join (.str "") [(.lc false (.op .add (.var 5) (.str "\n")) [5] true .val [(.var 1)] [])])]⟩
/-- _law_text_of -/
def f101 : Fn := ⟨1, 2,
  [.ret (.bm .join (.str " ") [(.lc false (.ite (.cmp .eq (.var 1) (.str "")) (.str "-") (.bf .str false [(.var 1)])) [1] true .val [(.var 0)] [])])]⟩
/-- _law_page -/
def f102 : Fn := ⟨2, 7,
  [.asg 2 (.lst true [(.op .add (.str "next ") (.bf .str false [(.var 1)]))]),
   .forr [3, 4, 5] false .val [(.var 0)]
     [.expr (.bm .append (.var 2) [(.bm .join (.str " ") [(.lst false [(.bf .str false [(.var 3)]), (.bf .str false [(.var 4)]), (.call 101 false [(.var 5)])])])])],
   .ret (.bm .join (.str "") [(.lc false (.op .add (.var 6) (.str "\n")) [6] true .val [(.var 2)] [])])]⟩
/-- _law_free_row -/
def f103 : Fn := ⟨2, 7,
  [.asgP [2, 3] [(.ix (.var 0) (.op .mod (.ix (.var 1) (.int 0)) (.bf .len false [(.var 0)]))), (.ix (.var 0) (.op .mod (.ix (.var 1) (.int 1)) (.bf .len false [(.var 0)])))],
   .asg 4 (.lst false [(.op .sub (.op .mod (.ix (.var 1) (.int 2)) (.int 40)) (.int 10)), (.op .sub (.ix (.var 1) (.int 2)) (.int 500)), (.op .mul (.op .sub (.op .mod (.ix (.var 1) (.int 2)) (.int 1009)) (.int 500)) (.op .pow (.int 10) (.int 7))), (.int 0)]),
   .asg 5 (.ix (.var 4) (.op .mod (.ix (.var 1) (.int 3)) (.int 4))),
   .asg 6 (.lst true [(.tup [(.str "trestle"), (.var 2), (.op .sub (.op .mod (.ix (.var 1) (.int 4)) (.int 12)) (.int 1)), (.var 5), (.op .add (.var 5) (.op .mod (.ix (.var 1) (.int 5)) (.int 9)))]), (.tup [(.str "away"), (.var 2)]), (.tup [(.str "along"), (.var 2), (.var 5)])]),
   .asg 6 (.catc (.var 6) (.lst false [(.tup [(.str "board"), (.var 2), (.op .add (.int 1) (.op .mod (.ix (.var 1) (.int 4)) (.int 9))), (.var 5), (.op .add (.op .add (.var 5) (.int 1)) (.ix (.var 1) (.int 5))), (.op .add (.int 1) (.ix (.var 1) (.int 6)))]), (.tup [(.str "cut"), (.var 2)]), (.tup [(.str "lift"), (.var 2)])])),
   .asg 6 (.catc (.var 6) (.lst false [(.tup [(.str "sack"), (.var 2), (.var 3), (.var 5), (.op .add (.int 1) (.ix (.var 1) (.int 5)))]), (.tup [(.str "move"), (.var 2), (.var 3), (.var 5)])])),
   .expr (.bm .append (.var 6) [(.tup [(.str "cord"), (.var 2), (.str ""), (.var 3), (.var 5)])]),
   .expr (.bm .append (.var 6) [(.tup [(.str "cord"), (.var 2), (.var 3), (.ix (.var 0) (.op .mod (.ix (.var 1) (.int 6)) (.bf .len false [(.var 0)]))), (.var 5)])]),
   .expr (.bm .append (.var 6) [(.tup [(.str "sack"), (.var 2), (.var 3), (.var 5), (.op .mul (.op .mod (.ix (.var 1) (.int 5)) (.int 1009)) (.op .pow (.int 10) (.int 6)))])]),
   .ret (.ix (.var 6) (.op .mod (.ix (.var 1) (.int 7)) (.int 11)))]⟩
/-- _law_free_rows -/
def f104 : Fn := ⟨3, 7,
  [.asg 3 (.lst true []),
   .asg 4 (.int 0),
   .forr [5] true .range1 [(.var 2)]
     [.asg 6 (.sl (.var 0) [(.op .mul (.int 11) (.var 5))] [(.op .add (.op .mul (.int 11) (.var 5)) (.int 11))]),
      .asg 4 (.op .add (.op .add (.var 4) (.int 1)) (.op .mod (.ix (.var 6) (.int 8)) (.ix (.lst false [(.int 1), (.int 4)]) (.op .mod (.ix (.var 6) (.int 9)) (.int 2))))),
      .expr (.bm .append (.var 3) [(.tup [(.var 4), (.op .add (.int 1) (.op .mod (.ix (.var 6) (.int 9)) (.ix (.lst false [(.int 12), (.int 9999)]) (.op .mod (.ix (.var 6) (.int 10)) (.int 2))))), (.call 103 false [(.var 1), (.var 6)])])])],
   .ret (.tup [(.var 3), (.op .add (.op .add (.var 4) (.int 1)) (.op .mod (.ix (.var 0) (.int 0)) (.int 3)))])]⟩
/-- law -/
def f105 : Fn := ⟨1, 10,
  [.asg 1 (.call 49 false [(.var 0), (.int 470)]),
   .asg 2 (.call 51 false [(.sl (.var 1) [(.int 2)] [(.int 6)]), (.int 8)]),
   .asg 3 (.make 18 []),
   .asg 4 (.lst true []),
   .asg 5 (.int 1),
   .forr [6, 7, 8] false .val [(.ix (.call 104 false [(.sl (.var 1) [(.int 10)] []), (.var 2), (.op .mod (.ix (.var 1) (.int 0)) (.int 41))]) (.int 0))]
     [.ite (.not (.call 50 false [(.meth (.var 3) 20 true [(.var 7), (.var 8)]), (.var 5)]))
        [.ret (.bl false)]
        [],
      .expr (.bm .append (.var 4) [(.tup [(.var 5), (.var 7), (.var 8)])]),
      .asg 5 (.op .add (.var 5) (.int 1)),
      .ite (.cmp .eq (.op .mod (.var 6) (.int 5)) (.int 4))
        [.expr (.meth (.var 3) 21 true [(.ix (.bm .pop (.var 4) []) (.int 0))])]
        [],
      .ite (.and [(.cmp .eq (.op .mod (.var 6) (.int 7)) (.int 3)), (.cmp .ne (.var 4) (.lst false []))])
        [.asgT [6, 7, 8] (.ix (.var 4) (.int 0)),
         .asgI (.var 4) (.int 0) (.tup [(.var 6), (.int 9999), (.var 8)]),
         .expr (.meth (.var 3) 22 true [(.var 6), (.int 9999), (.var 8)])]
        [],
      .ite (.and [(.cmp .eq (.op .mod (.ix (.var 1) (.int 1)) (.int 3)) (.int 0)), (.not (.call 50 false [(.call 92 false [(.var 3)]), (.call 102 false [(.var 4), (.var 5)])]))])
        [.ret (.bl false)]
        []],
   .forr [9] true .range1 [(.int 2)]
     [.ite (.not (.call 50 false [(.call 92 false [(.var 3)]), (.call 102 false [(.var 4), (.var 5)])]))
        [.ret (.bl false)]
        []],
   .expr (.meth (.var 3) 20 true [(.int 5), (.tup [(.str "cut"), (.ix (.var 2) (.int 0))])]),
   .expr (.meth (.var 3) 23 true []),
   .ret (.and [(.call 50 false [(.call 92 false [(.var 3)]), (.call 102 false [(.var 4), (.var 5)])]), (.call 50 false [(.meth (.var 3) 19 false []), (.var 4)])])]⟩
def fnT : Nat → Option Fn
  | 0 => some f0
  | 6 => some f6
  | 32 => some f32
  | 33 => some f33
  | 34 => some f34
  | 38 => some f38
  | 39 => some f39
  | 40 => some f40
  | 41 => some f41
  | 42 => some f42
  | 43 => some f43
  | 44 => some f44
  | 45 => some f45
  | 49 => some f49
  | 50 => some f50
  | 51 => some f51
  | 88 => some f88
  | 91 => some f91
  | 92 => some f92
  | 101 => some f101
  | 102 => some f102
  | 103 => some f103
  | 104 => some f104
  | 105 => some f105
  | _ => none
def methT : Nat → Nat → Option Nat
  | 18, 17 => some 41
  | 18, 18 => some 39
  | 18, 19 => some 40
  | 18, 20 => some 42
  | 18, 21 => some 43
  | 18, 22 => some 44
  | 18, 23 => some 45
  | _, _ => none
def initT : Nat → Option Nat
  | 18 => some 38
  | _ => none
def globT : Nat → Option D
  | 5 => some (.kdc [(.inr "trestle", .int 5), (.inr "board", .int 6), (.inr "away", .int 2), (.inr "along", .int 3), (.inr "sack", .int 5), (.inr "move", .int 4), (.inr "lift", .int 2), (.inr "cord", .int 5), (.inr "cut", .int 2)])
  | 11 => some (.kdc [(.inr "trestle", .str "nddd"), (.inr "board", .str "ndddd"), (.inr "away", .str "n"), (.inr "along", .str "nd"), (.inr "sack", .str "nndd"), (.inr "move", .str "nnd"), (.inr "lift", .str "n"), (.inr "cord", .str "nund"), (.inr "cut", .str "n")])
  | 10 => some (.int 9999)
  | 1 => some (.str "abcdefghijklmnopqrstuvwxyz")
  | 0 => some (.int 8)
  | 12 => some (.int 9999999999)
  | _ => none
def subT : Nat → Tc → Bool
  | _, _ => false
def txt : Txt := ⟨fnT, methT, initT, globT, subT⟩
def lawId : Nat := 105
def top (i : Nat) : Stmt := PySem.Challenge.pw_dunnage_k45_pages_written.main.body.getD i (.Pass ⟨0, 0, 0, 0⟩)
def clsB : Stmt → List Stmt
  | .ClassDef _ _ _ b _ _ _ _ _ _ _ => b
  | _ => []
abbrev s0 : Stmt := top 25
abbrev n0 : List Str := ["text", "sign"]
theorem nd0 : n0.Nodup := by decide +kernel
theorem sc0 : FnScope n0 ["text"] (defScope s0) := ⟨rfl, rfl, rfl, nd0, rfl, by decide +kernel, by decide +kernel⟩
abbrev s6 : Stmt := top 37
abbrev n6 : List Str := ["deed"]
theorem nd6 : n6.Nodup := by decide +kernel
theorem sc6 : FnScope n6 ["deed"] (defScope s6) := ⟨rfl, rfl, rfl, nd6, rfl, by decide +kernel, by decide +kernel⟩
abbrev s32 : Stmt := top 45
abbrev n32 : List Str := ["day"]
theorem nd32 : n32.Nodup := by decide +kernel
theorem sc32 : FnScope n32 ["day"] (defScope s32) := ⟨rfl, rfl, rfl, nd32, rfl, by decide +kernel, by decide +kernel⟩
abbrev s33 : Stmt := top 46
abbrev n33 : List Str := ["deed", "kinds", "kind", "thing"]
theorem nd33 : n33.Nodup := by decide +kernel
theorem sc33 : FnScope n33 ["deed"] (defScope s33) := ⟨rfl, rfl, rfl, nd33, rfl, by decide +kernel, by decide +kernel⟩
abbrev s34 : Stmt := top 47
abbrev n34 : List Str := ["rows", "number", "at", "row"]
theorem nd34 : n34.Nodup := by decide +kernel
theorem sc34 : FnScope n34 ["rows", "number"] (defScope s34) := ⟨rfl, rfl, rfl, nd34, rfl, by decide +kernel, by decide +kernel⟩
abbrev s38 : Stmt := (clsB (top 51)).getD 0 (.Pass ⟨0, 0, 0, 0⟩)
abbrev n38 : List Str := ["self"]
theorem nd38 : n38.Nodup := by decide +kernel
theorem sc38 : FnScope n38 ["self"] (defScope s38) := ⟨rfl, rfl, rfl, nd38, rfl, by decide +kernel, by decide +kernel⟩
abbrev s39 : Stmt := (clsB (top 51)).getD 2 (.Pass ⟨0, 0, 0, 0⟩)
abbrev n39 : List Str := ["self", "rows", "coming"]
theorem nd39 : n39.Nodup := by decide +kernel
theorem sc39 : FnScope n39 ["self", "rows", "coming"] (defScope s39) := ⟨rfl, rfl, rfl, nd39, rfl, by decide +kernel, by decide +kernel⟩
abbrev s40 : Stmt := (clsB (top 51)).getD 3 (.Pass ⟨0, 0, 0, 0⟩)
abbrev n40 : List Str := ["self"]
theorem nd40 : n40.Nodup := by decide +kernel
theorem sc40 : FnScope n40 ["self"] (defScope s40) := ⟨rfl, rfl, rfl, nd40, rfl, by decide +kernel, by decide +kernel⟩
abbrev s41 : Stmt := (clsB (top 51)).getD 4 (.Pass ⟨0, 0, 0, 0⟩)
abbrev n41 : List Str := ["self"]
theorem nd41 : n41.Nodup := by decide +kernel
theorem sc41 : FnScope n41 ["self"] (defScope s41) := ⟨rfl, rfl, rfl, nd41, rfl, by decide +kernel, by decide +kernel⟩
abbrev s42 : Stmt := (clsB (top 51)).getD 5 (.Pass ⟨0, 0, 0, 0⟩)
abbrev n42 : List Str := ["self", "day", "deed", "number"]
theorem nd42 : n42.Nodup := by decide +kernel
theorem sc42 : FnScope n42 ["self", "day", "deed"] (defScope s42) := ⟨rfl, rfl, rfl, nd42, rfl, by decide +kernel, by decide +kernel⟩
abbrev s43 : Stmt := (clsB (top 51)).getD 6 (.Pass ⟨0, 0, 0, 0⟩)
abbrev n43 : List Str := ["self", "number", "rows", "at"]
theorem nd43 : n43.Nodup := by decide +kernel
theorem sc43 : FnScope n43 ["self", "number"] (defScope s43) := ⟨rfl, rfl, rfl, nd43, rfl, by decide +kernel, by decide +kernel⟩
abbrev s44 : Stmt := (clsB (top 51)).getD 7 (.Pass ⟨0, 0, 0, 0⟩)
abbrev n44 : List Str := ["self", "number", "day", "deed", "rows", "at"]
theorem nd44 : n44.Nodup := by decide +kernel
theorem sc44 : FnScope n44 ["self", "number", "day", "deed"] (defScope s44) := ⟨rfl, rfl, rfl, nd44, rfl, by decide +kernel, by decide +kernel⟩
abbrev s45 : Stmt := (clsB (top 51)).getD 8 (.Pass ⟨0, 0, 0, 0⟩)
abbrev n45 : List Str := ["self"]
theorem nd45 : n45.Nodup := by decide +kernel
theorem sc45 : FnScope n45 ["self"] (defScope s45) := ⟨rfl, rfl, rfl, nd45, rfl, by decide +kernel, by decide +kernel⟩
abbrev s49 : Stmt := top 57
abbrev n49 : List Str := ["_law_script", "_law_many", "_law_feed_here", "_law_salt", "_law_cell", "_law_rest", "_law_k"]
theorem nd49 : n49.Nodup := by decide +kernel
theorem sc49 : FnScope n49 ["_law_script", "_law_many"] (defScope s49) := ⟨rfl, rfl, rfl, nd49, rfl, by decide +kernel, by decide +kernel⟩
abbrev s50 : Stmt := top 58
abbrev n50 : List Str := ["_law_found", "_law_due", "_law_one", "_law_other"]
theorem nd50 : n50.Nodup := by decide +kernel
theorem sc50 : FnScope n50 ["_law_found", "_law_due"] (defScope s50) := ⟨rfl, rfl, rfl, nd50, rfl, by decide +kernel, by decide +kernel⟩
abbrev s51 : Stmt := top 59
abbrev n51 : List Str := ["_law_d", "_law_many", "_law_letters", "_law_base", "_law_at", "_law_names_here", "_law_k", "_law_sign"]
theorem nd51 : n51.Nodup := by decide +kernel
theorem sc51 : FnScope n51 ["_law_d", "_law_many"] (defScope s51) := ⟨rfl, rfl, rfl, nd51, rfl, by decide +kernel, by decide +kernel⟩
abbrev s88 : Stmt := top 53
abbrev n88 : List Str := ["thing"]
theorem nd88 : n88.Nodup := by decide +kernel
theorem sc88 : FnScope n88 ["thing"] (defScope s88) := ⟨rfl, rfl, rfl, nd88, rfl, by decide +kernel, by decide +kernel⟩
abbrev s91 : Stmt := top 54
abbrev n91 : List Str := ["deed", "thing"]
theorem nd91 : n91.Nodup := by decide +kernel
theorem sc91 : FnScope n91 ["deed"] (defScope s91) := ⟨rfl, rfl, rfl, nd91, rfl, by decide +kernel, by decide +kernel⟩
abbrev s92 : Stmt := top 55
abbrev n92 : List Str := ["diary", "rows", "number", "day", "deed", "row"]
theorem nd92 : n92.Nodup := by decide +kernel
theorem sc92 : FnScope n92 ["diary"] (defScope s92) := ⟨rfl, rfl, rfl, nd92, rfl, by decide +kernel, by decide +kernel⟩
abbrev s101 : Stmt := top 60
abbrev n101 : List Str := ["_law_deed", "_law_thing"]
theorem nd101 : n101.Nodup := by decide +kernel
theorem sc101 : FnScope n101 ["_law_deed"] (defScope s101) := ⟨rfl, rfl, rfl, nd101, rfl, by decide +kernel, by decide +kernel⟩
abbrev s102 : Stmt := top 61
abbrev n102 : List Str := ["_law_rows", "_law_coming", "_law_lines", "_law_number", "_law_day", "_law_deed", "_law_line"]
theorem nd102 : n102.Nodup := by decide +kernel
theorem sc102 : FnScope n102 ["_law_rows", "_law_coming"] (defScope s102) := ⟨rfl, rfl, rfl, nd102, rfl, by decide +kernel, by decide +kernel⟩
abbrev s103 : Stmt := top 62
abbrev n103 : List Str := ["_law_names_here", "_law_d", "_law_name", "_law_other", "_law_lefts", "_law_left", "_law_some"]
theorem nd103 : n103.Nodup := by decide +kernel
theorem sc103 : FnScope n103 ["_law_names_here", "_law_d"] (defScope s103) := ⟨rfl, rfl, rfl, nd103, rfl, by decide +kernel, by decide +kernel⟩
abbrev s104 : Stmt := top 63
abbrev n104 : List Str := ["_law_feed_here", "_law_names_here", "_law_many", "_law_rows", "_law_number", "_law_k", "_law_d"]
theorem nd104 : n104.Nodup := by decide +kernel
theorem sc104 : FnScope n104 ["_law_feed_here", "_law_names_here", "_law_many"] (defScope s104) := ⟨rfl, rfl, rfl, nd104, rfl, by decide +kernel, by decide +kernel⟩
abbrev s105 : Stmt := top 64
abbrev n105 : List Str := ["_law_script", "_law_feed_here", "_law_names_here", "_law_diary", "_law_rows", "_law_coming", "_law_number", "_law_day", "_law_deed", "_law_turn"]
theorem nd105 : n105.Nodup := by decide +kernel
theorem sc105 : FnScope n105 ["_law_script"] (defScope s105) := ⟨rfl, rfl, rfl, nd105, rfl, by decide +kernel, by decide +kernel⟩
def flS : Nat → Str
  | 0 => "at"
  | 1 => "laid"
  | 2 => "fast"
  | 3 => "set_on"
  | 4 => "tied"
  | 5 => "state"
  | 6 => "elder"
  | 7 => "undone"
  | 8 => "many"
  | 9 => "signs"
  | 10 => "cells"
  | 11 => "base"
  | 12 => "scale"
  | 13 => "lack"
  | 14 => "gain"
  | 15 => "kept"
  | _ => ""
def meS : Nat → Str
  | 0 => "board"
  | 1 => "thing"
  | 2 => "fresh"
  | 3 => "alone"
  | 4 => "corded"
  | 5 => "sack"
  | 6 => "cord"
  | 7 => "do_trestle"
  | 8 => "do_board"
  | 9 => "do_away"
  | 10 => "do_along"
  | 11 => "do_sack"
  | 12 => "do_move"
  | 13 => "do_lift"
  | 14 => "do_cord"
  | 15 => "do_cut"
  | 16 => "do"
  | 17 => "coming"
  | 18 => "become"
  | 19 => "rows"
  | 20 => "enter"
  | 21 => "strike"
  | 22 => "correct"
  | 23 => "back"
  | 24 => "again"
  | 25 => "trestles"
  | 26 => "boards"
  | 27 => "sacks"
  | 28 => "cords"
  | 29 => "trestle"
  | 30 => "yard"
  | 31 => "word"
  | 32 => "twin"
  | 33 => "begin"
  | 34 => "turned"
  | 35 => "entering"
  | 36 => "turn"
  | 37 => "leaving"
  | 38 => "fill"
  | 39 => "worths"
  | 40 => "barring"
  | 41 => "tidy"
  | 42 => "climb"
  | 43 => "growing"
  | 44 => "weighing"
  | 45 => "say"
  | 46 => "diary"
  | _ => ""
def psS : Nat → List Str
  | 0 => ["text"]
  | 6 => ["deed"]
  | 32 => ["day"]
  | 33 => ["deed"]
  | 34 => ["rows", "number"]
  | 38 => ["self"]
  | 39 => ["self", "rows", "coming"]
  | 40 => ["self"]
  | 41 => ["self"]
  | 42 => ["self", "day", "deed"]
  | 43 => ["self", "number"]
  | 44 => ["self", "number", "day", "deed"]
  | 45 => ["self"]
  | 49 => ["_law_script", "_law_many"]
  | 50 => ["_law_found", "_law_due"]
  | 51 => ["_law_d", "_law_many"]
  | 88 => ["thing"]
  | 91 => ["deed"]
  | 92 => ["diary"]
  | 101 => ["_law_deed"]
  | 102 => ["_law_rows", "_law_coming"]
  | 103 => ["_law_names_here", "_law_d"]
  | 104 => ["_law_feed_here", "_law_names_here", "_law_many"]
  | 105 => ["_law_script"]
  | _ => []
def okF (f : Nat) : Bool := decide (f ∈ [5, 6, 7])
def okC (c : Nat) : Bool := decide (c ∈ [18])
section
variable (P : Program) (w : World) (K : PySem.W.Frag) (mg : Str → Option Value) (ca fa : Nat → Addr) (fd : Nat → FuncData)
abbrev lk : Lk := ⟨P, w, K, mg, txt, ca, flS, meS, fa, fd, psS, fun _ _ => true, fun _ _ => true, fun _ _ => true, okC, okF⟩
/-- the names of the module -/
structure Gn : Prop where
  f0 : NmF (lk P w K mg ca fa fd) 0 "is_name"
  f6 : NmF (lk P w K mg ca fa fd) 6 "check_deed"
  f32 : NmF (lk P w K mg ca fa fd) 32 "check_day"
  f33 : NmF (lk P w K mg ca fa fd) 33 "check_row"
  f34 : NmF (lk P w K mg ca fa fd) 34 "place_of"
  f49 : NmF (lk P w K mg ca fa fd) 49 "_law_feed"
  f50 : NmF (lk P w K mg ca fa fd) 50 "_law_same"
  f51 : NmF (lk P w K mg ca fa fd) 51 "_law_names"
  f88 : NmF (lk P w K mg ca fa fd) 88 "word_of"
  f91 : NmF (lk P w K mg ca fa fd) 91 "deed_text"
  f92 : NmF (lk P w K mg ca fa fd) 92 "written"
  f101 : NmF (lk P w K mg ca fa fd) 101 "_law_text_of"
  f102 : NmF (lk P w K mg ca fa fd) 102 "_law_page"
  f103 : NmF (lk P w K mg ca fa fd) 103 "_law_free_row"
  f104 : NmF (lk P w K mg ca fa fd) 104 "_law_free_rows"
  c18 : mg "Diary" = some (.ref (ca 18))
  b_abs : mg "abs" = none
  b_all : mg "all" = none
  b_bool : mg "bool" = none
  b_enumerate : mg "enumerate" = none
  b_int : mg "int" = none
  b_isinstance : mg "isinstance" = none
  b_len : mg "len" = none
  b_list : mg "list" = none
  b_range : mg "range" = none
  b_str : mg "str" = none
  b_tuple : mg "tuple" = none
  b_zip : mg "zip" = none
  g5 : ∀ d, globT 5 = some d → ∃ u v, mg "COUNTS" = some u ∧ RelV v u ∧ ∀ xr al H, Rep K w xr al H v d
  g11 : ∀ d, globT 11 = some d → ∃ u v, mg "KINDS" = some u ∧ RelV v u ∧ ∀ xr al H, Rep K w xr al H v d
  g10 : ∀ d, globT 10 = some d → ∃ u v, mg "LAST_DAY" = some u ∧ RelV v u ∧ ∀ xr al H, Rep K w xr al H v d
  g1 : ∀ d, globT 1 = some d → ∃ u v, mg "LETTERS" = some u ∧ RelV v u ∧ ∀ xr al H, Rep K w xr al H v d
  g0 : ∀ d, globT 0 = some d → ∃ u v, mg "LONGEST" = some u ∧ RelV v u ∧ ∀ xr al H, Rep K w xr al H v d
  g12 : ∀ d, globT 12 = some d → ∃ u v, mg "MOST" = some u ∧ RelV v u ∧ ∀ xr al H, Rep K w xr al H v d
end
section
variable {P : Program} {w : World} {K : PySem.W.Frag} {mg : Str → Option Value} {base : Heap} {ca fa : Nat → Addr} {fd : Nat → FuncData} {d : Nat} {xr : XR} {W : WX} {qual : Str} {cdv : Value} {A : Around} {outer : List PySem.Env} {s : Shared} {H : Hp} {E : XK}
abbrev x0 (P : Program) (w : World) (K : PySem.W.Frag) (mg : Str → Option Value) (base : Heap) (fa : Nat → Addr) (qual : Str) (cdv : Value) (A : Around) (outer : List PySem.Env) (s : Shared) (H : Hp) (E : XK) : Cx := cxOf (CX P w) P w K mg base n0 qual (defScope s0) (fa 0) cdv A outer s H E
theorem b0 (T : Tx (lk P w K mg ca fa fd)) (g : Gn P w K mg ca fa fd) (S : Sit (lk P w K mg ca fa fd) d (x0 P w K mg base fa qual cdv A outer s H E) xr W) :
    PMSs (lk P w K mg ca fa fd) xr W (x0 P w K mg base fa qual cdv A outer s H E) (ctx txt d) f0.body (defBody s0) :=
  (ss_cons (s_ret (m_and (k_chain S m_int (k_bfB S g.b_len (ms_cons (k_var 0) ms_nil)) (k_glob S g.g0)) (m_and1 (k_bfB S g.b_all (ms_cons (k_lc S [("sign", 1)] (h_val S (k_var 0)) (g_one (fun Y hY => by obtain ⟨_, _, _, _, _, rfl⟩ := hY; exact ⟨nd0, rfl, by first | exact Or.inl rfl | exact Or.inr rfl, by first | exact Or.inl rfl | exact Or.inr rfl⟩)) (fun h Y hY S => by obtain ⟨_, _, _, _, _, rfl⟩ := hY; exact c_nil) (fun h Y hY S => by obtain ⟨_, _, _, _, _, rfl⟩ := hY; exact (k_inn S (k_var 1) (k_glob S g.g1))) (hN := nd0) (ok := by show BlkOk n0 (defScope s0) _ _; exact ⟨rfl, by decide +kernel, by decide +kernel, by decide +kernel, by decide +kernel⟩)) ms_nil)))))
  ss_nil)
abbrev x6 (P : Program) (w : World) (K : PySem.W.Frag) (mg : Str → Option Value) (base : Heap) (fa : Nat → Addr) (qual : Str) (cdv : Value) (A : Around) (outer : List PySem.Env) (s : Shared) (H : Hp) (E : XK) : Cx := cxOf (CX P w) P w K mg base n6 qual (defScope s6) (fa 6) cdv A outer s H E
theorem b6 (T : Tx (lk P w K mg ca fa fd)) (g : Gn P w K mg ca fa fd) (S : Sit (lk P w K mg ca fa fd) d (x6 P w K mg base fa qual cdv A outer s H E) xr W) :
    PMSs (lk P w K mg ca fa fd) xr W (x6 P w K mg base fa qual cdv A outer s H E) (ctx txt d) f6.body (defBody s6) :=
  (ss_cons (s_ite (t_w (w_or (kt_cmp S (k_bfB S g.b_len (ms_cons (k_var 0) ms_nil)) m_int) (w_or (kt_inn S (k_ix S (k_var 0) m_int) (k_glob S g.g5)) (w_or1 (kt_cmp S (k_bfB S g.b_len (ms_cons (k_var 0) ms_nil)) (k_ix S (k_glob S g.g5) (k_ix S (k_var 0) m_int))))))) (ss_cons s_bad
    ss_nil) ss_nil)
  ss_nil)
abbrev x32 (P : Program) (w : World) (K : PySem.W.Frag) (mg : Str → Option Value) (base : Heap) (fa : Nat → Addr) (qual : Str) (cdv : Value) (A : Around) (outer : List PySem.Env) (s : Shared) (H : Hp) (E : XK) : Cx := cxOf (CX P w) P w K mg base n32 qual (defScope s32) (fa 32) cdv A outer s H E
theorem b32 (T : Tx (lk P w K mg ca fa fd)) (g : Gn P w K mg ca fa fd) (S : Sit (lk P w K mg ca fa fd) d (x32 P w K mg base fa qual cdv A outer s H E) xr W) :
    PMSs (lk P w K mg ca fa fd) xr W (x32 P w K mg base fa qual cdv A outer s H E) (ctx txt d) f32.body (defBody s32) :=
  (ss_cons (s_ite (t_not (kt_chain S m_int (k_var 0) (k_glob S g.g10))) (ss_cons s_bad
    ss_nil) ss_nil)
  ss_nil)
abbrev x33 (P : Program) (w : World) (K : PySem.W.Frag) (mg : Str → Option Value) (base : Heap) (fa : Nat → Addr) (qual : Str) (cdv : Value) (A : Around) (outer : List PySem.Env) (s : Shared) (H : Hp) (E : XK) : Cx := cxOf (CX P w) P w K mg base n33 qual (defScope s33) (fa 33) cdv A outer s H E
theorem b33 (T : Tx (lk P w K mg ca fa fd)) (g : Gn P w K mg ca fa fd) (S : Sit (lk P w K mg ca fa fd) d (x33 P w K mg base fa qual cdv A outer s H E) xr W) :
    PMSs (lk P w K mg ca fa fd) xr W (x33 P w K mg base fa qual cdv A outer s H E) (ctx txt d) f33.body (defBody s33) :=
  (ss_cons (s_expr (k_call S g.f6 (ms_cons (k_var 0) ms_nil)))
  (ss_cons (z_asg (k_ix S (k_glob S g.g11) (k_ix S (k_var 0) m_int)) (hN := nd33))
  (ss_cons (z_for S (h_zip S g.b_zip (ms_cons (k_var 1) (ms_cons (k_sl S (k_var 0) (o_some m_int) o_none) ms_nil))) (g_tup (fun Y hY => by cases hY; exact ⟨rfl, rfl⟩) (fun Y hY => by cases hY; exact rfl) (fun Y hY => by cases hY; exact rfl) (gs_cons (fun Y hY => by cases hY; exact ⟨nd33, rfl, by first | exact Or.inl rfl | exact Or.inr rfl, by first | exact Or.inl rfl | exact Or.inr rfl⟩) (fun Y hY => by cases hY; exact rfl) (gs_cons (fun Y hY => by cases hY; exact ⟨nd33, rfl, by first | exact Or.inl rfl | exact Or.inr rfl, by first | exact Or.inl rfl | exact Or.inr rfl⟩) (fun Y hY => by cases hY; exact rfl) gs_nil))) (ss_cons (s_ite (t_w (w_and (kt_cmp S (k_var 2) m_str) (w_and1 (kt_cmp S (k_bfB S g.b_abs (ms_cons (k_var 3) ms_nil)) (k_glob S g.g12))))) (ss_cons s_bad
      ss_nil) ss_nil)
    ss_nil))
  (ss_cons (z_for S (h_zip S g.b_zip (ms_cons (k_var 1) (ms_cons (k_sl S (k_var 0) (o_some m_int) o_none) ms_nil))) (g_tup (fun Y hY => by cases hY; exact ⟨rfl, rfl⟩) (fun Y hY => by cases hY; exact rfl) (fun Y hY => by cases hY; exact rfl) (gs_cons (fun Y hY => by cases hY; exact ⟨nd33, rfl, by first | exact Or.inl rfl | exact Or.inr rfl, by first | exact Or.inl rfl | exact Or.inr rfl⟩) (fun Y hY => by cases hY; exact rfl) (gs_cons (fun Y hY => by cases hY; exact ⟨nd33, rfl, by first | exact Or.inl rfl | exact Or.inr rfl, by first | exact Or.inl rfl | exact Or.inr rfl⟩) (fun Y hY => by cases hY; exact rfl) gs_nil))) (ss_cons (s_ite (t_w (w_or (t_w (w_and (kt_cmp S (k_var 2) m_str) (w_and1 (t_not (t_val (k_call S g.f0 (ms_cons (k_var 3) ms_nil))))))) (w_or1 (t_w (w_and (kt_cmp S (k_var 2) m_str) (w_and (kt_cmp S (k_var 3) m_str) (w_and1 (t_not (t_val (k_call S g.f0 (ms_cons (k_var 3) ms_nil))))))))))) (ss_cons s_bad
      ss_nil) ss_nil)
    ss_nil))
  ss_nil))))
abbrev x34 (P : Program) (w : World) (K : PySem.W.Frag) (mg : Str → Option Value) (base : Heap) (fa : Nat → Addr) (qual : Str) (cdv : Value) (A : Around) (outer : List PySem.Env) (s : Shared) (H : Hp) (E : XK) : Cx := cxOf (CX P w) P w K mg base n34 qual (defScope s34) (fa 34) cdv A outer s H E
theorem b34 (T : Tx (lk P w K mg ca fa fd)) (g : Gn P w K mg ca fa fd) (S : Sit (lk P w K mg ca fa fd) d (x34 P w K mg base fa qual cdv A outer s H E) xr W) :
    PMSs (lk P w K mg ca fa fd) xr W (x34 P w K mg base fa qual cdv A outer s H E) (ctx txt d) f34.body (defBody s34) :=
  (ss_cons (z_for S (h_enum S g.b_enumerate (ms_cons (k_var 0) ms_nil)) (g_tup (fun Y hY => by cases hY; exact ⟨rfl, rfl⟩) (fun Y hY => by cases hY; exact rfl) (fun Y hY => by cases hY; exact rfl) (gs_cons (fun Y hY => by cases hY; exact ⟨nd34, rfl, by first | exact Or.inl rfl | exact Or.inr rfl, by first | exact Or.inl rfl | exact Or.inr rfl⟩) (fun Y hY => by cases hY; exact rfl) (gs_cons (fun Y hY => by cases hY; exact ⟨nd34, rfl, by first | exact Or.inl rfl | exact Or.inr rfl, by first | exact Or.inl rfl | exact Or.inr rfl⟩) (fun Y hY => by cases hY; exact rfl) gs_nil))) (ss_cons (s_ite (kt_cmp S (k_ix S (k_var 3) m_int) (k_var 1)) (ss_cons (s_ret (k_var 2))
      ss_nil) ss_nil)
    ss_nil))
  (ss_cons s_bad
  ss_nil))
abbrev x38 (P : Program) (w : World) (K : PySem.W.Frag) (mg : Str → Option Value) (base : Heap) (fa : Nat → Addr) (qual : Str) (cdv : Value) (A : Around) (outer : List PySem.Env) (s : Shared) (H : Hp) (E : XK) : Cx := cxOf (CX P w) P w K mg base n38 qual (defScope s38) (fa 38) cdv A outer s H E
theorem b38 (T : Tx (lk P w K mg ca fa fd)) (g : Gn P w K mg ca fa fd) (S : Sit (lk P w K mg ca fa fd) d (x38 P w K mg base fa qual cdv A outer s H E) xr W) :
    PMSs (lk P w K mg ca fa fd) xr W (x38 P w K mg base fa qual cdv A outer s H E) (ctx txt d) f38.body (defBody s38) :=
  (ss_cons (z_asgA S T (k_var 0) (m_tup (ms_cons (m_tup ms_nil) (ms_cons m_int ms_nil))))
  (ss_cons (z_asgA S T (k_var 0) (m_lst ms_nil))
  (ss_cons (z_asgA S T (k_var 0) (m_lst ms_nil))
  ss_nil)))
abbrev x39 (P : Program) (w : World) (K : PySem.W.Frag) (mg : Str → Option Value) (base : Heap) (fa : Nat → Addr) (qual : Str) (cdv : Value) (A : Around) (outer : List PySem.Env) (s : Shared) (H : Hp) (E : XK) : Cx := cxOf (CX P w) P w K mg base n39 qual (defScope s39) (fa 39) cdv A outer s H E
theorem b39 (T : Tx (lk P w K mg ca fa fd)) (g : Gn P w K mg ca fa fd) (S : Sit (lk P w K mg ca fa fd) d (x39 P w K mg base fa qual cdv A outer s H E) xr W) :
    PMSs (lk P w K mg ca fa fd) xr W (x39 P w K mg base fa qual cdv A outer s H E) (ctx txt d) f39.body (defBody s39) :=
  (ss_cons (s_expr (k_bm S (k_attr S T (k_var 0)) (ms_cons (k_attr S T (k_var 0)) ms_nil)))
  (ss_cons (z_asgA S T (k_var 0) (m_lst ms_nil))
  (ss_cons (z_asgA S T (k_var 0) (m_tup (ms_cons (k_bfT S g.b_tuple (ms_cons (k_var 1) ms_nil)) (ms_cons (k_var 2) ms_nil))))
  ss_nil)))
abbrev x40 (P : Program) (w : World) (K : PySem.W.Frag) (mg : Str → Option Value) (base : Heap) (fa : Nat → Addr) (qual : Str) (cdv : Value) (A : Around) (outer : List PySem.Env) (s : Shared) (H : Hp) (E : XK) : Cx := cxOf (CX P w) P w K mg base n40 qual (defScope s40) (fa 40) cdv A outer s H E
theorem b40 (T : Tx (lk P w K mg ca fa fd)) (g : Gn P w K mg ca fa fd) (S : Sit (lk P w K mg ca fa fd) d (x40 P w K mg base fa qual cdv A outer s H E) xr W) :
    PMSs (lk P w K mg ca fa fd) xr W (x40 P w K mg base fa qual cdv A outer s H E) (ctx txt d) f40.body (defBody s40) :=
  (ss_cons (s_ret (k_bfT S g.b_list (ms_cons (k_ix S (k_attr S T (k_var 0)) m_int) ms_nil)))
  ss_nil)
abbrev x41 (P : Program) (w : World) (K : PySem.W.Frag) (mg : Str → Option Value) (base : Heap) (fa : Nat → Addr) (qual : Str) (cdv : Value) (A : Around) (outer : List PySem.Env) (s : Shared) (H : Hp) (E : XK) : Cx := cxOf (CX P w) P w K mg base n41 qual (defScope s41) (fa 41) cdv A outer s H E
theorem b41 (T : Tx (lk P w K mg ca fa fd)) (g : Gn P w K mg ca fa fd) (S : Sit (lk P w K mg ca fa fd) d (x41 P w K mg base fa qual cdv A outer s H E) xr W) :
    PMSs (lk P w K mg ca fa fd) xr W (x41 P w K mg base fa qual cdv A outer s H E) (ctx txt d) f41.body (defBody s41) :=
  (ss_cons (s_ret (k_ix S (k_attr S T (k_var 0)) m_int))
  ss_nil)
abbrev x42 (P : Program) (w : World) (K : PySem.W.Frag) (mg : Str → Option Value) (base : Heap) (fa : Nat → Addr) (qual : Str) (cdv : Value) (A : Around) (outer : List PySem.Env) (s : Shared) (H : Hp) (E : XK) : Cx := cxOf (CX P w) P w K mg base n42 qual (defScope s42) (fa 42) cdv A outer s H E
theorem b42 (T : Tx (lk P w K mg ca fa fd)) (g : Gn P w K mg ca fa fd) (S : Sit (lk P w K mg ca fa fd) d (x42 P w K mg base fa qual cdv A outer s H E) xr W) :
    PMSs (lk P w K mg ca fa fd) xr W (x42 P w K mg base fa qual cdv A outer s H E) (ctx txt d) f42.body (defBody s42) :=
  (ss_cons (s_expr (k_call S g.f32 (ms_cons (k_var 1) ms_nil)))
  (ss_cons (s_expr (k_call S g.f33 (ms_cons (k_var 2) ms_nil)))
  (ss_cons (z_asg (k_meth0 S T (k_var 0)) (hN := nd42))
  (ss_cons (s_expr (k_meth S T (k_var 0) (ms_cons (k_op S (k_meth0 S T (k_var 0)) (m_lst (ms_cons (m_tup (ms_cons (k_var 3) (ms_cons (k_var 1) (ms_cons (k_var 2) ms_nil)))) ms_nil))) (ms_cons (k_op S (k_var 3) m_int) ms_nil))))
  (ss_cons (s_ret (k_var 3))
  ss_nil)))))
abbrev x43 (P : Program) (w : World) (K : PySem.W.Frag) (mg : Str → Option Value) (base : Heap) (fa : Nat → Addr) (qual : Str) (cdv : Value) (A : Around) (outer : List PySem.Env) (s : Shared) (H : Hp) (E : XK) : Cx := cxOf (CX P w) P w K mg base n43 qual (defScope s43) (fa 43) cdv A outer s H E
theorem b43 (T : Tx (lk P w K mg ca fa fd)) (g : Gn P w K mg ca fa fd) (S : Sit (lk P w K mg ca fa fd) d (x43 P w K mg base fa qual cdv A outer s H E) xr W) :
    PMSs (lk P w K mg ca fa fd) xr W (x43 P w K mg base fa qual cdv A outer s H E) (ctx txt d) f43.body (defBody s43) :=
  (ss_cons (z_asg (k_meth0 S T (k_var 0)) (hN := nd43))
  (ss_cons (z_asg (k_call S g.f34 (ms_cons (k_var 2) (ms_cons (k_var 1) ms_nil))) (hN := nd43))
  (ss_cons (s_expr (k_meth S T (k_var 0) (ms_cons (k_op S (k_sl S (k_var 2) o_none (o_some (k_var 3))) (k_sl S (k_var 2) (o_some (k_op S (k_var 3) m_int)) o_none)) (ms_cons (k_meth0 S T (k_var 0)) ms_nil))))
  ss_nil)))
abbrev x44 (P : Program) (w : World) (K : PySem.W.Frag) (mg : Str → Option Value) (base : Heap) (fa : Nat → Addr) (qual : Str) (cdv : Value) (A : Around) (outer : List PySem.Env) (s : Shared) (H : Hp) (E : XK) : Cx := cxOf (CX P w) P w K mg base n44 qual (defScope s44) (fa 44) cdv A outer s H E
theorem b44 (T : Tx (lk P w K mg ca fa fd)) (g : Gn P w K mg ca fa fd) (S : Sit (lk P w K mg ca fa fd) d (x44 P w K mg base fa qual cdv A outer s H E) xr W) :
    PMSs (lk P w K mg ca fa fd) xr W (x44 P w K mg base fa qual cdv A outer s H E) (ctx txt d) f44.body (defBody s44) :=
  (ss_cons (z_asg (k_meth0 S T (k_var 0)) (hN := nd44))
  (ss_cons (z_asg (k_call S g.f34 (ms_cons (k_var 4) (ms_cons (k_var 1) ms_nil))) (hN := nd44))
  (ss_cons (s_expr (k_call S g.f32 (ms_cons (k_var 2) ms_nil)))
  (ss_cons (s_expr (k_call S g.f33 (ms_cons (k_var 3) ms_nil)))
  (ss_cons (s_expr (k_meth S T (k_var 0) (ms_cons (k_op S (k_op S (k_sl S (k_var 4) o_none (o_some (k_var 5))) (m_lst (ms_cons (m_tup (ms_cons (k_var 1) (ms_cons (k_var 2) (ms_cons (k_var 3) ms_nil)))) ms_nil))) (k_sl S (k_var 4) (o_some (k_op S (k_var 5) m_int)) o_none)) (ms_cons (k_meth0 S T (k_var 0)) ms_nil))))
  ss_nil)))))
abbrev x45 (P : Program) (w : World) (K : PySem.W.Frag) (mg : Str → Option Value) (base : Heap) (fa : Nat → Addr) (qual : Str) (cdv : Value) (A : Around) (outer : List PySem.Env) (s : Shared) (H : Hp) (E : XK) : Cx := cxOf (CX P w) P w K mg base n45 qual (defScope s45) (fa 45) cdv A outer s H E
theorem b45 (T : Tx (lk P w K mg ca fa fd)) (g : Gn P w K mg ca fa fd) (S : Sit (lk P w K mg ca fa fd) d (x45 P w K mg base fa qual cdv A outer s H E) xr W) :
    PMSs (lk P w K mg ca fa fd) xr W (x45 P w K mg base fa qual cdv A outer s H E) (ctx txt d) f45.body (defBody s45) :=
  (ss_cons (s_ite (kt_cmp S (k_attr S T (k_var 0)) (m_lst ms_nil)) (ss_cons s_bad
    ss_nil) ss_nil)
  (ss_cons (s_expr (k_bm S (k_attr S T (k_var 0)) (ms_cons (k_attr S T (k_var 0)) ms_nil)))
  (ss_cons (z_asgA S T (k_var 0) (k_bm0 S (k_attr S T (k_var 0))))
  ss_nil)))
abbrev x49 (P : Program) (w : World) (K : PySem.W.Frag) (mg : Str → Option Value) (base : Heap) (fa : Nat → Addr) (qual : Str) (cdv : Value) (A : Around) (outer : List PySem.Env) (s : Shared) (H : Hp) (E : XK) : Cx := cxOf (CX P w) P w K mg base n49 qual (defScope s49) (fa 49) cdv A outer s H E
theorem b49 (T : Tx (lk P w K mg ca fa fd)) (g : Gn P w K mg ca fa fd) (S : Sit (lk P w K mg ca fa fd) d (x49 P w K mg base fa qual cdv A outer s H E) xr W) :
    PMSs (lk P w K mg ca fa fd) xr W (x49 P w K mg base fa qual cdv A outer s H E) (ctx txt d) f49.body (defBody s49) :=
  (ss_cons (z_asg (m_lst ms_nil) (hN := nd49))
  (ss_cons (z_asg m_int (hN := nd49))
  (ss_cons (z_for S (h_val S (k_sl S (k_var 0) o_none (o_some m_int))) (g_one (fun Y hY => by cases hY; exact ⟨nd49, rfl, by first | exact Or.inl rfl | exact Or.inr rfl, by first | exact Or.inl rfl | exact Or.inr rfl⟩)) (ss_cons (z_asg (k_op S (k_op S (k_op S (k_op S (k_var 3) m_int) (k_op S (k_var 4) m_int)) m_int) m_int) (hN := nd49))
    (ss_cons (z_asg (k_op S (k_var 4) (k_op S m_int m_int)) (hN := nd49))
    (ss_cons (s_ite (kt_cmp S (k_var 5) m_int) (ss_cons (s_expr (k_bm S (k_var 2) (ms_cons (k_op S (k_var 4) m_int) ms_nil)))
      ss_nil) ss_nil)
    (ss_cons (z_for S (h_range1 S g.b_range (ms_cons m_int ms_nil)) (g_one (fun Y hY => by cases hY; exact ⟨nd49, rfl, by first | exact Or.inl rfl | exact Or.inr rfl, by first | exact Or.inl rfl | exact Or.inr rfl⟩)) (ss_cons (s_ite (kt_cmp S (k_var 5) m_int) (ss_cons (s_expr (k_bm S (k_var 2) (ms_cons (k_op S (k_var 5) m_int) ms_nil)))
        (ss_cons (z_asg (k_op S (k_var 5) m_int) (hN := nd49))
        ss_nil)) ss_nil)
      ss_nil))
    ss_nil)))))
  (ss_cons (z_for S (h_range1 S g.b_range (ms_cons (k_op S (k_var 1) (k_bfB S g.b_len (ms_cons (k_var 2) ms_nil))) ms_nil)) (g_one (fun Y hY => by cases hY; exact ⟨nd49, rfl, by first | exact Or.inl rfl | exact Or.inr rfl, by first | exact Or.inl rfl | exact Or.inr rfl⟩)) (ss_cons (z_asg (k_op S (k_op S (k_op S (k_op S (k_op S (k_op S (k_var 3) (k_var 3)) (k_var 3)) (k_op S m_int (k_var 3))) (k_op S m_int (k_var 6))) m_int) m_int) (hN := nd49))
    (ss_cons (s_expr (k_bm S (k_var 2) (ms_cons (k_op S (k_op S (k_var 3) m_int) m_int) ms_nil)))
    ss_nil)))
  (ss_cons (s_ret (k_sl S (k_var 2) o_none (o_some (k_var 1))))
  ss_nil)))))
abbrev x50 (P : Program) (w : World) (K : PySem.W.Frag) (mg : Str → Option Value) (base : Heap) (fa : Nat → Addr) (qual : Str) (cdv : Value) (A : Around) (outer : List PySem.Env) (s : Shared) (H : Hp) (E : XK) : Cx := cxOf (CX P w) P w K mg base n50 qual (defScope s50) (fa 50) cdv A outer s H E
theorem b50 (T : Tx (lk P w K mg ca fa fd)) (g : Gn P w K mg ca fa fd) (S : Sit (lk P w K mg ca fa fd) d (x50 P w K mg base fa qual cdv A outer s H E) xr W) :
    PMSs (lk P w K mg ca fa fd) xr W (x50 P w K mg base fa qual cdv A outer s H E) (ctx txt d) f50.body (defBody s50) :=
  (ss_cons (s_ite (t_isN (k_var 1)) (ss_cons (s_ret (m_isN (k_var 0)))
    ss_nil) ss_nil)
  (ss_cons (s_ite (t_val (k_isi S g.b_isinstance g.b_bool (k_var 1))) (ss_cons (s_ret (m_and (k_isi S g.b_isinstance g.b_bool (k_var 0)) (m_and1 (k_cmp S (k_var 0) (k_var 1)))))
    ss_nil) ss_nil)
  (ss_cons (s_ite (t_w (w_or (t_val (k_isi S g.b_isinstance g.b_list (k_var 1))) (w_or1 (t_val (k_isi S g.b_isinstance g.b_tuple (k_var 1)))))) (ss_cons (s_ite (t_w (w_or (kt_cmp S (k_isi S g.b_isinstance g.b_list (k_var 0)) (k_isi S g.b_isinstance g.b_list (k_var 1))) (w_or1 (kt_cmp S (k_isi S g.b_isinstance g.b_tuple (k_var 0)) (k_isi S g.b_isinstance g.b_tuple (k_var 1)))))) (ss_cons (s_ret m_bl)
      ss_nil) ss_nil)
    (ss_cons (s_ret (m_and (k_cmp S (k_bfB S g.b_len (ms_cons (k_var 0) ms_nil)) (k_bfB S g.b_len (ms_cons (k_var 1) ms_nil))) (m_and1 (k_bfB S g.b_all (ms_cons (k_lc S [("_law_one", 2), ("_law_other", 3)] (h_zip S g.b_zip (ms_cons (k_var 0) (ms_cons (k_var 1) ms_nil))) (g_tup (fun Y hY => by obtain ⟨_, _, _, _, _, rfl⟩ := hY; exact ⟨rfl, rfl⟩) (fun Y hY => by obtain ⟨_, _, _, _, _, rfl⟩ := hY; exact rfl) (fun Y hY => by obtain ⟨_, _, _, _, _, rfl⟩ := hY; exact rfl) (gs_cons (fun Y hY => by obtain ⟨_, _, _, _, _, rfl⟩ := hY; exact ⟨nd50, rfl, by first | exact Or.inl rfl | exact Or.inr rfl, by first | exact Or.inl rfl | exact Or.inr rfl⟩) (fun Y hY => by obtain ⟨_, _, _, _, _, rfl⟩ := hY; exact rfl) (gs_cons (fun Y hY => by obtain ⟨_, _, _, _, _, rfl⟩ := hY; exact ⟨nd50, rfl, by first | exact Or.inl rfl | exact Or.inr rfl, by first | exact Or.inl rfl | exact Or.inr rfl⟩) (fun Y hY => by obtain ⟨_, _, _, _, _, rfl⟩ := hY; exact rfl) gs_nil))) (fun h Y hY S => by obtain ⟨_, _, _, _, _, rfl⟩ := hY; exact c_nil) (fun h Y hY S => by obtain ⟨_, _, _, _, _, rfl⟩ := hY; exact (k_call S g.f50 (ms_cons (k_var 2) (ms_cons (k_var 3) ms_nil)))) (hN := nd50) (ok := by show BlkOk n50 (defScope s50) _ _; exact ⟨rfl, by decide +kernel, by decide +kernel, by decide +kernel, by decide +kernel⟩)) ms_nil)))))
    ss_nil)) ss_nil)
  (ss_cons (s_ite (t_val (k_isi S g.b_isinstance g.b_str (k_var 1))) (ss_cons (s_ret (m_and (k_isi S g.b_isinstance g.b_str (k_var 0)) (m_and1 (k_cmp S (k_var 0) (k_var 1)))))
    ss_nil) ss_nil)
  (ss_cons (s_ret (m_and (k_isi S g.b_isinstance g.b_int (k_var 0)) (m_and (m_not (k_isi S g.b_isinstance g.b_bool (k_var 0))) (m_and1 (k_cmp S (k_var 0) (k_var 1))))))
  ss_nil)))))
abbrev x51 (P : Program) (w : World) (K : PySem.W.Frag) (mg : Str → Option Value) (base : Heap) (fa : Nat → Addr) (qual : Str) (cdv : Value) (A : Around) (outer : List PySem.Env) (s : Shared) (H : Hp) (E : XK) : Cx := cxOf (CX P w) P w K mg base n51 qual (defScope s51) (fa 51) cdv A outer s H E
theorem b51 (T : Tx (lk P w K mg ca fa fd)) (g : Gn P w K mg ca fa fd) (S : Sit (lk P w K mg ca fa fd) d (x51 P w K mg base fa qual cdv A outer s H E) xr W) :
    PMSs (lk P w K mg ca fa fd) xr W (x51 P w K mg base fa qual cdv A outer s H E) (ctx txt d) f51.body (defBody s51) :=
  (ss_cons (z_asg m_str (hN := nd51))
  (ss_cons (z_asg (k_bm S m_str (ms_cons (k_lc S [("_law_k", 6)] (h_range1 S g.b_range (ms_cons (k_op S (k_ix S (k_var 0) m_int) m_int) ms_nil)) (g_one (fun Y hY => by obtain ⟨_, _, _, _, _, rfl⟩ := hY; exact ⟨nd51, rfl, by first | exact Or.inl rfl | exact Or.inr rfl, by first | exact Or.inl rfl | exact Or.inr rfl⟩)) (fun h Y hY S => by obtain ⟨_, _, _, _, _, rfl⟩ := hY; exact c_nil) (fun h Y hY S => by obtain ⟨_, _, _, _, _, rfl⟩ := hY; exact (k_ix S (k_var 2) (k_op S (k_op S (k_ix S (k_var 0) m_int) (k_op S (k_op S (k_var 6) m_int) (k_op S (k_ix S (k_var 0) m_int) m_int))) m_int))) (hN := nd51) (ok := by show BlkOk n51 (defScope s51) _ _; exact ⟨rfl, by decide +kernel, by decide +kernel, by decide +kernel, by decide +kernel⟩)) ms_nil)) (hN := nd51))
  (ss_cons (z_asg (k_op S (k_ix S (k_var 0) m_int) (k_op S (k_bfB S g.b_len (ms_cons (k_var 3) ms_nil)) m_int)) (hN := nd51))
  (ss_cons (z_asg (m_lst ms_nil) (hN := nd51))
  (ss_cons (z_for S (h_range1 S g.b_range (ms_cons (k_var 1) ms_nil)) (g_one (fun Y hY => by cases hY; exact ⟨nd51, rfl, by first | exact Or.inl rfl | exact Or.inr rfl, by first | exact Or.inl rfl | exact Or.inr rfl⟩)) (ss_cons (z_asg (k_ix S (k_var 2) (k_op S (k_op S (k_ix S (k_var 0) m_int) (k_op S m_int (k_var 6))) m_int)) (hN := nd51))
    (ss_cons (s_expr (k_bm S (k_var 5) (ms_cons (k_op S (k_op S (k_sl S (k_var 3) o_none (o_some (k_var 4))) (k_var 7)) (k_sl S (k_var 3) (o_some (k_var 4)) o_none)) ms_nil)))
    ss_nil)))
  (ss_cons (s_ret (k_var 5))
  ss_nil))))))
abbrev x88 (P : Program) (w : World) (K : PySem.W.Frag) (mg : Str → Option Value) (base : Heap) (fa : Nat → Addr) (qual : Str) (cdv : Value) (A : Around) (outer : List PySem.Env) (s : Shared) (H : Hp) (E : XK) : Cx := cxOf (CX P w) P w K mg base n88 qual (defScope s88) (fa 88) cdv A outer s H E
theorem b88 (T : Tx (lk P w K mg ca fa fd)) (g : Gn P w K mg ca fa fd) (S : Sit (lk P w K mg ca fa fd) d (x88 P w K mg base fa qual cdv A outer s H E) xr W) :
    PMSs (lk P w K mg ca fa fd) xr W (x88 P w K mg base fa qual cdv A outer s H E) (ctx txt d) f88.body (defBody s88) :=
  (ss_cons (s_ite (kt_cmp S (k_var 0) m_str) (ss_cons (s_ret m_str)
    ss_nil) ss_nil)
  (ss_cons (s_ret (k_bfT S g.b_str (ms_cons (k_var 0) ms_nil)))
  ss_nil))
abbrev x91 (P : Program) (w : World) (K : PySem.W.Frag) (mg : Str → Option Value) (base : Heap) (fa : Nat → Addr) (qual : Str) (cdv : Value) (A : Around) (outer : List PySem.Env) (s : Shared) (H : Hp) (E : XK) : Cx := cxOf (CX P w) P w K mg base n91 qual (defScope s91) (fa 91) cdv A outer s H E
theorem b91 (T : Tx (lk P w K mg ca fa fd)) (g : Gn P w K mg ca fa fd) (S : Sit (lk P w K mg ca fa fd) d (x91 P w K mg base fa qual cdv A outer s H E) xr W) :
    PMSs (lk P w K mg ca fa fd) xr W (x91 P w K mg base fa qual cdv A outer s H E) (ctx txt d) f91.body (defBody s91) :=
  (ss_cons (s_ret (k_bm S m_str (ms_cons (k_lc S [("thing", 1)] (h_val S (k_var 0)) (g_one (fun Y hY => by obtain ⟨_, _, _, _, _, rfl⟩ := hY; exact ⟨nd91, rfl, by first | exact Or.inl rfl | exact Or.inr rfl, by first | exact Or.inl rfl | exact Or.inr rfl⟩)) (fun h Y hY S => by obtain ⟨_, _, _, _, _, rfl⟩ := hY; exact c_nil) (fun h Y hY S => by obtain ⟨_, _, _, _, _, rfl⟩ := hY; exact (k_call S g.f88 (ms_cons (k_var 1) ms_nil))) (hN := nd91) (ok := by show BlkOk n91 (defScope s91) _ _; exact ⟨rfl, by decide +kernel, by decide +kernel, by decide +kernel, by decide +kernel⟩)) ms_nil)))
  ss_nil)
abbrev x92 (P : Program) (w : World) (K : PySem.W.Frag) (mg : Str → Option Value) (base : Heap) (fa : Nat → Addr) (qual : Str) (cdv : Value) (A : Around) (outer : List PySem.Env) (s : Shared) (H : Hp) (E : XK) : Cx := cxOf (CX P w) P w K mg base n92 qual (defScope s92) (fa 92) cdv A outer s H E
theorem b92 (T : Tx (lk P w K mg ca fa fd)) (g : Gn P w K mg ca fa fd) (S : Sit (lk P w K mg ca fa fd) d (x92 P w K mg base fa qual cdv A outer s H E) xr W) :
    PMSs (lk P w K mg ca fa fd) xr W (x92 P w K mg base fa qual cdv A outer s H E) (ctx txt d) f92.body (defBody s92) :=
  (ss_cons (z_asg (m_lst (ms_cons (m_fstr (j_str (j_fmt (k_meth0 S T (k_var 0)) j_nil))) ms_nil)) (hN := nd92))
  (ss_cons (z_for S (h_val S (k_meth0 S T (k_var 0))) (g_tup (fun Y hY => by cases hY; exact ⟨rfl, rfl⟩) (fun Y hY => by cases hY; exact rfl) (fun Y hY => by cases hY; exact rfl) (gs_cons (fun Y hY => by cases hY; exact ⟨nd92, rfl, by first | exact Or.inl rfl | exact Or.inr rfl, by first | exact Or.inl rfl | exact Or.inr rfl⟩) (fun Y hY => by cases hY; exact rfl) (gs_cons (fun Y hY => by cases hY; exact ⟨nd92, rfl, by first | exact Or.inl rfl | exact Or.inr rfl, by first | exact Or.inl rfl | exact Or.inr rfl⟩) (fun Y hY => by cases hY; exact rfl) (gs_cons (fun Y hY => by cases hY; exact ⟨nd92, rfl, by first | exact Or.inl rfl | exact Or.inr rfl, by first | exact Or.inl rfl | exact Or.inr rfl⟩) (fun Y hY => by cases hY; exact rfl) gs_nil)))) (ss_cons (s_expr (k_bm S (k_var 1) (ms_cons (m_fstr (j_fmt (k_var 2) (j_str (j_fmt (k_var 3) (j_str (j_fmt (k_call S g.f91 (ms_cons (k_var 4) ms_nil)) j_nil)))))) ms_nil)))
    ss_nil))
  (ss_cons (s_ret (k_bm S m_str (ms_cons (k_lc S [("row", 5)] (h_val S (k_var 1)) (g_one (fun Y hY => by obtain ⟨_, _, _, _, _, rfl⟩ := hY; exact ⟨nd92, rfl, by first | exact Or.inl rfl | exact Or.inr rfl, by first | exact Or.inl rfl | exact Or.inr rfl⟩)) (fun h Y hY S => by obtain ⟨_, _, _, _, _, rfl⟩ := hY; exact c_nil) (fun h Y hY S => by obtain ⟨_, _, _, _, _, rfl⟩ := hY; exact (k_op S (k_var 5) m_str)) (hN := nd92) (ok := by show BlkOk n92 (defScope s92) _ _; exact ⟨rfl, by decide +kernel, by decide +kernel, by decide +kernel, by decide +kernel⟩)) ms_nil)))
  ss_nil)))
abbrev x101 (P : Program) (w : World) (K : PySem.W.Frag) (mg : Str → Option Value) (base : Heap) (fa : Nat → Addr) (qual : Str) (cdv : Value) (A : Around) (outer : List PySem.Env) (s : Shared) (H : Hp) (E : XK) : Cx := cxOf (CX P w) P w K mg base n101 qual (defScope s101) (fa 101) cdv A outer s H E
theorem b101 (T : Tx (lk P w K mg ca fa fd)) (g : Gn P w K mg ca fa fd) (S : Sit (lk P w K mg ca fa fd) d (x101 P w K mg base fa qual cdv A outer s H E) xr W) :
    PMSs (lk P w K mg ca fa fd) xr W (x101 P w K mg base fa qual cdv A outer s H E) (ctx txt d) f101.body (defBody s101) :=
  (ss_cons (s_ret (k_bm S m_str (ms_cons (k_lc S [("_law_thing", 1)] (h_val S (k_var 0)) (g_one (fun Y hY => by obtain ⟨_, _, _, _, _, rfl⟩ := hY; exact ⟨nd101, rfl, by first | exact Or.inl rfl | exact Or.inr rfl, by first | exact Or.inl rfl | exact Or.inr rfl⟩)) (fun h Y hY S => by obtain ⟨_, _, _, _, _, rfl⟩ := hY; exact c_nil) (fun h Y hY S => by obtain ⟨_, _, _, _, _, rfl⟩ := hY; exact (m_ite (kt_cmp S (k_var 1) m_str) m_str (k_bfT S g.b_str (ms_cons (k_var 1) ms_nil)))) (hN := nd101) (ok := by show BlkOk n101 (defScope s101) _ _; exact ⟨rfl, by decide +kernel, by decide +kernel, by decide +kernel, by decide +kernel⟩)) ms_nil)))
  ss_nil)
abbrev x102 (P : Program) (w : World) (K : PySem.W.Frag) (mg : Str → Option Value) (base : Heap) (fa : Nat → Addr) (qual : Str) (cdv : Value) (A : Around) (outer : List PySem.Env) (s : Shared) (H : Hp) (E : XK) : Cx := cxOf (CX P w) P w K mg base n102 qual (defScope s102) (fa 102) cdv A outer s H E
theorem b102 (T : Tx (lk P w K mg ca fa fd)) (g : Gn P w K mg ca fa fd) (S : Sit (lk P w K mg ca fa fd) d (x102 P w K mg base fa qual cdv A outer s H E) xr W) :
    PMSs (lk P w K mg ca fa fd) xr W (x102 P w K mg base fa qual cdv A outer s H E) (ctx txt d) f102.body (defBody s102) :=
  (ss_cons (z_asg (m_lst (ms_cons (k_op S m_str (k_bfT S g.b_str (ms_cons (k_var 1) ms_nil))) ms_nil)) (hN := nd102))
  (ss_cons (z_for S (h_val S (k_var 0)) (g_tup (fun Y hY => by cases hY; exact ⟨rfl, rfl⟩) (fun Y hY => by cases hY; exact rfl) (fun Y hY => by cases hY; exact rfl) (gs_cons (fun Y hY => by cases hY; exact ⟨nd102, rfl, by first | exact Or.inl rfl | exact Or.inr rfl, by first | exact Or.inl rfl | exact Or.inr rfl⟩) (fun Y hY => by cases hY; exact rfl) (gs_cons (fun Y hY => by cases hY; exact ⟨nd102, rfl, by first | exact Or.inl rfl | exact Or.inr rfl, by first | exact Or.inl rfl | exact Or.inr rfl⟩) (fun Y hY => by cases hY; exact rfl) (gs_cons (fun Y hY => by cases hY; exact ⟨nd102, rfl, by first | exact Or.inl rfl | exact Or.inr rfl, by first | exact Or.inl rfl | exact Or.inr rfl⟩) (fun Y hY => by cases hY; exact rfl) gs_nil)))) (ss_cons (s_expr (k_bm S (k_var 2) (ms_cons (k_bm S m_str (ms_cons (m_lst (ms_cons (k_bfT S g.b_str (ms_cons (k_var 3) ms_nil)) (ms_cons (k_bfT S g.b_str (ms_cons (k_var 4) ms_nil)) (ms_cons (k_call S g.f101 (ms_cons (k_var 5) ms_nil)) ms_nil)))) ms_nil)) ms_nil)))
    ss_nil))
  (ss_cons (s_ret (k_bm S m_str (ms_cons (k_lc S [("_law_line", 6)] (h_val S (k_var 2)) (g_one (fun Y hY => by obtain ⟨_, _, _, _, _, rfl⟩ := hY; exact ⟨nd102, rfl, by first | exact Or.inl rfl | exact Or.inr rfl, by first | exact Or.inl rfl | exact Or.inr rfl⟩)) (fun h Y hY S => by obtain ⟨_, _, _, _, _, rfl⟩ := hY; exact c_nil) (fun h Y hY S => by obtain ⟨_, _, _, _, _, rfl⟩ := hY; exact (k_op S (k_var 6) m_str)) (hN := nd102) (ok := by show BlkOk n102 (defScope s102) _ _; exact ⟨rfl, by decide +kernel, by decide +kernel, by decide +kernel, by decide +kernel⟩)) ms_nil)))
  ss_nil)))
abbrev x103 (P : Program) (w : World) (K : PySem.W.Frag) (mg : Str → Option Value) (base : Heap) (fa : Nat → Addr) (qual : Str) (cdv : Value) (A : Around) (outer : List PySem.Env) (s : Shared) (H : Hp) (E : XK) : Cx := cxOf (CX P w) P w K mg base n103 qual (defScope s103) (fa 103) cdv A outer s H E
theorem b103 (T : Tx (lk P w K mg ca fa fd)) (g : Gn P w K mg ca fa fd) (S : Sit (lk P w K mg ca fa fd) d (x103 P w K mg base fa qual cdv A outer s H E) xr W) :
    PMSs (lk P w K mg ca fa fd) xr W (x103 P w K mg base fa qual cdv A outer s H E) (ctx txt d) f103.body (defBody s103) :=
  (ss_cons (z_asgP2 S (ms_cons (k_ix S (k_var 0) (k_op S (k_ix S (k_var 1) m_int) (k_bfB S g.b_len (ms_cons (k_var 0) ms_nil)))) (ms_cons (k_ix S (k_var 0) (k_op S (k_ix S (k_var 1) m_int) (k_bfB S g.b_len (ms_cons (k_var 0) ms_nil)))) ms_nil)) (hN := nd103))
  (ss_cons (z_asg (m_lst (ms_cons (k_op S (k_op S (k_ix S (k_var 1) m_int) m_int) m_int) (ms_cons (k_op S (k_ix S (k_var 1) m_int) m_int) (ms_cons (k_op S (k_op S (k_op S (k_ix S (k_var 1) m_int) m_int) m_int) (k_op S m_int m_int)) (ms_cons m_int ms_nil))))) (hN := nd103))
  (ss_cons (z_asg (k_ix S (k_var 4) (k_op S (k_ix S (k_var 1) m_int) m_int)) (hN := nd103))
  (ss_cons (z_asg (m_lst (ms_cons (m_tup (ms_cons m_str (ms_cons (k_var 2) (ms_cons (k_op S (k_op S (k_ix S (k_var 1) m_int) m_int) m_int) (ms_cons (k_var 5) (ms_cons (k_op S (k_var 5) (k_op S (k_ix S (k_var 1) m_int) m_int)) ms_nil)))))) (ms_cons (m_tup (ms_cons m_str (ms_cons (k_var 2) ms_nil))) (ms_cons (m_tup (ms_cons m_str (ms_cons (k_var 2) (ms_cons (k_var 5) ms_nil)))) ms_nil)))) (hN := nd103))
  (ss_cons (z_asg (k_catc S (k_var 6) (m_lst (ms_cons (m_tup (ms_cons m_str (ms_cons (k_var 2) (ms_cons (k_op S m_int (k_op S (k_ix S (k_var 1) m_int) m_int)) (ms_cons (k_var 5) (ms_cons (k_op S (k_op S (k_var 5) m_int) (k_ix S (k_var 1) m_int)) (ms_cons (k_op S m_int (k_ix S (k_var 1) m_int)) ms_nil))))))) (ms_cons (m_tup (ms_cons m_str (ms_cons (k_var 2) ms_nil))) (ms_cons (m_tup (ms_cons m_str (ms_cons (k_var 2) ms_nil))) ms_nil))))) (hN := nd103))
  (ss_cons (z_asg (k_catc S (k_var 6) (m_lst (ms_cons (m_tup (ms_cons m_str (ms_cons (k_var 2) (ms_cons (k_var 3) (ms_cons (k_var 5) (ms_cons (k_op S m_int (k_ix S (k_var 1) m_int)) ms_nil)))))) (ms_cons (m_tup (ms_cons m_str (ms_cons (k_var 2) (ms_cons (k_var 3) (ms_cons (k_var 5) ms_nil))))) ms_nil)))) (hN := nd103))
  (ss_cons (s_expr (k_bm S (k_var 6) (ms_cons (m_tup (ms_cons m_str (ms_cons (k_var 2) (ms_cons m_str (ms_cons (k_var 3) (ms_cons (k_var 5) ms_nil)))))) ms_nil)))
  (ss_cons (s_expr (k_bm S (k_var 6) (ms_cons (m_tup (ms_cons m_str (ms_cons (k_var 2) (ms_cons (k_var 3) (ms_cons (k_ix S (k_var 0) (k_op S (k_ix S (k_var 1) m_int) (k_bfB S g.b_len (ms_cons (k_var 0) ms_nil)))) (ms_cons (k_var 5) ms_nil)))))) ms_nil)))
  (ss_cons (s_expr (k_bm S (k_var 6) (ms_cons (m_tup (ms_cons m_str (ms_cons (k_var 2) (ms_cons (k_var 3) (ms_cons (k_var 5) (ms_cons (k_op S (k_op S (k_ix S (k_var 1) m_int) m_int) (k_op S m_int m_int)) ms_nil)))))) ms_nil)))
  (ss_cons (s_ret (k_ix S (k_var 6) (k_op S (k_ix S (k_var 1) m_int) m_int)))
  ss_nil))))))))))
abbrev x104 (P : Program) (w : World) (K : PySem.W.Frag) (mg : Str → Option Value) (base : Heap) (fa : Nat → Addr) (qual : Str) (cdv : Value) (A : Around) (outer : List PySem.Env) (s : Shared) (H : Hp) (E : XK) : Cx := cxOf (CX P w) P w K mg base n104 qual (defScope s104) (fa 104) cdv A outer s H E
theorem b104 (T : Tx (lk P w K mg ca fa fd)) (g : Gn P w K mg ca fa fd) (S : Sit (lk P w K mg ca fa fd) d (x104 P w K mg base fa qual cdv A outer s H E) xr W) :
    PMSs (lk P w K mg ca fa fd) xr W (x104 P w K mg base fa qual cdv A outer s H E) (ctx txt d) f104.body (defBody s104) :=
  (ss_cons (z_asg (m_lst ms_nil) (hN := nd104))
  (ss_cons (z_asg m_int (hN := nd104))
  (ss_cons (z_for S (h_range1 S g.b_range (ms_cons (k_var 2) ms_nil)) (g_one (fun Y hY => by cases hY; exact ⟨nd104, rfl, by first | exact Or.inl rfl | exact Or.inr rfl, by first | exact Or.inl rfl | exact Or.inr rfl⟩)) (ss_cons (z_asg (k_sl S (k_var 0) (o_some (k_op S m_int (k_var 5))) (o_some (k_op S (k_op S m_int (k_var 5)) m_int))) (hN := nd104))
    (ss_cons (z_asg (k_op S (k_op S (k_var 4) m_int) (k_op S (k_ix S (k_var 6) m_int) (k_ix S (m_lst (ms_cons m_int (ms_cons m_int ms_nil))) (k_op S (k_ix S (k_var 6) m_int) m_int)))) (hN := nd104))
    (ss_cons (s_expr (k_bm S (k_var 3) (ms_cons (m_tup (ms_cons (k_var 4) (ms_cons (k_op S m_int (k_op S (k_ix S (k_var 6) m_int) (k_ix S (m_lst (ms_cons m_int (ms_cons m_int ms_nil))) (k_op S (k_ix S (k_var 6) m_int) m_int)))) (ms_cons (k_call S g.f103 (ms_cons (k_var 1) (ms_cons (k_var 6) ms_nil))) ms_nil)))) ms_nil)))
    ss_nil))))
  (ss_cons (s_ret (m_tup (ms_cons (k_var 3) (ms_cons (k_op S (k_op S (k_var 4) m_int) (k_op S (k_ix S (k_var 0) m_int) m_int)) ms_nil))))
  ss_nil))))
abbrev x105 (P : Program) (w : World) (K : PySem.W.Frag) (mg : Str → Option Value) (base : Heap) (fa : Nat → Addr) (qual : Str) (cdv : Value) (A : Around) (outer : List PySem.Env) (s : Shared) (H : Hp) (E : XK) : Cx := cxOf (CX P w) P w K mg base n105 qual (defScope s105) (fa 105) cdv A outer s H E
theorem b105 (T : Tx (lk P w K mg ca fa fd)) (g : Gn P w K mg ca fa fd) (S : Sit (lk P w K mg ca fa fd) d (x105 P w K mg base fa qual cdv A outer s H E) xr W) :
    PMSs (lk P w K mg ca fa fd) xr W (x105 P w K mg base fa qual cdv A outer s H E) (ctx txt d) f105.body (defBody s105) :=
  (ss_cons (z_asg (k_call S g.f49 (ms_cons (k_var 0) (ms_cons m_int ms_nil))) (hN := nd105))
  (ss_cons (z_asg (k_call S g.f51 (ms_cons (k_sl S (k_var 1) (o_some m_int) (o_some m_int)) (ms_cons m_int ms_nil))) (hN := nd105))
  (ss_cons (z_asg (k_make0 S T g.c18) (hN := nd105))
  (ss_cons (z_asg (m_lst ms_nil) (hN := nd105))
  (ss_cons (z_asg m_int (hN := nd105))
  (ss_cons (z_for S (h_val S (k_ix S (k_call S g.f104 (ms_cons (k_sl S (k_var 1) (o_some m_int) o_none) (ms_cons (k_var 2) (ms_cons (k_op S (k_ix S (k_var 1) m_int) m_int) ms_nil)))) m_int)) (g_tup (fun Y hY => by cases hY; exact ⟨rfl, rfl⟩) (fun Y hY => by cases hY; exact rfl) (fun Y hY => by cases hY; exact rfl) (gs_cons (fun Y hY => by cases hY; exact ⟨nd105, rfl, by first | exact Or.inl rfl | exact Or.inr rfl, by first | exact Or.inl rfl | exact Or.inr rfl⟩) (fun Y hY => by cases hY; exact rfl) (gs_cons (fun Y hY => by cases hY; exact ⟨nd105, rfl, by first | exact Or.inl rfl | exact Or.inr rfl, by first | exact Or.inl rfl | exact Or.inr rfl⟩) (fun Y hY => by cases hY; exact rfl) (gs_cons (fun Y hY => by cases hY; exact ⟨nd105, rfl, by first | exact Or.inl rfl | exact Or.inr rfl, by first | exact Or.inl rfl | exact Or.inr rfl⟩) (fun Y hY => by cases hY; exact rfl) gs_nil)))) (ss_cons (s_ite (t_not (t_val (k_call S g.f50 (ms_cons (k_meth S T (k_var 3) (ms_cons (k_var 7) (ms_cons (k_var 8) ms_nil))) (ms_cons (k_var 5) ms_nil))))) (ss_cons (s_ret m_bl)
      ss_nil) ss_nil)
    (ss_cons (s_expr (k_bm S (k_var 4) (ms_cons (m_tup (ms_cons (k_var 5) (ms_cons (k_var 7) (ms_cons (k_var 8) ms_nil)))) ms_nil)))
    (ss_cons (z_asg (k_op S (k_var 5) m_int) (hN := nd105))
    (ss_cons (s_ite (kt_cmp S (k_op S (k_var 6) m_int) m_int) (ss_cons (s_expr (k_meth S T (k_var 3) (ms_cons (k_ix S (k_bm0 S (k_var 4)) m_int) ms_nil)))
      ss_nil) ss_nil)
    (ss_cons (s_ite (t_w (w_and (kt_cmp S (k_op S (k_var 6) m_int) m_int) (w_and1 (kt_cmp S (k_var 4) (m_lst ms_nil))))) (ss_cons (z_asgT S (g_tup (fun Y hY => by cases hY; exact ⟨rfl, rfl⟩) (fun Y hY => by cases hY; exact rfl) (fun Y hY => by cases hY; exact rfl) (gs_cons (fun Y hY => by cases hY; exact ⟨nd105, rfl, by first | exact Or.inl rfl | exact Or.inr rfl, by first | exact Or.inl rfl | exact Or.inr rfl⟩) (fun Y hY => by cases hY; exact rfl) (gs_cons (fun Y hY => by cases hY; exact ⟨nd105, rfl, by first | exact Or.inl rfl | exact Or.inr rfl, by first | exact Or.inl rfl | exact Or.inr rfl⟩) (fun Y hY => by cases hY; exact rfl) (gs_cons (fun Y hY => by cases hY; exact ⟨nd105, rfl, by first | exact Or.inl rfl | exact Or.inr rfl, by first | exact Or.inl rfl | exact Or.inr rfl⟩) (fun Y hY => by cases hY; exact rfl) gs_nil)))) (k_ix S (k_var 4) m_int))
      (ss_cons (z_asgI S (k_var 4) m_int (m_tup (ms_cons (k_var 6) (ms_cons m_int (ms_cons (k_var 8) ms_nil)))))
      (ss_cons (s_expr (k_meth S T (k_var 3) (ms_cons (k_var 6) (ms_cons m_int (ms_cons (k_var 8) ms_nil)))))
      ss_nil))) ss_nil)
    (ss_cons (s_ite (t_w (w_and (kt_cmp S (k_op S (k_ix S (k_var 1) m_int) m_int) m_int) (w_and1 (t_not (t_val (k_call S g.f50 (ms_cons (k_call S g.f92 (ms_cons (k_var 3) ms_nil)) (ms_cons (k_call S g.f102 (ms_cons (k_var 4) (ms_cons (k_var 5) ms_nil))) ms_nil)))))))) (ss_cons (s_ret m_bl)
      ss_nil) ss_nil)
    ss_nil)))))))
  (ss_cons (z_for S (h_range1 S g.b_range (ms_cons m_int ms_nil)) (g_one (fun Y hY => by cases hY; exact ⟨nd105, rfl, by first | exact Or.inl rfl | exact Or.inr rfl, by first | exact Or.inl rfl | exact Or.inr rfl⟩)) (ss_cons (s_ite (t_not (t_val (k_call S g.f50 (ms_cons (k_call S g.f92 (ms_cons (k_var 3) ms_nil)) (ms_cons (k_call S g.f102 (ms_cons (k_var 4) (ms_cons (k_var 5) ms_nil))) ms_nil))))) (ss_cons (s_ret m_bl)
      ss_nil) ss_nil)
    ss_nil))
  (ss_cons (s_expr (k_meth S T (k_var 3) (ms_cons m_int (ms_cons (m_tup (ms_cons m_str (ms_cons (k_ix S (k_var 2) m_int) ms_nil))) ms_nil))))
  (ss_cons (s_expr (k_meth0 S T (k_var 3)))
  (ss_cons (s_ret (m_and (k_call S g.f50 (ms_cons (k_call S g.f92 (ms_cons (k_var 3) ms_nil)) (ms_cons (k_call S g.f102 (ms_cons (k_var 4) (ms_cons (k_var 5) ms_nil))) ms_nil))) (m_and1 (k_call S g.f50 (ms_cons (k_meth0 S T (k_var 3)) (ms_cons (k_var 4) ms_nil))))))
  ss_nil))))))))))
end
/-! the head -/
def dd0 : He.DefD := ⟨("is_name", none), "is_name", "is_name", defArgs s0, defBody s0, defScope s0, [], []⟩
def dd6 : He.DefD := ⟨("check_deed", none), "check_deed", "check_deed", defArgs s6, defBody s6, defScope s6, [], []⟩
def dd32 : He.DefD := ⟨("check_day", none), "check_day", "check_day", defArgs s32, defBody s32, defScope s32, [], []⟩
def dd33 : He.DefD := ⟨("check_row", none), "check_row", "check_row", defArgs s33, defBody s33, defScope s33, [], []⟩
def dd34 : He.DefD := ⟨("place_of", none), "place_of", "place_of", defArgs s34, defBody s34, defScope s34, [], []⟩
def dd38 : He.DefD := ⟨("Diary", some "__init__"), "__init__", "Diary.__init__", defArgs s38, defBody s38, defScope s38, [], []⟩
def dd39 : He.DefD := ⟨("Diary", some "become"), "become", "Diary.become", defArgs s39, defBody s39, defScope s39, [], []⟩
def dd40 : He.DefD := ⟨("Diary", some "rows"), "rows", "Diary.rows", defArgs s40, defBody s40, defScope s40, [], []⟩
def dd41 : He.DefD := ⟨("Diary", some "coming"), "coming", "Diary.coming", defArgs s41, defBody s41, defScope s41, [], []⟩
def dd42 : He.DefD := ⟨("Diary", some "enter"), "enter", "Diary.enter", defArgs s42, defBody s42, defScope s42, [], []⟩
def dd43 : He.DefD := ⟨("Diary", some "strike"), "strike", "Diary.strike", defArgs s43, defBody s43, defScope s43, [], []⟩
def dd44 : He.DefD := ⟨("Diary", some "correct"), "correct", "Diary.correct", defArgs s44, defBody s44, defScope s44, [], []⟩
def dd45 : He.DefD := ⟨("Diary", some "back"), "back", "Diary.back", defArgs s45, defBody s45, defScope s45, [], []⟩
def dd49 : He.DefD := ⟨("_law_feed", none), "_law_feed", "_law_feed", defArgs s49, defBody s49, defScope s49, [], []⟩
def dd50 : He.DefD := ⟨("_law_same", none), "_law_same", "_law_same", defArgs s50, defBody s50, defScope s50, [], []⟩
def dd51 : He.DefD := ⟨("_law_names", none), "_law_names", "_law_names", defArgs s51, defBody s51, defScope s51, [], []⟩
def dd88 : He.DefD := ⟨("word_of", none), "word_of", "word_of", defArgs s88, defBody s88, defScope s88, [], []⟩
def dd91 : He.DefD := ⟨("deed_text", none), "deed_text", "deed_text", defArgs s91, defBody s91, defScope s91, [], []⟩
def dd92 : He.DefD := ⟨("written", none), "written", "written", defArgs s92, defBody s92, defScope s92, [], []⟩
def dd101 : He.DefD := ⟨("_law_text_of", none), "_law_text_of", "_law_text_of", defArgs s101, defBody s101, defScope s101, [], []⟩
def dd102 : He.DefD := ⟨("_law_page", none), "_law_page", "_law_page", defArgs s102, defBody s102, defScope s102, [], []⟩
def dd103 : He.DefD := ⟨("_law_free_row", none), "_law_free_row", "_law_free_row", defArgs s103, defBody s103, defScope s103, [], []⟩
def dd104 : He.DefD := ⟨("_law_free_rows", none), "_law_free_rows", "_law_free_rows", defArgs s104, defBody s104, defScope s104, [], []⟩
def dd105 : He.DefD := ⟨("law", none), "law", "law", defArgs s105, defBody s105, defScope s105, [], []⟩
def fns : List He.DefD := [dd0, dd6, dd32, dd33, dd34, dd38, dd39, dd40, dd41, dd42, dd43, dd44, dd45, dd49, dd50, dd51, dd88, dd91, dd92, dd101, dd102, dd103, dd104, dd105]
def kv_COUNTS : List (Str × He.Dv) := [("trestle", .int 5), ("board", .int 6), ("away", .int 2), ("along", .int 3), ("sack", .int 5), ("move", .int 4), ("lift", .int 2), ("cord", .int 5), ("cut", .int 2)]
def kv_KINDS : List (Str × He.Dv) := [("trestle", .str "nddd"), ("board", .str "ndddd"), ("away", .str "n"), ("along", .str "nd"), ("sack", .str "nndd"), ("move", .str "nnd"), ("lift", .str "n"), ("cord", .str "nund"), ("cut", .str "n")]
def fas : List He.Fa := [.glo "is_name", .glo "check_deed", .glo "check_day", .glo "check_row", .glo "place_of", .glo "_law_feed", .glo "_law_same", .glo "_law_names", .glo "word_of", .glo "deed_text", .glo "written", .glo "_law_text_of", .glo "_law_page", .glo "_law_free_row", .glo "_law_free_rows", .glo "law", .free "abs", .free "all", .free "bool", .free "enumerate", .free "int", .free "isinstance", .free "len", .free "list", .free "range", .free "str", .free "tuple", .free "zip", .glo "Diary", .cls "Diary", .noat "Diary" "state", .noat "Diary" "elder", .noat "Diary" "undone", .meth "Diary" "coming", .meth "Diary" "become", .meth "Diary" "rows", .meth "Diary" "enter", .meth "Diary" "strike", .meth "Diary" "correct", .meth "Diary" "back", .mkr "Diary", .glo "COUNTS", .glo "KINDS", .int "LAST_DAY" 9999, .str "LETTERS" "abcdefghijklmnopqrstuvwxyz", .int "LONGEST" 8, .int "MOST" 9999999999]
def tabs : List He.Tab := [((fun K => He.ga K "COUNTS"), ["trestle", "board", "away", "along", "sack", "move", "lift", "cord", "cut"]), ((fun K => He.ga K "KINDS"), ["trestle", "board", "away", "along", "sack", "move", "lift", "cord", "cut"])]
def ex (K : PySem.W.Frag) : Bool := (dkB K (He.ga K "COUNTS") kv_COUNTS && (dkB K (He.ga K "KINDS") kv_KINDS && true))
def loose0 : List Str := ["_wall", "YardError", "BadName", "Taken", "BadCourse", "BadPlace", "BadWeight", "Full", "Crowded", "NoThing", "InUse", "NoSack", "NoCord", "BadCord", "BadDeed", "BadDay", "NoEntry", "NothingThere", "LETTERS", "LONGEST", "FAR", "TOP_COURSE", "HEAVIEST", "is_name", "check_name", "check_course", "check_stretch", "check_on", "check_weight", "MOST_BOARDS"]
def loose1 : List Str := ["MOST_TRESTLES", "MOST_SACKS", "MOST_CORDS", "COUNTS", "check_deed", "rows_of", "room", "Yard", "LAST_DAY", "MOST", "KINDS", "check_day", "check_row", "place_of", "in_order", "by_day", "is_done", "Diary", "word_of", "deed_text", "written", "_law_feed", "_law_same", "_law_names", "_law_text_of", "_law_page", "_law_free_row", "_law_free_rows"]
def loose : List Str := loose0 ++ loose1
abbrev R : PySem.W.OpenRow := PySem.W.OpenLaw.row PySem.Challenge.rw_dunnage_k45_pages_written
abbrev hk : PySem.W.Hook := He.hookX 5 fas fns tabs [] ex
def ob (s : PySem.W.SharedT) : He.AlX := He.obsX 5 fas fns tabs [] ex (HandSHeadRun.getT s)
theorem ob_eq (s : PySem.W.SharedT) : ob s = hk.obs s.abs := He.obsX_eq (HandSHeadRun.getT_eq s)
/-! what the head gives -/
def caS (K : PySem.W.Frag) : Nat → Addr
  | 18 => He.ga K "Diary"
  | _ => 0
def faS (K : PySem.W.Frag) : Nat → Addr
  | 0 => He.fAd K ("is_name", none)
  | 6 => He.fAd K ("check_deed", none)
  | 32 => He.fAd K ("check_day", none)
  | 33 => He.fAd K ("check_row", none)
  | 34 => He.fAd K ("place_of", none)
  | 38 => He.fAd K ("Diary", some "__init__")
  | 39 => He.fAd K ("Diary", some "become")
  | 40 => He.fAd K ("Diary", some "rows")
  | 41 => He.fAd K ("Diary", some "coming")
  | 42 => He.fAd K ("Diary", some "enter")
  | 43 => He.fAd K ("Diary", some "strike")
  | 44 => He.fAd K ("Diary", some "correct")
  | 45 => He.fAd K ("Diary", some "back")
  | 49 => He.fAd K ("_law_feed", none)
  | 50 => He.fAd K ("_law_same", none)
  | 51 => He.fAd K ("_law_names", none)
  | 88 => He.fAd K ("word_of", none)
  | 91 => He.fAd K ("deed_text", none)
  | 92 => He.fAd K ("written", none)
  | 101 => He.fAd K ("_law_text_of", none)
  | 102 => He.fAd K ("_law_page", none)
  | 103 => He.fAd K ("_law_free_row", none)
  | 104 => He.fAd K ("_law_free_rows", none)
  | 105 => He.fAd K ("law", none)
  | _ => 0
abbrev LL (P : Program) (w : World) (K : PySem.W.Frag) (mg : Str → Option Value) : Lk := lk P w K mg (caS K) (faS K) (fun i => fdOf K (faS K i))
section
variable {P : Program} {w : World} {K : PySem.W.Frag} {mg : Str → Option Value} {h base : Heap} (X : K.In h) (G : h.Ns mainGlobals mg) (c : He.SaysX fas fns tabs [] ex w h K)
include X G c
omit X G in
theorem F0 : FunD K "is_name" "is_name" (defArgs s0) (defBody s0) (defScope s0) [] [] (faS K 0) (fdOf K (faS K 0)) := by
  obtain ⟨fd, F⟩ := c.t.d.def_ 0 (d := dd0) rfl
  exact fdOf_eq F
omit X G in
theorem B0 : Binds K (fdOf K (faS K 0)) ["text"] [] := (F0 c).bindsN fun _ _ _ _ _ _ us hl => match us, hl with | [_], _ => rfl
omit X G in
theorem F6 : FunD K "check_deed" "check_deed" (defArgs s6) (defBody s6) (defScope s6) [] [] (faS K 6) (fdOf K (faS K 6)) := by
  obtain ⟨fd, F⟩ := c.t.d.def_ 1 (d := dd6) rfl
  exact fdOf_eq F
omit X G in
theorem B6 : Binds K (fdOf K (faS K 6)) ["deed"] [] := (F6 c).bindsN fun _ _ _ _ _ _ us hl => match us, hl with | [_], _ => rfl
omit X G in
theorem F32 : FunD K "check_day" "check_day" (defArgs s32) (defBody s32) (defScope s32) [] [] (faS K 32) (fdOf K (faS K 32)) := by
  obtain ⟨fd, F⟩ := c.t.d.def_ 2 (d := dd32) rfl
  exact fdOf_eq F
omit X G in
theorem B32 : Binds K (fdOf K (faS K 32)) ["day"] [] := (F32 c).bindsN fun _ _ _ _ _ _ us hl => match us, hl with | [_], _ => rfl
omit X G in
theorem F33 : FunD K "check_row" "check_row" (defArgs s33) (defBody s33) (defScope s33) [] [] (faS K 33) (fdOf K (faS K 33)) := by
  obtain ⟨fd, F⟩ := c.t.d.def_ 3 (d := dd33) rfl
  exact fdOf_eq F
omit X G in
theorem B33 : Binds K (fdOf K (faS K 33)) ["deed"] [] := (F33 c).bindsN fun _ _ _ _ _ _ us hl => match us, hl with | [_], _ => rfl
omit X G in
theorem F34 : FunD K "place_of" "place_of" (defArgs s34) (defBody s34) (defScope s34) [] [] (faS K 34) (fdOf K (faS K 34)) := by
  obtain ⟨fd, F⟩ := c.t.d.def_ 4 (d := dd34) rfl
  exact fdOf_eq F
omit X G in
theorem B34 : Binds K (fdOf K (faS K 34)) ["rows", "number"] [] := (F34 c).bindsN fun _ _ _ _ _ _ us hl => match us, hl with | [_, _], _ => rfl
omit X G in
theorem F38 : FunD K "__init__" "Diary.__init__" (defArgs s38) (defBody s38) (defScope s38) [] [] (faS K 38) (fdOf K (faS K 38)) := by
  obtain ⟨fd, F⟩ := c.t.d.def_ 5 (d := dd38) rfl
  exact fdOf_eq F
omit X G in
theorem B38 : Binds K (fdOf K (faS K 38)) ["self"] [] := (F38 c).bindsN fun _ _ _ _ _ _ us hl => match us, hl with | [_], _ => rfl
omit X G in
theorem F39 : FunD K "become" "Diary.become" (defArgs s39) (defBody s39) (defScope s39) [] [] (faS K 39) (fdOf K (faS K 39)) := by
  obtain ⟨fd, F⟩ := c.t.d.def_ 6 (d := dd39) rfl
  exact fdOf_eq F
omit X G in
theorem B39 : Binds K (fdOf K (faS K 39)) ["self", "rows", "coming"] [] := (F39 c).bindsN fun _ _ _ _ _ _ us hl => match us, hl with | [_, _, _], _ => rfl
omit X G in
theorem F40 : FunD K "rows" "Diary.rows" (defArgs s40) (defBody s40) (defScope s40) [] [] (faS K 40) (fdOf K (faS K 40)) := by
  obtain ⟨fd, F⟩ := c.t.d.def_ 7 (d := dd40) rfl
  exact fdOf_eq F
omit X G in
theorem B40 : Binds K (fdOf K (faS K 40)) ["self"] [] := (F40 c).bindsN fun _ _ _ _ _ _ us hl => match us, hl with | [_], _ => rfl
omit X G in
theorem F41 : FunD K "coming" "Diary.coming" (defArgs s41) (defBody s41) (defScope s41) [] [] (faS K 41) (fdOf K (faS K 41)) := by
  obtain ⟨fd, F⟩ := c.t.d.def_ 8 (d := dd41) rfl
  exact fdOf_eq F
omit X G in
theorem B41 : Binds K (fdOf K (faS K 41)) ["self"] [] := (F41 c).bindsN fun _ _ _ _ _ _ us hl => match us, hl with | [_], _ => rfl
omit X G in
theorem F42 : FunD K "enter" "Diary.enter" (defArgs s42) (defBody s42) (defScope s42) [] [] (faS K 42) (fdOf K (faS K 42)) := by
  obtain ⟨fd, F⟩ := c.t.d.def_ 9 (d := dd42) rfl
  exact fdOf_eq F
omit X G in
theorem B42 : Binds K (fdOf K (faS K 42)) ["self", "day", "deed"] [] := (F42 c).bindsN fun _ _ _ _ _ _ us hl => match us, hl with | [_, _, _], _ => rfl
omit X G in
theorem F43 : FunD K "strike" "Diary.strike" (defArgs s43) (defBody s43) (defScope s43) [] [] (faS K 43) (fdOf K (faS K 43)) := by
  obtain ⟨fd, F⟩ := c.t.d.def_ 10 (d := dd43) rfl
  exact fdOf_eq F
omit X G in
theorem B43 : Binds K (fdOf K (faS K 43)) ["self", "number"] [] := (F43 c).bindsN fun _ _ _ _ _ _ us hl => match us, hl with | [_, _], _ => rfl
omit X G in
theorem F44 : FunD K "correct" "Diary.correct" (defArgs s44) (defBody s44) (defScope s44) [] [] (faS K 44) (fdOf K (faS K 44)) := by
  obtain ⟨fd, F⟩ := c.t.d.def_ 11 (d := dd44) rfl
  exact fdOf_eq F
omit X G in
theorem B44 : Binds K (fdOf K (faS K 44)) ["self", "number", "day", "deed"] [] := (F44 c).bindsN fun _ _ _ _ _ _ us hl => match us, hl with | [_, _, _, _], _ => rfl
omit X G in
theorem F45 : FunD K "back" "Diary.back" (defArgs s45) (defBody s45) (defScope s45) [] [] (faS K 45) (fdOf K (faS K 45)) := by
  obtain ⟨fd, F⟩ := c.t.d.def_ 12 (d := dd45) rfl
  exact fdOf_eq F
omit X G in
theorem B45 : Binds K (fdOf K (faS K 45)) ["self"] [] := (F45 c).bindsN fun _ _ _ _ _ _ us hl => match us, hl with | [_], _ => rfl
omit X G in
theorem F49 : FunD K "_law_feed" "_law_feed" (defArgs s49) (defBody s49) (defScope s49) [] [] (faS K 49) (fdOf K (faS K 49)) := by
  obtain ⟨fd, F⟩ := c.t.d.def_ 13 (d := dd49) rfl
  exact fdOf_eq F
omit X G in
theorem B49 : Binds K (fdOf K (faS K 49)) ["_law_script", "_law_many"] [] := (F49 c).bindsN fun _ _ _ _ _ _ us hl => match us, hl with | [_, _], _ => rfl
omit X G in
theorem F50 : FunD K "_law_same" "_law_same" (defArgs s50) (defBody s50) (defScope s50) [] [] (faS K 50) (fdOf K (faS K 50)) := by
  obtain ⟨fd, F⟩ := c.t.d.def_ 14 (d := dd50) rfl
  exact fdOf_eq F
omit X G in
theorem B50 : Binds K (fdOf K (faS K 50)) ["_law_found", "_law_due"] [] := (F50 c).bindsN fun _ _ _ _ _ _ us hl => match us, hl with | [_, _], _ => rfl
omit X G in
theorem F51 : FunD K "_law_names" "_law_names" (defArgs s51) (defBody s51) (defScope s51) [] [] (faS K 51) (fdOf K (faS K 51)) := by
  obtain ⟨fd, F⟩ := c.t.d.def_ 15 (d := dd51) rfl
  exact fdOf_eq F
omit X G in
theorem B51 : Binds K (fdOf K (faS K 51)) ["_law_d", "_law_many"] [] := (F51 c).bindsN fun _ _ _ _ _ _ us hl => match us, hl with | [_, _], _ => rfl
omit X G in
theorem F88 : FunD K "word_of" "word_of" (defArgs s88) (defBody s88) (defScope s88) [] [] (faS K 88) (fdOf K (faS K 88)) := by
  obtain ⟨fd, F⟩ := c.t.d.def_ 16 (d := dd88) rfl
  exact fdOf_eq F
omit X G in
theorem B88 : Binds K (fdOf K (faS K 88)) ["thing"] [] := (F88 c).bindsN fun _ _ _ _ _ _ us hl => match us, hl with | [_], _ => rfl
omit X G in
theorem F91 : FunD K "deed_text" "deed_text" (defArgs s91) (defBody s91) (defScope s91) [] [] (faS K 91) (fdOf K (faS K 91)) := by
  obtain ⟨fd, F⟩ := c.t.d.def_ 17 (d := dd91) rfl
  exact fdOf_eq F
omit X G in
theorem B91 : Binds K (fdOf K (faS K 91)) ["deed"] [] := (F91 c).bindsN fun _ _ _ _ _ _ us hl => match us, hl with | [_], _ => rfl
omit X G in
theorem F92 : FunD K "written" "written" (defArgs s92) (defBody s92) (defScope s92) [] [] (faS K 92) (fdOf K (faS K 92)) := by
  obtain ⟨fd, F⟩ := c.t.d.def_ 18 (d := dd92) rfl
  exact fdOf_eq F
omit X G in
theorem B92 : Binds K (fdOf K (faS K 92)) ["diary"] [] := (F92 c).bindsN fun _ _ _ _ _ _ us hl => match us, hl with | [_], _ => rfl
omit X G in
theorem F101 : FunD K "_law_text_of" "_law_text_of" (defArgs s101) (defBody s101) (defScope s101) [] [] (faS K 101) (fdOf K (faS K 101)) := by
  obtain ⟨fd, F⟩ := c.t.d.def_ 19 (d := dd101) rfl
  exact fdOf_eq F
omit X G in
theorem B101 : Binds K (fdOf K (faS K 101)) ["_law_deed"] [] := (F101 c).bindsN fun _ _ _ _ _ _ us hl => match us, hl with | [_], _ => rfl
omit X G in
theorem F102 : FunD K "_law_page" "_law_page" (defArgs s102) (defBody s102) (defScope s102) [] [] (faS K 102) (fdOf K (faS K 102)) := by
  obtain ⟨fd, F⟩ := c.t.d.def_ 20 (d := dd102) rfl
  exact fdOf_eq F
omit X G in
theorem B102 : Binds K (fdOf K (faS K 102)) ["_law_rows", "_law_coming"] [] := (F102 c).bindsN fun _ _ _ _ _ _ us hl => match us, hl with | [_, _], _ => rfl
omit X G in
theorem F103 : FunD K "_law_free_row" "_law_free_row" (defArgs s103) (defBody s103) (defScope s103) [] [] (faS K 103) (fdOf K (faS K 103)) := by
  obtain ⟨fd, F⟩ := c.t.d.def_ 21 (d := dd103) rfl
  exact fdOf_eq F
omit X G in
theorem B103 : Binds K (fdOf K (faS K 103)) ["_law_names_here", "_law_d"] [] := (F103 c).bindsN fun _ _ _ _ _ _ us hl => match us, hl with | [_, _], _ => rfl
omit X G in
theorem F104 : FunD K "_law_free_rows" "_law_free_rows" (defArgs s104) (defBody s104) (defScope s104) [] [] (faS K 104) (fdOf K (faS K 104)) := by
  obtain ⟨fd, F⟩ := c.t.d.def_ 22 (d := dd104) rfl
  exact fdOf_eq F
omit X G in
theorem B104 : Binds K (fdOf K (faS K 104)) ["_law_feed_here", "_law_names_here", "_law_many"] [] := (F104 c).bindsN fun _ _ _ _ _ _ us hl => match us, hl with | [_, _, _], _ => rfl
omit X G in
theorem F105 : FunD K "law" "law" (defArgs s105) (defBody s105) (defScope s105) [] [] (faS K 105) (fdOf K (faS K 105)) := by
  obtain ⟨fd, F⟩ := c.t.d.def_ 23 (d := dd105) rfl
  exact fdOf_eq F
omit X G in
theorem B105 : Binds K (fdOf K (faS K 105)) ["_law_script"] [] := (F105 c).bindsN fun _ _ _ _ _ _ us hl => match us, hl with | [_], _ => rfl
theorem gn : Gn P w K mg (caS K) (faS K) (fun i => fdOf K (faS K i)) where
  f0 := ⟨He.glo_ok X G (c.t.d.fact 0 (f := .glo "is_name") rfl), (F0 c).kp⟩
  f6 := ⟨He.glo_ok X G (c.t.d.fact 1 (f := .glo "check_deed") rfl), (F6 c).kp⟩
  f32 := ⟨He.glo_ok X G (c.t.d.fact 2 (f := .glo "check_day") rfl), (F32 c).kp⟩
  f33 := ⟨He.glo_ok X G (c.t.d.fact 3 (f := .glo "check_row") rfl), (F33 c).kp⟩
  f34 := ⟨He.glo_ok X G (c.t.d.fact 4 (f := .glo "place_of") rfl), (F34 c).kp⟩
  f49 := ⟨He.glo_ok X G (c.t.d.fact 5 (f := .glo "_law_feed") rfl), (F49 c).kp⟩
  f50 := ⟨He.glo_ok X G (c.t.d.fact 6 (f := .glo "_law_same") rfl), (F50 c).kp⟩
  f51 := ⟨He.glo_ok X G (c.t.d.fact 7 (f := .glo "_law_names") rfl), (F51 c).kp⟩
  f88 := ⟨He.glo_ok X G (c.t.d.fact 8 (f := .glo "word_of") rfl), (F88 c).kp⟩
  f91 := ⟨He.glo_ok X G (c.t.d.fact 9 (f := .glo "deed_text") rfl), (F91 c).kp⟩
  f92 := ⟨He.glo_ok X G (c.t.d.fact 10 (f := .glo "written") rfl), (F92 c).kp⟩
  f101 := ⟨He.glo_ok X G (c.t.d.fact 11 (f := .glo "_law_text_of") rfl), (F101 c).kp⟩
  f102 := ⟨He.glo_ok X G (c.t.d.fact 12 (f := .glo "_law_page") rfl), (F102 c).kp⟩
  f103 := ⟨He.glo_ok X G (c.t.d.fact 13 (f := .glo "_law_free_row") rfl), (F103 c).kp⟩
  f104 := ⟨He.glo_ok X G (c.t.d.fact 14 (f := .glo "_law_free_rows") rfl), (F104 c).kp⟩
  c18 := He.glo_ok X G (c.t.d.fact 28 (f := .glo "Diary") rfl)
  b_abs := He.free_ok X G (c.t.d.fact 16 (f := .free "abs") rfl)
  b_all := He.free_ok X G (c.t.d.fact 17 (f := .free "all") rfl)
  b_bool := He.free_ok X G (c.t.d.fact 18 (f := .free "bool") rfl)
  b_enumerate := He.free_ok X G (c.t.d.fact 19 (f := .free "enumerate") rfl)
  b_int := He.free_ok X G (c.t.d.fact 20 (f := .free "int") rfl)
  b_isinstance := He.free_ok X G (c.t.d.fact 21 (f := .free "isinstance") rfl)
  b_len := He.free_ok X G (c.t.d.fact 22 (f := .free "len") rfl)
  b_list := He.free_ok X G (c.t.d.fact 23 (f := .free "list") rfl)
  b_range := He.free_ok X G (c.t.d.fact 24 (f := .free "range") rfl)
  b_str := He.free_ok X G (c.t.d.fact 25 (f := .free "str") rfl)
  b_tuple := He.free_ok X G (c.t.d.fact 26 (f := .free "tuple") rfl)
  b_zip := He.free_ok X G (c.t.d.fact 27 (f := .free "zip") rfl)
  g5 := fun d hd => by
    cases hd
    have hm := c.more
    unfold ex at hm
    simp only [Bool.and_eq_true] at hm
    exact ⟨_, .ref _, He.glo_ok X G (c.t.d.fact 41 (f := .glo "COUNTS") rfl), rfl, kdic_of (c.t.tab 0 rfl) hm.1 fun xr al H => by repeat (first | exact .nil | exact .str _ | exact .int _ | refine .cons ?_ ?_)⟩
  g11 := fun d hd => by
    cases hd
    have hm := c.more
    unfold ex at hm
    simp only [Bool.and_eq_true] at hm
    exact ⟨_, .ref _, He.glo_ok X G (c.t.d.fact 42 (f := .glo "KINDS") rfl), rfl, kdic_of (c.t.tab 1 rfl) hm.2.1 fun xr al H => by repeat (first | exact .nil | exact .str _ | exact .int _ | refine .cons ?_ ?_)⟩
  g10 := fun d hd => by
    cases hd
    obtain ⟨t, e⟩ := He.int_ok X G (c.t.d.fact 43 (f := .int "LAST_DAY" 9999) rfl)
    exact ⟨_, .int _, e, ⟨_, rfl⟩, fun _ _ _ => .int _⟩
  g1 := fun d hd => by
    cases hd
    obtain ⟨t, e⟩ := He.str_ok X G (c.t.d.fact 44 (f := .str "LETTERS" "abcdefghijklmnopqrstuvwxyz") rfl)
    exact ⟨_, .str _, e, ⟨_, rfl⟩, fun _ _ _ => .str _⟩
  g0 := fun d hd => by
    cases hd
    obtain ⟨t, e⟩ := He.int_ok X G (c.t.d.fact 45 (f := .int "LONGEST" 8) rfl)
    exact ⟨_, .int _, e, ⟨_, rfl⟩, fun _ _ _ => .int _⟩
  g12 := fun d hd => by
    cases hd
    obtain ⟨t, e⟩ := He.int_ok X G (c.t.d.fact 46 (f := .int "MOST" 9999999999) rfl)
    exact ⟨_, .int _, e, ⟨_, rfl⟩, fun _ _ _ => .int _⟩
omit X G in
theorem tx : Tx (LL P w K mg) where
  cf := by
    refine ⟨fun cc hc => ?_, fun cc f hc hf => ?_, fun f g hf hg e => ?_⟩
    · have hc : cc ∈ [18] := of_decide_eq_true hc
      simp only [List.mem_cons, List.not_mem_nil, or_false] at hc
      rcases hc with rfl
      · exact He.cls_ok (c.t.d.fact 29 (f := .cls "Diary") rfl)
    · have hc : cc ∈ [18] := of_decide_eq_true hc
      have hf : f ∈ [5, 6, 7] := of_decide_eq_true hf
      simp only [List.mem_cons, List.not_mem_nil, or_false] at hc hf
      rcases hc with rfl
      · rcases hf with rfl | rfl | rfl
        · exact He.noat_ok (c.t.d.fact 30 (f := .noat "Diary" "state") rfl)
        · exact He.noat_ok (c.t.d.fact 31 (f := .noat "Diary" "elder") rfl)
        · exact He.noat_ok (c.t.d.fact 32 (f := .noat "Diary" "undone") rfl)
    · have hf : f ∈ [5, 6, 7] := of_decide_eq_true hf
      have hg : g ∈ [5, 6, 7] := of_decide_eq_true hg
      exact (by decide : ∀ f ∈ [5, 6, 7], ∀ g ∈ [5, 6, 7], flS f = flS g → f = g) f hf g hg e
  mf := by
    refine ⟨fun cc m f hc hm => ?_, fun cc m g f hm hf => ?_, fun cc m f hm => ?_⟩
    · replace hm : methT cc m = some f := hm
      unfold methT at hm
      split at hm <;> cases hm
      · exact He.meth_ok (c.t.d.fact 33 (f := .meth "Diary" "coming") rfl)
      · exact He.meth_ok (c.t.d.fact 34 (f := .meth "Diary" "become") rfl)
      · exact He.meth_ok (c.t.d.fact 35 (f := .meth "Diary" "rows") rfl)
      · exact He.meth_ok (c.t.d.fact 36 (f := .meth "Diary" "enter") rfl)
      · exact He.meth_ok (c.t.d.fact 37 (f := .meth "Diary" "strike") rfl)
      · exact He.meth_ok (c.t.d.fact 38 (f := .meth "Diary" "correct") rfl)
      · exact He.meth_ok (c.t.d.fact 39 (f := .meth "Diary" "back") rfl)
    · replace hm : methT cc m = some g := hm
      have hf : f ∈ [5, 6, 7] := of_decide_eq_true hf
      unfold methT at hm
      split at hm <;> cases hm
      · exact (by decide : ∀ f ∈ [5, 6, 7], flS f ≠ meS 17) f hf
      · exact (by decide : ∀ f ∈ [5, 6, 7], flS f ≠ meS 18) f hf
      · exact (by decide : ∀ f ∈ [5, 6, 7], flS f ≠ meS 19) f hf
      · exact (by decide : ∀ f ∈ [5, 6, 7], flS f ≠ meS 20) f hf
      · exact (by decide : ∀ f ∈ [5, 6, 7], flS f ≠ meS 21) f hf
      · exact (by decide : ∀ f ∈ [5, 6, 7], flS f ≠ meS 22) f hf
      · exact (by decide : ∀ f ∈ [5, 6, 7], flS f ≠ meS 23) f hf
    · replace hm : methT cc m = some f := hm
      unfold methT at hm
      split at hm <;> cases hm <;> exact ⟨_, rfl⟩
  kf := by
    refine ⟨fun cc f hi => ?_⟩
    replace hi : initT cc = some f := hi
    unfold initT at hi
    split at hi <;> cases hi
    · exact ⟨rfl, He.mkr_ok (c.t.d.fact 40 (f := .mkr "Diary") rfl)⟩
  np := by
    intro f F hF
    replace hF : fnT f = some F := hF
    unfold fnT at hF
    split at hF <;> cases hF <;> rfl
omit X G in
theorem bi : ∀ f F, (LL P w K mg).T.fn f = some F → Binds K (fdOf K (faS K f)) (psS f) [] := by
  intro f F hF
  replace hF : fnT f = some F := hF
  unfold fnT at hF
  split at hF <;> cases hF
  · exact B0 c
  · exact B6 c
  · exact B32 c
  · exact B33 c
  · exact B34 c
  · exact B38 c
  · exact B39 c
  · exact B40 c
  · exact B41 c
  · exact B42 c
  · exact B43 c
  · exact B44 c
  · exact B45 c
  · exact B49 c
  · exact B50 c
  · exact B51 c
  · exact B88 c
  · exact B91 c
  · exact B92 c
  · exact B101 c
  · exact B102 c
  · exact B103 c
  · exact B104 c
  · exact B105 c
theorem okAll : ∀ d f F, (LL P w K mg).T.fn f = some F → FnOk P w K mg base (CX P w) (2 * d + 1) (faS K f) (fdOf K (faS K f)) (psS f) (spF (LL P w K mg) txt d f) := by
  intro d
  induction d with
  | zero => exact fun f F _ => fn_zero (L := LL P w K mg)
  | succ d ih =>
    intro f F hF
    replace hF : fnT f = some F := hF
    unfold fnT at hF
    split at hF <;> cases hF
    · exact fn_step (L := LL P w K mg) (f := 0) (N := n0) (tx c) rfl (F0 c) sc0 rfl rfl (by decide) ih (bi c) fun cdv A outer s H E xr W S => b0 (tx c) (gn X G c) S
    · exact fn_step (L := LL P w K mg) (f := 6) (N := n6) (tx c) rfl (F6 c) sc6 rfl rfl (by decide) ih (bi c) fun cdv A outer s H E xr W S => b6 (tx c) (gn X G c) S
    · exact fn_step (L := LL P w K mg) (f := 32) (N := n32) (tx c) rfl (F32 c) sc32 rfl rfl (by decide) ih (bi c) fun cdv A outer s H E xr W S => b32 (tx c) (gn X G c) S
    · exact fn_step (L := LL P w K mg) (f := 33) (N := n33) (tx c) rfl (F33 c) sc33 rfl rfl (by decide) ih (bi c) fun cdv A outer s H E xr W S => b33 (tx c) (gn X G c) S
    · exact fn_step (L := LL P w K mg) (f := 34) (N := n34) (tx c) rfl (F34 c) sc34 rfl rfl (by decide) ih (bi c) fun cdv A outer s H E xr W S => b34 (tx c) (gn X G c) S
    · exact fn_step (L := LL P w K mg) (f := 38) (N := n38) (tx c) rfl (F38 c) sc38 rfl rfl (by decide) ih (bi c) fun cdv A outer s H E xr W S => b38 (tx c) (gn X G c) S
    · exact fn_step (L := LL P w K mg) (f := 39) (N := n39) (tx c) rfl (F39 c) sc39 rfl rfl (by decide) ih (bi c) fun cdv A outer s H E xr W S => b39 (tx c) (gn X G c) S
    · exact fn_step (L := LL P w K mg) (f := 40) (N := n40) (tx c) rfl (F40 c) sc40 rfl rfl (by decide) ih (bi c) fun cdv A outer s H E xr W S => b40 (tx c) (gn X G c) S
    · exact fn_step (L := LL P w K mg) (f := 41) (N := n41) (tx c) rfl (F41 c) sc41 rfl rfl (by decide) ih (bi c) fun cdv A outer s H E xr W S => b41 (tx c) (gn X G c) S
    · exact fn_step (L := LL P w K mg) (f := 42) (N := n42) (tx c) rfl (F42 c) sc42 rfl rfl (by decide) ih (bi c) fun cdv A outer s H E xr W S => b42 (tx c) (gn X G c) S
    · exact fn_step (L := LL P w K mg) (f := 43) (N := n43) (tx c) rfl (F43 c) sc43 rfl rfl (by decide) ih (bi c) fun cdv A outer s H E xr W S => b43 (tx c) (gn X G c) S
    · exact fn_step (L := LL P w K mg) (f := 44) (N := n44) (tx c) rfl (F44 c) sc44 rfl rfl (by decide) ih (bi c) fun cdv A outer s H E xr W S => b44 (tx c) (gn X G c) S
    · exact fn_step (L := LL P w K mg) (f := 45) (N := n45) (tx c) rfl (F45 c) sc45 rfl rfl (by decide) ih (bi c) fun cdv A outer s H E xr W S => b45 (tx c) (gn X G c) S
    · exact fn_step (L := LL P w K mg) (f := 49) (N := n49) (tx c) rfl (F49 c) sc49 rfl rfl (by decide) ih (bi c) fun cdv A outer s H E xr W S => b49 (tx c) (gn X G c) S
    · exact fn_step (L := LL P w K mg) (f := 50) (N := n50) (tx c) rfl (F50 c) sc50 rfl rfl (by decide) ih (bi c) fun cdv A outer s H E xr W S => b50 (tx c) (gn X G c) S
    · exact fn_step (L := LL P w K mg) (f := 51) (N := n51) (tx c) rfl (F51 c) sc51 rfl rfl (by decide) ih (bi c) fun cdv A outer s H E xr W S => b51 (tx c) (gn X G c) S
    · exact fn_step (L := LL P w K mg) (f := 88) (N := n88) (tx c) rfl (F88 c) sc88 rfl rfl (by decide) ih (bi c) fun cdv A outer s H E xr W S => b88 (tx c) (gn X G c) S
    · exact fn_step (L := LL P w K mg) (f := 91) (N := n91) (tx c) rfl (F91 c) sc91 rfl rfl (by decide) ih (bi c) fun cdv A outer s H E xr W S => b91 (tx c) (gn X G c) S
    · exact fn_step (L := LL P w K mg) (f := 92) (N := n92) (tx c) rfl (F92 c) sc92 rfl rfl (by decide) ih (bi c) fun cdv A outer s H E xr W S => b92 (tx c) (gn X G c) S
    · exact fn_step (L := LL P w K mg) (f := 101) (N := n101) (tx c) rfl (F101 c) sc101 rfl rfl (by decide) ih (bi c) fun cdv A outer s H E xr W S => b101 (tx c) (gn X G c) S
    · exact fn_step (L := LL P w K mg) (f := 102) (N := n102) (tx c) rfl (F102 c) sc102 rfl rfl (by decide) ih (bi c) fun cdv A outer s H E xr W S => b102 (tx c) (gn X G c) S
    · exact fn_step (L := LL P w K mg) (f := 103) (N := n103) (tx c) rfl (F103 c) sc103 rfl rfl (by decide) ih (bi c) fun cdv A outer s H E xr W S => b103 (tx c) (gn X G c) S
    · exact fn_step (L := LL P w K mg) (f := 104) (N := n104) (tx c) rfl (F104 c) sc104 rfl rfl (by decide) ih (bi c) fun cdv A outer s H E xr W S => b104 (tx c) (gn X G c) S
    · exact fn_step (L := LL P w K mg) (f := 105) (N := n105) (tx c) rfl (F105 c) sc105 rfl rfl (by decide) ih (bi c) fun cdv A outer s H E xr W S => b105 (tx c) (gn X G c) S
end
end MP.k45
namespace MP.k45
open PySem MP

theorem check_day (d : Nat) (bar : Bar) (st : Sto) (n : Int) (h1 : 1 ≤ n) (h2 : n ≤ 9999) : call txt (d + 1) 32 bar [.int n] st = .ok .non st := by
  have hg : txt.glob 10 = some (.int 9999) := rfl
  rw [call_eq (F := f32) rfl rfl]
  simp [f32, exSs, exS, evE, bind_ok, of_ok, seq_nx, seq_rt, le_ii, h1, h2, hg, opt_some, asB_ok, fin_nx]
/-- a thing as a word -/
def wordS : D → Str
  | .str z => if z = "" then "-" else z
  | .int i => strOf i
  | _ => ""
/-- what a deed is made of -/
def Thing : D → Prop
  | .str z => z.length ≤ 8
  | .int i => i.natAbs < 2 ^ 64
  | _ => False
theorem word_of (d : Nat) (bar : Bar) (st : Sto) (x : D) (h : Thing x) : call txt (d + 1) 88 bar [x] st = .ok (.str (wordS x)) st := by
  rw [call_eq (F := f88) rfl rfl]
  cases x <;> simp only [Thing] at h
  · rename_i i
    have hs := str_i st (c := false) (i := i) (Nat.lt_of_lt_of_le h (by decide))
    simp [f88, exSs, exS, evE, evEs, bind_ok, of_ok, seq_nx, seq_rt, eq_is, asB_ok, hs, wordS, fin_rt]
  · rename_i z
    by_cases hz : z = ""
    · simp [f88, exSs, exS, evE, evEs, bind_ok, of_ok, seq_nx, seq_rt, eq_ss, asB_ok, str_s, wordS, hz, fin_rt]
    · simp [f88, exSs, exS, evE, evEs, bind_ok, of_ok, seq_nx, seq_rt, eq_ss, asB_ok, str_s, wordS, hz, fin_rt]
/-- the words of a deed -/
def textS (xs : List D) : Str := PySem.Txt.join " " (xs.map wordS)
theorem allS_map (f : D → Str) (xs : List D) : allS (xs.map fun x => .str (f x)) = some (xs.map f) := by
  induction xs with
  | nil => rfl
  | cons x xs ih => simp [allS, ih]
theorem word_len {x : D} (h : Thing x) : (wordS x).length ≤ 1921 := by
  cases x <;> simp only [Thing] at h
  · exact strOf_len (Nat.lt_of_lt_of_le h (by decide))
  · simp only [wordS]
    split
    · decide
    · omega
theorem deed_text (d : Nat) (bar : Bar) (st : Sto) (xs : List D) (h : ∀ x ∈ xs, Thing x) (hl : xs.length ≤ 10) : call txt (d + 2) 91 bar [.tup xs] st = .ok (.str (textS xs)) st := by
  rw [call_eq (F := f91) rfl rfl]
  have hj : bmV bar st .join (.str " ") [.lst (xs.map fun x => .str (wordS x))] = .ok (.str (textS xs)) st := by
    refine join_ok (ys := xs.map wordS) (M := 1921) (N := 10) (by simp only [asL, Option.bind_some, allS_map]) (fun y hy => ?_) (by rw [List.length_map]; exact hl) (by decide)
    obtain ⟨x, hx, rfl⟩ := List.mem_map.mp hy
    exact word_len (h x hx)
  have hE : ∀ bar, evE (ctx txt (d + 1)) bar (.lc false (.call 88 false [(.var 1)]) [1] true .val [(.var 0)] []) [some (.tup xs), none] st = .ok (.lst (xs.map fun x => .str (wordS x))) st := fun bar => by
    refine ev_lc (ds := xs) (evs_cons (ev_var rfl) evs_nil) rfl (lc_map (fun x => .str (wordS x)) xs fun x hx => ⟨_, rfl, rfl, ?_⟩) (by rw [List.length_map]; omega)
    simp [evE, evEs, bind_ok, wipeE, word_of d _ st x (h x hx), shut_str]
  show fin (exSs (ctx txt (d + 1)) bar [.ret (.bm .join (.str " ") [(.lc false (.call 88 false [(.var 1)]) [1] true .val [(.var 0)] [])])] [some (.tup xs), none] st) = _
  generalize E.lc false (.call 88 false [(.var 1)]) [1] true .val [(.var 0)] [] = e at hE ⊢
  simp [exSs, exS, hE, evE, evEs, bind_ok, of_ok, seq_nx, seq_rt, kd, bmOk, hj, fin_rt]
theorem text_of (d : Nat) (bar : Bar) (st : Sto) (xs : List D) (h : ∀ x ∈ xs, Thing x) (hl : xs.length ≤ 10) : call txt (d + 1) 101 bar [.tup xs] st = .ok (.str (textS xs)) st := by
  rw [call_eq (F := f101) rfl rfl]
  have hj : bmV bar st .join (.str " ") [.lst (xs.map fun x => .str (wordS x))] = .ok (.str (textS xs)) st := by
    refine join_ok (ys := xs.map wordS) (M := 1921) (N := 10) (by simp only [asL, Option.bind_some, allS_map]) (fun y hy => ?_) (by rw [List.length_map]; exact hl) (by decide)
    obtain ⟨x, hx, rfl⟩ := List.mem_map.mp hy
    exact word_len (h x hx)
  have hE : ∀ bar, evE (ctx txt d) bar (.lc false (.ite (.cmp .eq (.var 1) (.str "")) (.str "-") (.bf .str false [(.var 1)])) [1] true .val [(.var 0)] []) [some (.tup xs), none] st = .ok (.lst (xs.map fun x => .str (wordS x))) st := fun bar => by
    refine ev_lc (ds := xs) (evs_cons (ev_var rfl) evs_nil) rfl (lc_map (fun x => .str (wordS x)) xs fun x hx => ⟨_, rfl, rfl, ?_⟩) (by rw [List.length_map]; omega)
    replace hx := h x hx
    cases x <;> simp only [Thing] at hx
    · rename_i i
      have hs := str_i st (c := false) (i := i) (Nat.lt_of_lt_of_le hx (by decide))
      simp [evE, evEs, bind_ok, wipeE, eq_is, asB_ok, hs, wordS]
    · rename_i z
      by_cases hz : z = ""
      · simp [evE, evEs, bind_ok, wipeE, eq_ss, asB_ok, str_s, wordS, hz]
      · simp [evE, evEs, bind_ok, wipeE, eq_ss, asB_ok, str_s, wordS, hz]
  show fin (exSs (ctx txt d) bar [.ret (.bm .join (.str " ") [(.lc false (.ite (.cmp .eq (.var 1) (.str "")) (.str "-") (.bf .str false [(.var 1)])) [1] true .val [(.var 0)] [])])] [some (.tup xs), none] st) = _
  generalize E.lc false (.ite (.cmp .eq (.var 1) (.str "")) (.str "-") (.bf .str false [(.var 1)])) [1] true .val [(.var 0)] [] = e at hE ⊢
  simp [exSs, exS, hE, evE, evEs, bind_ok, of_ok, seq_nx, seq_rt, kd, bmOk, hj, fin_rt]
theorem joinL {z : Str} {ys : List Str} {M : Nat} (h : ∀ y ∈ ys, y.length ≤ M) : (PySem.Txt.join z ys).length ≤ ys.length * (M + z.length) := by
  show (Builtin.Str.glued z ys).length ≤ _
  rw [PySem.size_glued, Nat.mul_add]
  exact Nat.add_le_add (sum_le (fun y : Str => y.length) M h) (Nat.mul_le_mul_right _ (Nat.sub_le _ _))
theorem textS_len {xs : List D} (h : ∀ x ∈ xs, Thing x) (hl : xs.length ≤ 10) : (textS xs).length ≤ 20000 := by
  have := joinL (z := " ") (ys := xs.map wordS) (M := 1921) (fun y hy => by
    obtain ⟨x, hx, rfl⟩ := List.mem_map.mp hy
    exact word_len (h x hx))
  rw [List.length_map] at this
  refine Nat.le_trans this (Nat.le_trans (Nat.mul_le_mul_right _ hl) (by decide))
/-- a row of a diary -/
structure Row where
  n : Int
  day : Int
  deed : List D
def rowD (r : Row) : D := .tup [.int r.n, .int r.day, .tup r.deed]
structure RowOk (r : Row) : Prop where
  n : r.n.natAbs < 2 ^ 64
  day : r.day.natAbs < 2 ^ 64
  len : r.deed.length ≤ 10
  things : ∀ x ∈ r.deed, Thing x
def lineS (r : Row) : Str := PySem.Txt.join " " [strOf r.n, strOf r.day, textS r.deed]
def pageS (rows : List Row) (coming : Int) : Str := PySem.Txt.join "" (((("next " : Str) ++ strOf coming) :: rows.map lineS).map (· ++ ("\n" : Str)))
theorem page_turn (d : Nat) (st : Sto) (bar : Bar) (hb : bar.can st.length = true) (r : Row) (h : RowOk r) (rowsV : D) (coming : Int) (ls : List Str) (e3 e4 e5 : Option D) (hls : ls.length < 1000) :
    exSs (ctx txt (d + 1)) bar [.expr (.bm .append (.var 2) [(.bm .join (.str " ") [(.lst false [(.bf .str false [(.var 3)]), (.bf .str false [(.var 4)]), (.call 101 false [(.var 5)])])])])]
      [some rowsV, some (.int coming), some (.ref st.length), some (.int r.n), some (.int r.day), some (.tup r.deed), none] (st ++ [.lst (ls.map .str)]) =
    .ok (.nx [some rowsV, some (.int coming), some (.ref st.length), some (.int r.n), some (.int r.day), some (.tup r.deed), none]) (st ++ [.lst ((ls ++ [lineS r]).map .str)]) := by
  have h1 := str_i (st ++ [.lst (ls.map .str)]) (c := false) (i := r.n) (Nat.lt_of_lt_of_le h.n (by decide))
  have h2 := str_i (st ++ [.lst (ls.map .str)]) (c := false) (i := r.day) (Nat.lt_of_lt_of_le h.day (by decide))
  have h3 := fun bar => text_of d bar (st ++ [.lst (ls.map .str)]) r.deed h.things h.len
  have hj : bmV bar (st ++ [.lst (ls.map .str)]) .join (.str " ") [.lst [.str (strOf r.n), .str (strOf r.day), .str (textS r.deed)]] = .ok (.str (lineS r)) (st ++ [.lst (ls.map .str)]) := by
    refine join_ok (ys := [strOf r.n, strOf r.day, textS r.deed]) (M := 20000) (N := 3) rfl (fun y hy => ?_) (Nat.le_refl 3) (by decide)
    simp only [List.mem_cons, List.not_mem_nil, or_false] at hy
    rcases hy with rfl | rfl | rfl
    · exact Nat.le_trans (strOf_len (Nat.lt_of_lt_of_le h.n (by decide))) (by decide)
    · exact Nat.le_trans (strOf_len (Nat.lt_of_lt_of_le h.day (by decide))) (by decide)
    · exact textS_len h.things h.len
  have hL : (3 : Nat) ≤ LIM := by decide
  have ha : bmV bar (st ++ [.lst (ls.map .str)]) .append (.ref st.length) [.str (lineS r)] = .ok .non (st ++ [.lst ((ls ++ [lineS r]).map .str)]) := by
    have hq : (ls.map D.str).length < LIM := by rw [List.length_map]; exact Nat.lt_of_lt_of_le hls (by decide)
    simp only [bmV, get_end, decide_eq_true hq, if_true, setC, hb, set_end, List.map_append, List.map_cons, List.map_nil]
  simp [exSs, exS, evE, evEs, bind_ok, of_ok, seq_nx, h1, h2, h3, shut_str, hL, newL, kd, bmOk, hj, ha]
theorem lineS_len {r : Row} (h : RowOk r) : (lineS r).length ≤ 70000 := by
  refine Nat.le_trans (joinL (M := 20000) fun y hy => ?_) (by show 3 * _ ≤ _; decide)
  simp only [List.mem_cons, List.not_mem_nil, or_false] at hy
  rcases hy with rfl | rfl | rfl
  · exact Nat.le_trans (strOf_len (Nat.lt_of_lt_of_le h.n (by decide))) (by decide)
  · exact Nat.le_trans (strOf_len (Nat.lt_of_lt_of_le h.day (by decide))) (by decide)
  · exact textS_len h.things h.len
theorem law_page (d : Nat) (st : Sto) (rowsV : D) (rows : List Row) (coming : Int) (hr : asL st rowsV = some (rows.map rowD)) (hv : ∀ (i : Nat), cellOf rowsV = some i → i < st.length) (hit : ∀ st' : Sto, itemsV (st ++ st') .val [rowsV] = some (rows.map rowD)) (ok : ∀ r ∈ rows, RowOk r) (hl : rows.length ≤ 100) (hc : coming.natAbs < 2 ^ 64) :
    ∃ st', call txt (d + 2) 102 (shutBar st) [rowsV, .int coming] st = .ok (.str (pageS rows coming)) st' := by
  rw [call_eq (F := f102) rfl rfl]
  have hs := str_i st (c := false) (i := coming) (Nat.lt_of_lt_of_le hc (by decide))
  have hn : ("next " : Str).length + (strOf coming).length ≤ 16777216 := Nat.le_trans (Nat.add_le_add_left (strOf_len (Nat.lt_of_lt_of_le hc (by decide))) _) (by decide)
  have ha := add_ss st hn
  have hL : (1 : Nat) ≤ LIM := by decide
  let C := ctx txt (d + 1)
  let first : Str := ("next " : Str) ++ strOf coming
  have e1 : exS C (shutBar st) (.asg 2 (.lst true [(.op .add (.str "next ") (.bf .str false [(.var 1)]))])) [some rowsV, some (.int coming), none, none, none, none, none] st =
      .ok (.nx [some rowsV, some (.int coming), some (.ref st.length), none, none, none, none]) (st ++ [.lst [.str first]]) := by
    simp [exS, evE, evEs, bind_ok, of_ok, hs, ha, newL, hL, first]
  have hcan : (walkLo (shutBar st) [rowsV]).can st.length = true := by
    simp only [walkLo, Bar.can, List.append_nil, Nat.le_refl, decide_true, Bool.true_and, Bool.not_eq_true']
    cases hcc : List.contains (List.filterMap cellOf [rowsV]) st.length with
    | false => rfl
    | true =>
      rw [List.contains_iff_mem] at hcc
      obtain ⟨z, hz, hz2⟩ := List.mem_filterMap.mp hcc
      cases List.mem_singleton.mp hz
      exact absurd (hv _ hz2) (Nat.lt_irrefl _)
  obtain ⟨env2, st2, f1, e3, e4, e5, rfl, rfl⟩ := for_inv (tg := [3, 4, 5]) (one := false) (body := fun e s => exSs C (walkLo (shutBar st) [rowsV]) [.expr (.bm .append (.var 2) [(.bm .join (.str " ") [(.lst false [(.bf .str false [(.var 3)]), (.bf .str false [(.var 4)]), (.call 101 false [(.var 5)])])])])] e s)
    (fun k e s => ∃ e3 e4 e5, e = [some rowsV, some (.int coming), some (.ref st.length), e3, e4, e5, none] ∧ s = st ++ [.lst ((first :: (rows.take k).map lineS).map .str)]) (rows.map rowD) 0
    [some rowsV, some (.int coming), some (.ref st.length), none, none, none, none] (st ++ [.lst [.str first]]) ⟨none, none, none, rfl, by simp⟩ (fun k dd e s hk hI => by
      obtain ⟨e3, e4, e5, rfl, rfl⟩ := hI
      rw [List.getElem?_map] at hk
      obtain ⟨r, hk1, rfl⟩ := Option.map_eq_some_iff.mp hk
      have hm : r ∈ rows := List.mem_of_getElem? hk1
      rw [Nat.zero_add]
      refine ⟨_, _, _, rfl, page_turn d st _ hcan r (ok r hm) rowsV coming (first :: (rows.take k).map lineS) e3 e4 e5 ?_, ⟨_, _, _, rfl, ?_⟩⟩
      · rw [List.length_cons, List.length_map, List.length_take]; omega
      · rw [List.take_add_one, hk1]; simp)
  have e2 : exS C (shutBar st) (.forr [3, 4, 5] false .val [(.var 0)] [.expr (.bm .append (.var 2) [(.bm .join (.str " ") [(.lst false [(.bf .str false [(.var 3)]), (.bf .str false [(.var 4)]), (.call 101 false [(.var 5)])])])])])
      [some rowsV, some (.int coming), some (.ref st.length), none, none, none, none] (st ++ [.lst [.str first]]) = _ := ex_for (evs_cons (ev_var rfl) evs_nil) (hit _) f1
  have ht : (rows.take (0 + (rows.map rowD).length)) = rows := by rw [List.length_map, Nat.zero_add, List.take_length]
  rw [ht] at e2
  let lines : List Str := first :: rows.map lineS
  have hlen : ∀ y ∈ lines, y.length ≤ 70000 := fun y hy => by
    rcases List.mem_cons.mp hy with rfl | hy
    · show (("next " : Str) ++ strOf coming).length ≤ _
      rw [strLen_append]
      exact Nat.le_trans (Nat.add_le_add_left (strOf_len (Nat.lt_of_lt_of_le hc (by decide))) _) (by decide)
    · obtain ⟨r, hr, rfl⟩ := List.mem_map.mp hy
      exact lineS_len (ok r hr)
  have hnl : lines.length ≤ 101 := by show (first :: rows.map lineS).length ≤ 101; rw [List.length_cons, List.length_map]; omega
  let st2 : Sto := st ++ [.lst (lines.map .str)]
  have hE : evE C (shutBar st) (.lc false (.op .add (.var 6) (.str "\n")) [6] true .val [(.var 2)] []) [some rowsV, some (.int coming), some (.ref st.length), e3, e4, e5, none] st2 = .ok (.lst (lines.map fun y => .str (y ++ ("\n" : Str)))) st2 := by
    refine (ev_lc (ds := lines.map .str) (evs_cons (ev_var rfl) evs_nil) (by simp [itemsV, asL, st2]) (lc_map (fun x => match x with | .str y => .str (y ++ ("\n" : Str)) | x => x) (lines.map .str) fun x hx => ⟨_, rfl, rfl, ?_⟩) (by rw [List.length_map, List.length_map]; omega)).trans ?_
    · obtain ⟨y, hy, rfl⟩ := List.mem_map.mp hx
      have h7 := add_ss st2 (a := y) (b := ("\n" : Str)) (Nat.le_trans (Nat.add_le_add_right (hlen y hy) _) (by decide))
      simp [evE, bind_ok, wipeE, h7]
    · simp [newL, List.map_map, Function.comp_def]
  have hj : bmV (shutBar st) st2 .join (.str "") [.lst (lines.map fun y => .str (y ++ ("\n" : Str)))] = .ok (.str (pageS rows coming)) st2 := by
    refine join_ok (ys := lines.map (· ++ ("\n" : Str))) (M := 70001) (N := 101) ?_ (fun y hy => ?_) (by rw [List.length_map]; exact hnl) (by decide)
    · have := allS_str (lines.map (· ++ ("\n" : Str)))
      rw [List.map_map] at this
      exact this
    · obtain ⟨z, hz, rfl⟩ := List.mem_map.mp hy
      show (z ++ ("\n" : Str)).length ≤ _
      rw [strLen_append]
      exact Nat.le_trans (Nat.add_le_add_right (hlen z hz) _) (by decide)
  have e3' : exS C (shutBar st) (.ret (.bm .join (.str "") [(.lc false (.op .add (.var 6) (.str "\n")) [6] true .val [(.var 2)] [])])) [some rowsV, some (.int coming), some (.ref st.length), e3, e4, e5, none] st2 = .ok (.rt (.str (pageS rows coming))) st2 := by
    generalize E.lc false (.op .add (.var 6) (.str "\n")) [6] true .val [(.var 2)] [] = e at hE ⊢
    simp [exS, hE, evE, evEs, bind_ok, of_ok, kd, bmOk, hj]
  refine ⟨st2, ?_⟩
  show fin (exSs C (shutBar st) f102.body [some rowsV, some (.int coming), none, none, none, none, none] st) = _
  unfold f102
  simp only [exSs, e1, seq_nx, e2]
  exact congrArg (fun r : SR => fin (r.seq fun env1 st1 => .ok (.nx env1) st1)) e3'
/-! the diary -/
/-- a diary's cells: itself, what was ahead, what was taken back -/
structure DiaR (st : Sto) (i : Nat) (rows : List Row) (coming : Int) : Prop where
  cell : ∃ e u, st[i]? = some (.ins 18 [(5, .tup [.tup (rows.map rowD), .int coming]), (6, .ref e), (7, .ref u)])
theorem mapO_id {f : D → Option D} : ∀ {xs : List D}, (∀ x ∈ xs, f x = some x) → mapO f xs = some xs
  | [], _ => rfl
  | x :: xs, h => by
    have ih := mapO_id (f := f) (xs := xs) fun y hy => h y (List.mem_cons_of_mem _ hy)
    simp only [mapO, h x (List.mem_cons_self ..), ih]
theorem frz_thing {n k : Nat} {st : Sto} {x : D} (h : Thing x) : frz n (k + 1) st x = some x := by
  cases x <;> simp only [Thing] at h <;> rfl
theorem frz_row {n k : Nat} {st : Sto} {r : Row} (h : RowOk r) : frz n (k + 3) st (rowD r) = some (rowD r) := by
  have hd : mapO (frz n (k + 1) st) r.deed = some r.deed := mapO_id fun x hx => frz_thing (h.things x hx)
  simp [rowD, frz, mapO, hd]
theorem frz_rows {n k : Nat} {st : Sto} {rows : List Row} (h : ∀ r ∈ rows, RowOk r) : mapO (frz n (k + 3) st) (rows.map rowD) = some (rows.map rowD) :=
  mapO_id fun x hx => by
    obtain ⟨r, hr, rfl⟩ := List.mem_map.mp hx
    exact frz_row (h r hr)
theorem m_coming (d : Nat) (bar : Bar) (st : Sto) {i : Nat} {rows : List Row} {coming : Int} (h : DiaR st i rows coming) : call txt (d + 1) 41 bar [.ref i] st = .ok (.int coming) st := by
  rw [call_eq (F := f41) rfl rfl]
  obtain ⟨e, u, h⟩ := h.cell
  simp [f41, exSs, exS, evE, evEs, bind_ok, of_ok, seq_rt, fin_rt, attrV, h, getF, opt_some, ixV, look, asK, atI, ixN]
theorem m_rows (d : Nat) (bar : Bar) (st : Sto) {i : Nat} {rows : List Row} {coming : Int} (h : DiaR st i rows coming) : call txt (d + 1) 40 bar [.ref i] st = .ok (.ref st.length) (st ++ [.lst (rows.map rowD)]) := by
  rw [call_eq (F := f40) rfl rfl]
  obtain ⟨e, u, h⟩ := h.cell
  simp [f40, exSs, exS, evE, evEs, bind_ok, of_ok, seq_rt, fin_rt, attrV, h, getF, opt_some, ixV, look, asK, atI, ixN, bfV, newL]
theorem m_rows_shut (d : Nat) (st : Sto) {i : Nat} {rows : List Row} {coming : Int} (h : DiaR st i rows coming) (ok : ∀ r ∈ rows, RowOk r) : shut st (call txt (d + 1) 40 (shutBar st) [.ref i] st) = .ok (.lst (rows.map rowD)) st := by
  rw [m_rows d _ st h]
  have hr := frz_rows (n := st.length) (k := 56) (st := st ++ [.lst (rows.map rowD)]) ok
  simp only [shut, frz, Nat.lt_irrefl, if_false, get_end]
  rw [show (frz st.length 59 (st ++ [.lst (rows.map rowD)])) = frz st.length (56 + 3) (st ++ [.lst (rows.map rowD)]) from rfl, hr]
  rfl
theorem DiaR.more {st : Sto} {i : Nat} {rows : List Row} {coming : Int} (h : DiaR st i rows coming) (m : Sto) : DiaR (st ++ m) i rows coming := by
  obtain ⟨e, u, h⟩ := h.cell
  exact ⟨e, u, by rw [List.getElem?_append_left (List.getElem?_eq_some_iff.mp h).1]; exact h⟩
theorem ev_coming (d : Nat) (bar : Bar) (env : Env) (st : Sto) {i : Nat} {rows : List Row} {coming : Int} (h : DiaR st i rows coming) (h0 : env[0]? = some (some (.ref i))) : evE (ctx txt (d + 1)) bar (.meth (.var 0) 17 false []) env st = .ok (.int coming) st := by
  have hm := m_coming d (shutBar st) st h
  obtain ⟨e, u, hc⟩ := h.cell
  have h17 : txt.meth 18 17 = some 41 := rfl
  simp [evE, h0, bind_ok, hc, h17, evEs, hm, shut_int]
theorem ev_rows (d : Nat) (bar : Bar) (env : Env) (st : Sto) {i : Nat} {rows : List Row} {coming : Int} (h : DiaR st i rows coming) (ok : ∀ r ∈ rows, RowOk r) (h0 : env[0]? = some (some (.ref i))) : evE (ctx txt (d + 1)) bar (.meth (.var 0) 19 false []) env st = .ok (.lst (rows.map rowD)) st := by
  have hm := m_rows_shut d st h ok
  obtain ⟨e, u, hc⟩ := h.cell
  have h19 : txt.meth 18 19 = some 40 := rfl
  simp [evE, h0, bind_ok, hc, h19, evEs, hm]
theorem line_eq (r : Row) : strOf r.n ++ (" " : Str) ++ strOf r.day ++ (" " : Str) ++ textS r.deed = lineS r := rfl
theorem write_turn (d : Nat) (st : Sto) (bar : Bar) (hb : bar.can st.length = true) (r : Row) (h : RowOk r) (x0 : D) (ls : List Str) (e5 : Option D) (hls : ls.length < 1000) :
    exSs (ctx txt (d + 2)) bar [.expr (.bm .append (.var 1) [(.fstr [(.var 2), (.str " "), (.var 3), (.str " "), (.call 91 false [(.var 4)])])])]
      [some x0, some (.ref st.length), some (.int r.n), some (.int r.day), some (.tup r.deed), e5] (st ++ [.lst (ls.map .str)]) =
    .ok (.nx [some x0, some (.ref st.length), some (.int r.n), some (.int r.day), some (.tup r.deed), e5]) (st ++ [.lst ((ls ++ [lineS r]).map .str)]) := by
  have l1 := strOf_len (i := r.n) (Nat.lt_of_lt_of_le h.n (by decide))
  have l2 := strOf_len (i := r.day) (Nat.lt_of_lt_of_le h.day (by decide))
  have l3 := textS_len h.things h.len
  have g1 : r.n.natAbs.log2 < 1920 := PySem.Flt.log2_lt_of (by decide) (Nat.lt_of_lt_of_le h.n (Nat.pow_le_pow_right (by decide) (by decide)))
  have g2 : r.day.natAbs.log2 < 1920 := PySem.Flt.log2_lt_of (by decide) (Nat.lt_of_lt_of_le h.day (Nat.pow_le_pow_right (by decide) (by decide)))
  have h3 := fun bar => deed_text d bar (st ++ [.lst (ls.map .str)]) r.deed h.things h.len
  have b1 : (" " : Str).length = 1 := rfl
  have z0 : Str.empty.length = 0 := rfl
  have q1 : Str.empty.length + (strOf r.n).length ≤ LIM := by rw [z0]; unfold LIM; omega
  have q2 : (strOf r.n).length + (" " : Str).length ≤ LIM := by rw [b1]; unfold LIM; omega
  have q3 : (strOf r.n ++ (" " : Str)).length + (strOf r.day).length ≤ LIM := by simp only [strLen_append, b1]; unfold LIM; omega
  have q4 : (strOf r.n ++ (" " : Str) ++ strOf r.day).length + (" " : Str).length ≤ LIM := by simp only [strLen_append, b1]; unfold LIM; omega
  have q5 : (strOf r.n ++ (" " : Str) ++ strOf r.day ++ (" " : Str)).length + (textS r.deed).length ≤ LIM := by simp only [strLen_append, b1]; unfold LIM; omega
  have ha : bmV bar (st ++ [.lst (ls.map .str)]) .append (.ref st.length) [.str (lineS r)] = .ok .non (st ++ [.lst ((ls ++ [lineS r]).map .str)]) := by
    have hq : (ls.map D.str).length < LIM := by rw [List.length_map]; exact Nat.lt_of_lt_of_le hls (by decide)
    simp only [bmV, get_end, decide_eq_true hq, if_true, setC, hb, set_end, List.map_append, List.map_cons, List.map_nil]
  have hf : evE (ctx txt (d + 2)) bar (.fstr [(.var 2), (.str " "), (.var 3), (.str " "), (.call 91 false [(.var 4)])]) [some x0, some (.ref st.length), some (.int r.n), some (.int r.day), some (.tup r.deed), e5] (st ++ [.lst (ls.map .str)]) = .ok (.str (lineS r)) (st ++ [.lst (ls.map .str)]) := by
    simp only [evE, evFs, evEs, List.getElem?_cons_succ, List.getElem?_cons_zero, bind_ok, g1, g2, q1, decide_true, Bool.and_self, if_true, Str.empty_append, q2, q3, q4, h3, shut_str, q5, line_eq, Bool.false_eq_true, if_false]
  generalize E.fstr [(.var 2), (.str " "), (.var 3), (.str " "), (.call 91 false [(.var 4)])] = e at hf ⊢
  simp [exSs, exS, evE, evEs, bind_ok, of_ok, seq_nx, hf, kd, bmOk, ha]
theorem prog_page (d : Nat) (st : Sto) {i : Nat} {rows : List Row} {coming : Int} (h : DiaR st i rows coming) (ok : ∀ r ∈ rows, RowOk r) (hl : rows.length ≤ 100) (hc : coming.natAbs < 2 ^ 64) :
    ∃ st', call txt (d + 3) 92 (shutBar st) [.ref i] st = .ok (.str (pageS rows coming)) st' := by
  rw [call_eq (F := f92) rfl rfl]
  have hl1 := strOf_len (i := coming) (Nat.lt_of_lt_of_le hc (by decide))
  have g1 : coming.natAbs.log2 < 1920 := PySem.Flt.log2_lt_of (by decide) (Nat.lt_of_lt_of_le hc (Nat.pow_le_pow_right (by decide) (by decide)))
  have b0 : ("next " : Str).length = 5 := rfl
  have q1 : Str.empty.length + ("next " : Str).length ≤ LIM := by decide
  have q2 : ("next " : Str).length + (strOf coming).length ≤ LIM := by rw [b0]; unfold LIM; omega
  have hL : (1 : Nat) ≤ LIM := by decide
  let C := ctx txt (d + 2)
  let first : Str := ("next " : Str) ++ strOf coming
  have hcm := fun bar env h0 => ev_coming (d + 1) bar env st h h0
  have e1 : exS C (shutBar st) (.asg 1 (.lst true [(.fstr [(.str "next "), (.meth (.var 0) 17 false [])])])) [some (.ref i), none, none, none, none, none] st =
      .ok (.nx [some (.ref i), some (.ref st.length), none, none, none, none]) (st ++ [.lst [.str first]]) := by
    have hm : evE C (shutBar st) (.meth (.var 0) 17 false []) [some (.ref i), none, none, none, none, none] st = .ok (.int coming) st := hcm (shutBar st) [some (.ref i), none, none, none, none, none] rfl
    generalize E.meth (.var 0) 17 false [] = e at hm ⊢
    simp [exS, evE, evEs, evFs, bind_ok, of_ok, hm, q1, q2, g1, Str.empty_append, newL, hL, first]
  have hcan : (walkLo (shutBar st) [.lst (rows.map rowD)]).can st.length = true := by simp [walkLo, Bar.can, cellOf]
  obtain ⟨env2, st2, f1, e3, e4, e5, rfl, rfl⟩ := for_inv (tg := [2, 3, 4]) (one := false) (body := fun e s => exSs C (walkLo (shutBar st) [.lst (rows.map rowD)]) [.expr (.bm .append (.var 1) [(.fstr [(.var 2), (.str " "), (.var 3), (.str " "), (.call 91 false [(.var 4)])])])] e s)
    (fun k e s => ∃ e3 e4 e5, e = [some (.ref i), some (.ref st.length), e3, e4, e5, none] ∧ s = st ++ [.lst ((first :: (rows.take k).map lineS).map .str)]) (rows.map rowD) 0
    [some (.ref i), some (.ref st.length), none, none, none, none] (st ++ [.lst [.str first]]) ⟨none, none, none, rfl, by simp⟩ (fun k dd e s hk hI => by
      obtain ⟨e3, e4, e5, rfl, rfl⟩ := hI
      rw [List.getElem?_map] at hk
      obtain ⟨r, hk1, rfl⟩ := Option.map_eq_some_iff.mp hk
      have hm : r ∈ rows := List.mem_of_getElem? hk1
      rw [Nat.zero_add]
      refine ⟨_, _, _, rfl, write_turn d st _ hcan r (ok r hm) (.ref i) (first :: (rows.take k).map lineS) none ?_, ⟨_, _, _, rfl, ?_⟩⟩
      · rw [List.length_cons, List.length_map, List.length_take]; omega
      · rw [List.take_add_one, hk1]; simp)
  have e2 : exS C (shutBar st) (.forr [2, 3, 4] false .val [(.meth (.var 0) 19 false [])] [.expr (.bm .append (.var 1) [(.fstr [(.var 2), (.str " "), (.var 3), (.str " "), (.call 91 false [(.var 4)])])])])
      [some (.ref i), some (.ref st.length), none, none, none, none] (st ++ [.lst [.str first]]) = _ := ex_for (evs_cons (ev_rows (d + 1) _ _ _ (h.more _) ok rfl) evs_nil) rfl f1
  have ht : (rows.take (0 + (rows.map rowD).length)) = rows := by rw [List.length_map, Nat.zero_add, List.take_length]
  rw [ht] at e2
  let lines : List Str := first :: rows.map lineS
  have hlen : ∀ y ∈ lines, y.length ≤ 70000 := fun y hy => by
    rcases List.mem_cons.mp hy with rfl | hy
    · show (("next " : Str) ++ strOf coming).length ≤ _
      rw [strLen_append, b0]; omega
    · obtain ⟨r, hr, rfl⟩ := List.mem_map.mp hy
      exact lineS_len (ok r hr)
  have hnl : lines.length ≤ 101 := by show (first :: rows.map lineS).length ≤ 101; rw [List.length_cons, List.length_map]; omega
  let st2 : Sto := st ++ [.lst (lines.map .str)]
  have hE : evE C (shutBar st) (.lc false (.op .add (.var 5) (.str "\n")) [5] true .val [(.var 1)] []) [some (.ref i), some (.ref st.length), e3, e4, e5, none] st2 = .ok (.lst (lines.map fun y => .str (y ++ ("\n" : Str)))) st2 := by
    refine (ev_lc (ds := lines.map .str) (evs_cons (ev_var rfl) evs_nil) (by simp [itemsV, asL, st2]) (lc_map (fun x => match x with | .str y => .str (y ++ ("\n" : Str)) | x => x) (lines.map .str) fun x hx => ⟨_, rfl, rfl, ?_⟩) (by rw [List.length_map, List.length_map]; omega)).trans ?_
    · obtain ⟨y, hy, rfl⟩ := List.mem_map.mp hx
      have h7 := add_ss st2 (a := y) (b := ("\n" : Str)) (Nat.le_trans (Nat.add_le_add_right (hlen y hy) _) (by decide))
      simp [evE, bind_ok, wipeE, h7]
    · simp [newL, List.map_map, Function.comp_def]
  have hj : bmV (shutBar st) st2 .join (.str "") [.lst (lines.map fun y => .str (y ++ ("\n" : Str)))] = .ok (.str (pageS rows coming)) st2 := by
    refine join_ok (ys := lines.map (· ++ ("\n" : Str))) (M := 70001) (N := 101) ?_ (fun y hy => ?_) (by rw [List.length_map]; exact hnl) (by decide)
    · have := allS_str (lines.map (· ++ ("\n" : Str)))
      rw [List.map_map] at this
      exact this
    · obtain ⟨z, hz, rfl⟩ := List.mem_map.mp hy
      show (z ++ ("\n" : Str)).length ≤ _
      rw [strLen_append]
      exact Nat.le_trans (Nat.add_le_add_right (hlen z hz) _) (by decide)
  have e3' : exS C (shutBar st) (.ret (.bm .join (.str "") [(.lc false (.op .add (.var 5) (.str "\n")) [5] true .val [(.var 1)] [])])) [some (.ref i), some (.ref st.length), e3, e4, e5, none] st2 = .ok (.rt (.str (pageS rows coming))) st2 := by
    generalize E.lc false (.op .add (.var 5) (.str "\n")) [5] true .val [(.var 1)] [] = e at hE ⊢
    simp [exS, hE, evE, evEs, bind_ok, of_ok, kd, bmOk, hj]
  refine ⟨st2, ?_⟩
  show fin (exSs C (shutBar st) f92.body [some (.ref i), none, none, none, none, none] st) = _
  unfold f92
  simp only [exSs, e1, seq_nx, e2]
  exact congrArg (fun r : SR => fin (r.seq fun env1 st1 => .ok (.nx env1) st1)) e3'
theorem same_str (d : Nat) (bar : Bar) (st : Sto) (a : Str) : call txt (d + 1) 50 bar [.str a, .str a] st = .ok (.bl true) st := by
  rw [call_eq (F := f50) rfl rfl]
  simp [f50, exSs, exS, evE, evEs, evAnd, evOr, bind_ok, of_ok, seq_nx, seq_rt, fin_rt, isiV, asB_ok, eq_ss]
theorem same_int (d : Nat) (bar : Bar) (st : Sto) (a : Int) : call txt (d + 1) 50 bar [.int a, .int a] st = .ok (.bl true) st := by
  rw [call_eq (F := f50) rfl rfl]
  simp [f50, exSs, exS, evE, evEs, evAnd, evOr, bind_ok, of_ok, seq_nx, seq_rt, fin_rt, isiV, asB_ok, eq_ii]
theorem all_true {st : Sto} {c : Bool} {α : Type} (xs : List α) : bfV st .all c [.lst (xs.map fun _ => .bl true)] = .ok (.bl true) st := by
  have h : allB (xs.map fun _ => D.bl true) = some (xs.map fun _ => true) := by
    induction xs with
    | nil => rfl
    | cons x xs ih => simp [allB, ih]
  have h2 : (xs.map fun _ => true).all id = true := by simp
  simp [bfV, asL, h]
/-- two lists or two tuples that are alike item by item -/
theorem same_tup (d : Nat) (bar : Bar) (st : Sto) (xs : List D) (h : ∀ x ∈ xs, ∀ bar, call txt (d + 1) 50 bar [x, x] st = .ok (.bl true) st) (hl : xs.length ≤ 1000) : call txt (d + 2) 50 bar [.tup xs, .tup xs] st = .ok (.bl true) st := by
  rw [call_eq (F := f50) rfl rfl]
  have hE : evE (ctx txt (d + 1)) bar (.lc false (.call 50 false [(.var 2), (.var 3)]) [2, 3] false .zip [(.var 0), (.var 1)] []) [some (.tup xs), some (.tup xs), none, none] st = .ok (.lst (xs.map fun _ => .bl true)) st := by
    refine (ev_lc (ds := List.zipWith (fun a b => .tup [a, b]) xs xs) (evs_cons (ev_var rfl) (evs_cons (ev_var rfl) evs_nil)) rfl (lc_map (fun _ => .bl true) _ fun x hx => ?_) (by rw [List.length_map, List.length_zipWith]; omega)).trans ?_
    · rw [List.zipWith_self] at hx
      obtain ⟨y, hy, rfl⟩ := List.mem_map.mp hx
      refine ⟨_, rfl, rfl, ?_⟩
      simp [evE, evEs, bind_ok, wipeE, h y hy, shut_bl]
    · rw [List.zipWith_self, List.map_map]
      rfl
  have ha := all_true (st := st) (c := false) xs
  show fin (exSs (ctx txt (d + 1)) bar f50.body [some (.tup xs), some (.tup xs), none, none] st) = _
  unfold f50
  generalize E.lc false (.call 50 false [(.var 2), (.var 3)]) [2, 3] false .zip [(.var 0), (.var 1)] [] = e at hE ⊢
  simp [exSs, exS, evE, evEs, evAnd, evOr, bind_ok, of_ok, seq_nx, seq_rt, fin_rt, isiV, asB_ok, ne_bb, hE, len_t, eq_ii, ha]
theorem same_list (d : Nat) (bar : Bar) (st : Sto) (j : Nat) (xs : List D) (hj : st[j]? = some (.lst xs)) (h : ∀ x ∈ xs, ∀ bar, call txt (d + 1) 50 bar [x, x] st = .ok (.bl true) st) (hl : xs.length ≤ 1000) : call txt (d + 2) 50 bar [.lst xs, .ref j] st = .ok (.bl true) st := by
  rw [call_eq (F := f50) rfl rfl]
  have hE : evE (ctx txt (d + 1)) bar (.lc false (.call 50 false [(.var 2), (.var 3)]) [2, 3] false .zip [(.var 0), (.var 1)] []) [some (.lst xs), some (.ref j), none, none] st = .ok (.lst (xs.map fun _ => .bl true)) st := by
    refine (ev_lc (ds := List.zipWith (fun a b => .tup [a, b]) xs xs) (evs_cons (ev_var rfl) (evs_cons (ev_var rfl) evs_nil)) (by simp [itemsV, itemsV.src, asL, hj]) (lc_map (fun _ => .bl true) _ fun x hx => ?_) (by rw [List.length_map, List.length_zipWith]; omega)).trans ?_
    · rw [List.zipWith_self] at hx
      obtain ⟨y, hy, rfl⟩ := List.mem_map.mp hx
      refine ⟨_, rfl, rfl, ?_⟩
      simp [evE, evEs, bind_ok, wipeE, h y hy, shut_bl]
    · rw [List.zipWith_self, List.map_map]
      rfl
  have ha := all_true (st := st) (c := false) xs
  have hr : bfV st .len false [.ref j] = .ok (.int xs.length) st := by simp [bfV, asL, hj]
  show fin (exSs (ctx txt (d + 1)) bar f50.body [some (.lst xs), some (.ref j), none, none] st) = _
  unfold f50
  generalize E.lc false (.call 50 false [(.var 2), (.var 3)]) [2, 3] false .zip [(.var 0), (.var 1)] [] = e at hE ⊢
  simp [exSs, exS, evE, evEs, evAnd, evOr, bind_ok, of_ok, seq_nx, seq_rt, fin_rt, isiV, hj, asB_ok, ne_bb, hE, len_l, hr, eq_ii, ha]
/-! names -/
def letters : Str := "abcdefghijklmnopqrstuvwxyz"
structure NameOk (z : Str) : Prop where
  lo : 1 ≤ z.length
  hi : z.length ≤ 8
  low : ∀ c ∈ z.cps.toList, c ∈ letters.cps.toList
theorem in_sign (st : Sto) (c : Nat) (h : c ∈ letters.cps.toList) : inV st false (.str (chr1 c)) (.str letters) = .ok (.bl true) st := by
  simp [inV, chr1, h]
theorem is_name (d : Nat) (bar : Bar) (st : Sto) {z : Str} (h : NameOk z) : call txt (d + 1) 0 bar [.str z] st = .ok (.bl true) st := by
  rw [call_eq (F := f0) rfl rfl]
  have g0 : txt.glob 0 = some (.int 8) := rfl
  have g1 : txt.glob 1 = some (.str letters) := rfl
  have hl := len_s st (c := false) (a := z) (Nat.le_trans h.hi (by decide))
  have hlo : (1 : Int) ≤ z.length := by have := h.lo; omega
  have hhi : (z.length : Int) ≤ 8 := by have := h.hi; omega
  have hE : evE (ctx txt d) bar (.lc false (.inn false (.var 1) (.glob 1)) [1] true .val [(.var 0)] []) [some (.str z), none] st = .ok (.lst (z.cps.toList.map fun _ => .bl true)) st := by
    refine (ev_lc (ds := z.cps.toList.map fun c => .str (chr1 c)) (evs_cons (ev_var rfl) evs_nil) rfl (lc_map (fun _ => .bl true) _ fun x hx => ?_) ?_).trans ?_
    · obtain ⟨c, hc, rfl⟩ := List.mem_map.mp hx
      refine ⟨_, rfl, rfl, ?_⟩
      simp [evE, bind_ok, wipeE, g1, opt_some, in_sign st c (h.low c hc)]
    · rw [List.length_map, List.length_map]
      have : z.cps.toList.length = z.length := by simp [Str.length]
      have := h.hi
      omega
    · rw [List.map_map]; rfl
  have ha := all_true (st := st) (c := false) z.cps.toList
  show fin (exSs (ctx txt d) bar f0.body [some (.str z), none] st) = _
  unfold f0
  generalize E.lc false (.inn false (.var 1) (.glob 1)) [1] true .val [(.var 0)] [] = e at hE ⊢
  simp [exSs, exS, evE, evEs, evAnd, bind_ok, of_ok, seq_rt, fin_rt, le_ii, hl, g0, opt_some, hlo, hhi, hE, ha]
/-! deeds -/
/-- a thing of a kind -/
def KindOk (c : Nat) (x : D) : Prop := match x with
  | .str z => (c = 110 ∧ NameOk z) ∨ (c = 117 ∧ (z = "" ∨ NameOk z))
  | .int i => c = 100 ∧ -9999999999 ≤ i ∧ i ≤ 9999999999
  | _ => False
/-- the first of check_row's loops lets it -/
theorem row_turn1 (d : Nat) (st : Sto) (bar : Bar) (c : Nat) (x : D) (h : KindOk c x) (a b : D) : exSs (ctx txt d) bar [.ite (.and [(.cmp .eq (.var 2) (.str "d")), (.cmp .gt (.bf .abs false [(.var 3)]) (.glob 12))]) [.bad] []]
    [some a, some b, some (.str (chr1 c)), some x] st = .ok (.nx [some a, some b, some (.str (chr1 c)), some x]) st := by
  have g : txt.glob 12 = some (.int 9999999999) := rfl
  cases x <;> simp only [KindOk] at h
  · rename_i i
    obtain ⟨rfl, h1, h2⟩ := h
    have hd : (chr1 100 : Str) = ("d" : Str) := rfl
    have ha : ¬ ((9999999999 : Int) < if i < 0 then -i else i) := by split <;> omega
    simp [exSs, exS, evE, evEs, evAnd, bind_ok, of_ok, seq_nx, asB_ok, eq_ss, hd, abs_i, g, opt_some, gt_ii, ha]
  · rename_i z
    have hd : (chr1 c : Str) ≠ ("d" : Str) := by
      rcases h with ⟨rfl, _⟩ | ⟨rfl, _⟩ <;> decide
    simp [exSs, exS, evE, evEs, evAnd, bind_ok, of_ok, seq_nx, asB_ok, eq_ss, hd]
/-- the second of check_row's loops lets it -/
theorem row_turn2 (d : Nat) (st : Sto) (bar : Bar) (c : Nat) (x : D) (h : KindOk c x) (a b : D) : exSs (ctx txt (d + 1)) bar [.ite (.or [(.and [(.cmp .eq (.var 2) (.str "n")), (.not (.call 0 false [(.var 3)]))]), (.and [(.cmp .eq (.var 2) (.str "u")), (.cmp .ne (.var 3) (.str "")), (.not (.call 0 false [(.var 3)]))])]) [.bad] []]
    [some a, some b, some (.str (chr1 c)), some x] st = .ok (.nx [some a, some b, some (.str (chr1 c)), some x]) st := by
  cases x <;> simp only [KindOk] at h
  · obtain ⟨rfl, h1, h2⟩ := h
    have hd : (chr1 100 : Str) ≠ ("n" : Str) := by decide
    have hd2 : (chr1 100 : Str) ≠ ("u" : Str) := by decide
    simp [exSs, exS, evE, evEs, evAnd, evOr, bind_ok, of_ok, seq_nx, asB_ok, eq_ss, hd, hd2]
  · rename_i z
    rcases h with ⟨rfl, h⟩ | ⟨rfl, h⟩
    · have hd : (chr1 110 : Str) = ("n" : Str) := rfl
      have hd2 : ("n" : Str) ≠ ("u" : Str) := by decide
      have hn := is_name d (shutBar st) st h
      simp [exSs, exS, evE, evEs, evAnd, evOr, bind_ok, of_ok, seq_nx, asB_ok, eq_ss, hd, hd2, hn, shut_bl]
    · have hd : (chr1 117 : Str) = ("u" : Str) := rfl
      have hd2 : ("u" : Str) ≠ ("n" : Str) := by decide
      rcases h with rfl | h
      · simp [exSs, exS, evE, evEs, evAnd, evOr, bind_ok, of_ok, seq_nx, asB_ok, eq_ss, ne_ss, hd, hd2]
      · have hn := is_name d (shutBar st) st h
        have hz : z ≠ ("" : Str) := fun e => by have := h.lo; rw [e] at this; exact absurd this (by decide)
        simp [exSs, exS, evE, evEs, evAnd, evOr, bind_ok, of_ok, seq_nx, asB_ok, eq_ss, ne_ss, hd, hd2, hz, hn, shut_bl]
def countsL : List (L2.Key × D) := [(.inr "trestle", .int 5), (.inr "board", .int 6), (.inr "away", .int 2), (.inr "along", .int 3), (.inr "sack", .int 5), (.inr "move", .int 4), (.inr "lift", .int 2), (.inr "cord", .int 5), (.inr "cut", .int 2)]
def kindsL : List (L2.Key × D) := [(.inr "trestle", .str "nddd"), (.inr "board", .str "ndddd"), (.inr "away", .str "n"), (.inr "along", .str "nd"), (.inr "sack", .str "nndd"), (.inr "move", .str "nnd"), (.inr "lift", .str "n"), (.inr "cord", .str "nund"), (.inr "cut", .str "n")]
structure DeedOk (kind ks : Str) (args : List D) : Prop where
  cnt : getK countsL (Sum.inr kind) = some (.int ((args.length : Int) + 1))
  knd : getK kindsL (Sum.inr kind) = some (.str ks)
  len : args.length = ks.length
  few : args.length ≤ 9
  all : ∀ (i : Nat) (c : Nat) (x : D), ks.cps.toList[i]? = some c → args[i]? = some x → KindOk c x
theorem check_deed (d : Nat) (bar : Bar) (st : Sto) {kind ks : Str} {args : List D} (h : DeedOk kind ks args) : call txt (d + 1) 6 bar [.tup (.str kind :: args)] st = .ok .non st := by
  rw [call_eq (F := f6) rfl rfl]
  have g5 : txt.glob 5 = some (.kdc countsL) := rfl
  have hl : ∀ s, look s (.kdc countsL) (.str kind) = some (some (.int ((args.length : Int) + 1))) := fun s => by
    show some (getK countsL (Sum.inr kind)) = _
    rw [h.cnt]
  have hi : inV st true (.str kind) (.kdc countsL) = .ok (.bl false) st := by
    simp [inV, hl]
  have h0 : ixV st (.tup (.str kind :: args)) (.int 0) = .ok (.str kind) st := by
    have hp : (0 : Int) < (args.length : Int) + 1 := by omega
    simp [ixV, look, asK, atI, ixN, opt_some, hp]
  have h1 : ixV st (.kdc countsL) (.str kind) = .ok (.int ((args.length : Int) + 1)) st := by
    simp [ixV, hl, opt_some]
  have hne : ¬ ((args.length : Int) + 1 = 0) := by omega
  show fin (exSs (ctx txt d) bar f6.body [some (.tup (.str kind :: args))] st) = _
  simp [f6, exSs, exS, evE, evEs, evOr, bind_ok, of_ok, seq_nx, asB_ok, len_t, eq_ii, ne_ii, g5, opt_some, h0, h1, hi, hne, fin_nx]
theorem check_row (d : Nat) (bar : Bar) (st : Sto) {kind ks : Str} {args : List D} (h : DeedOk kind ks args) : call txt (d + 2) 33 bar [.tup (.str kind :: args)] st = .ok .non st := by
  rw [call_eq (F := f33) rfl rfl]
  have g11 : txt.glob 11 = some (.kdc kindsL) := rfl
  have hl : ∀ s, look s (.kdc kindsL) (.str kind) = some (some (.str ks)) := fun s => by
    show some (getK kindsL (.inr kind)) = _
    rw [h.knd]
  have h1 : ixV st (.kdc kindsL) (.str kind) = .ok (.str ks) st := by
    simp [ixV, hl, opt_some]
  have hp : (0 : Int) < (args.length : Int) + 1 := by omega
  have h0 : ixV st (.tup (.str kind :: args)) (.int 0) = .ok (.str kind) st := by
    simp [ixV, look, asK, atI, ixN, opt_some, hp]
  have hc := check_deed d (shutBar st) st h
  have hs : slV st (.tup (.str kind :: args)) (some 1) none = .ok (.tup args) st := by
    simp [slV, cut, sIx]
  let C := ctx txt (d + 1)
  let ds : List D := List.zipWith (fun a b => .tup [a, b]) (ks.cps.toList.map fun c => .str (chr1 c)) args
  have loop : ∀ (body : List S) (e2 e3 : Option D), (∀ (b : Bar) (c : Nat) (x : D), KindOk c x → exSs C b body [some (.tup (.str kind :: args)), some (.str ks), some (.str (chr1 c)), some x] st = .ok (.nx [some (.tup (.str kind :: args)), some (.str ks), some (.str (chr1 c)), some x]) st) →
      ∃ e4 e5, exS C bar (.forr [2, 3] false .zip [(.var 1), (.sl (.var 0) [(.int 1)] [])] body) [some (.tup (.str kind :: args)), some (.str ks), e2, e3] st = .ok (.nx [some (.tup (.str kind :: args)), some (.str ks), e4, e5]) st := by
    intro body e2 e3 hb
    have hsl : evE C bar (.sl (.var 0) [(.int 1)] []) [some (.tup (.str kind :: args)), some (.str ks), e2, e3] st = .ok (.tup args) st := by
      simp [evE, evBd, asI, bind_ok, hs]
    obtain ⟨env2, st2, f1, e4, e5, rfl, rfl⟩ := for_inv (tg := [2, 3]) (one := false) (body := fun e s => exSs C (walkLo bar [.str ks, .tup args]) body e s)
      (fun _ e s => ∃ e4 e5, e = [some (.tup (.str kind :: args)), some (.str ks), e4, e5] ∧ s = st) ds 0 [some (.tup (.str kind :: args)), some (.str ks), e2, e3] st ⟨e2, e3, rfl, rfl⟩ (fun k dd e s hk hI => by
        obtain ⟨e4, e5, rfl, rfl⟩ := hI
        simp only [ds, List.getElem?_zipWith, List.getElem?_map] at hk
        cases hc1 : ks.cps.toList[k]? with
        | none => rw [hc1] at hk; simp at hk
        | some c =>
          cases hc2 : args[k]? with
          | none => rw [hc1, hc2] at hk; simp at hk
          | some x =>
            rw [hc1, hc2] at hk
            simp only [Option.map_some, Option.some.injEq] at hk
            subst hk
            exact ⟨_, _, _, rfl, hb _ c x (h.all k c x hc1 hc2), ⟨_, _, rfl, rfl⟩⟩)
    exact ⟨e4, e5, ex_for (evs_cons (ev_var rfl) (evs_cons hsl evs_nil)) rfl f1⟩
  obtain ⟨a4, a5, l1⟩ := loop _ none none fun b c x hx => row_turn1 (d + 1) st b c x hx _ _
  obtain ⟨b4, b5, l2⟩ := loop _ a4 a5 fun b c x hx => row_turn2 d st b c x hx _ _
  show fin (exSs C bar f33.body [some (.tup (.str kind :: args)), none, none, none] st) = _
  unfold f33
  have p1 : exS C bar (.expr (.call 6 false [(.var 0)])) [some (.tup (.str kind :: args)), none, none, none] st = .ok (.nx [some (.tup (.str kind :: args)), none, none, none]) st := by
    simp [C, exS, evE, evEs, bind_ok, of_ok, hc, shut_non]
  have p2 : exS C bar (.asg 1 (.ix (.glob 11) (.ix (.var 0) (.int 0)))) [some (.tup (.str kind :: args)), none, none, none] st = .ok (.nx [some (.tup (.str kind :: args)), some (.str ks), none, none]) st := by
    simp [C, exS, evE, bind_ok, of_ok, g11, opt_some, h0, h1]
  simp only [exSs, p1, seq_nx, p2, l1, l2, fin_nx]
theorem place_turns (C : Ctx) (bar : Bar) (st : Sto) (num : Int) (v0 : D) : ∀ (rows : List Row) (k : Nat) (e2 e3 : Option D) (j : Nat) (r : Row), rows[j]? = some r → r.n = num → (∀ i r', i < j → rows[i]? = some r' → r'.n ≠ num) →
    forRun [2, 3] false (fun e s => exSs C bar [.ite (.cmp .eq (.ix (.var 3) (.int 0)) (.var 1)) [.ret (.var 2)] []] e s) (rows.mapIdx fun i y => .tup [.int ((k + i : Nat) : Int), rowD y]) [some v0, some (.int num), e2, e3] st = .ok (.rt (.int ((k + j : Nat) : Int))) st
  | [], k, e2, e3, j, r, h, _, _ => by simp at h
  | x :: rows, k, e2, e3, j, r, h, hn, hb => by
    have h0 : ixV st (rowD x) (.int 0) = .ok (.int x.n) st := rfl
    rw [List.mapIdx_cons]
    cases j with
    | zero =>
      simp at h
      subst h
      simp [forRun, bindT, exSs, exS, evE, bind_ok, of_ok, seq_rt, h0, eq_ii, asB_ok, hn]
    | succ j =>
      have hx : x.n ≠ num := hb 0 x (by omega) rfl
      have ih := place_turns C bar st num v0 rows (k + 1) (some (.int (k : Int))) (some (rowD x)) j r (by simpa using h) hn fun i r' hi hr => hb (i + 1) r' (by omega) (by simpa using hr)
      have e : (fun (i : Nat) (y : Row) => D.tup [.int ((k + (i + 1) : Nat) : Int), rowD y]) = fun i y => D.tup [.int ((k + 1 + i : Nat) : Int), rowD y] := by
        funext i y
        rw [show k + (i + 1) = k + 1 + i by omega]
      rw [e]
      have e2' : k + (j + 1) = k + 1 + j := by omega
      rw [e2', ← ih]
      simp [forRun, bindT, exSs, exS, evE, bind_ok, of_ok, seq_nx, h0, eq_ii, asB_ok, hx]
theorem place_of (d : Nat) (bar : Bar) (st : Sto) (rows : List Row) (j : Nat) (r : Row) (h : rows[j]? = some r) (hb : ∀ i r', i < j → rows[i]? = some r' → r'.n ≠ r.n) : call txt (d + 1) 34 bar [.lst (rows.map rowD), .int r.n] st = .ok (.int j) st := by
  rw [call_eq (F := f34) rfl rfl]
  have ht := place_turns (ctx txt d) (walkLo bar [.lst (rows.map rowD)]) st r.n (.lst (rows.map rowD)) rows 0 none none j r h rfl hb
  have hi : itemsV st .enum [.lst (rows.map rowD)] = some (rows.mapIdx fun i y => .tup [.int ((0 + i : Nat) : Int), rowD y]) := by
    simp only [itemsV, asL, Option.map_some, Option.some.injEq]
    apply List.ext_getElem?
    intro i
    simp only [List.getElem?_mapIdx, List.getElem?_map, Nat.zero_add]
    cases rows[i]? <;> rfl
  have e1 : exS (ctx txt d) bar (.forr [2, 3] false .enum [(.var 0)] [.ite (.cmp .eq (.ix (.var 3) (.int 0)) (.var 1)) [.ret (.var 2)] []]) [some (.lst (rows.map rowD)), some (.int r.n), none, none] st = .ok (.rt (.int ((0 + j : Nat) : Int))) st :=
    ex_for (evs_cons (ev_var rfl) evs_nil) hi ht
  show fin (exSs (ctx txt d) bar f34.body [some (.lst (rows.map rowD)), some (.int r.n), none, none] st) = _
  unfold f34
  simp only [exSs, e1, seq_rt, fin_rt, Nat.zero_add]

/-! _law_feed -/
/-- numbers as they come -/
def FeedOk (xs : List Int) : Prop := ∀ x ∈ xs, 0 ≤ x ∧ x < 1000003
theorem FeedOk.snoc {xs : List Int} {x : Int} (h : FeedOk xs) (h1 : 0 ≤ x) (h2 : x < 1000003) : FeedOk (xs ++ [x]) := fun y hy => by
  rcases List.mem_append.mp hy with hy | hy
  · exact h y hy
  · cases List.mem_singleton.mp hy; exact ⟨h1, h2⟩
theorem feed_inner (d : Nat) (bar : Bar) (st : Sto) (hb : bar.can st.length = true) (v0 v1 : D) (salt : Int) (e4 : Option D) (k : D) (xs : List Int) (rest : Int) (hx : FeedOk xs) (hl : xs.length < 16000000) :
    ∃ xs' rest', exSs (ctx txt d) bar [.ite (.cmp .gt (.var 5) (.int 0)) [.expr (.bm .append (.var 2) [(.op .mod (.var 5) (.int 1009))]), .asg 5 (.op .fdiv (.var 5) (.int 1009))] []]
      [some v0, some v1, some (.ref st.length), some (.int salt), e4, some (.int rest), some k] (st ++ [.lst (xs.map .int)]) =
      .ok (.nx [some v0, some v1, some (.ref st.length), some (.int salt), e4, some (.int rest'), some k]) (st ++ [.lst (xs'.map .int)]) ∧ FeedOk xs' ∧ xs'.length ≤ xs.length + 1 := by
  by_cases hr : 0 < rest
  · refine ⟨xs ++ [rest % 1009], rest / 1009, ?_, hx.snoc (Int.emod_nonneg _ (by decide)) (Int.lt_trans (Int.emod_lt_of_pos _ (by decide)) (by decide)), by simp⟩
    have m1 := mod_ii (st ++ [.lst (xs.map D.int)]) (i := rest) (j := 1009) (by decide)
    have m2 := fun s => fdiv_ii s (i := rest) (j := 1009) (by decide) (by decide)
    have ha := app_end D.int (bar := bar) (st := st) (xs := xs) (x := rest % 1009) rfl hb (by omega)
    simp only [exSs, exS, evE, evEs, List.getElem?_cons_succ, List.getElem?_cons_zero, bind_ok, of_ok, seq_nx, gt_ii, hr, decide_true, asB_ok, if_true, kd, get_end, bmOk, m1, ha, m2, List.set_cons_succ, List.set_cons_zero]
  · refine ⟨xs, rest, ?_, hx, by simp⟩
    simp only [exSs, exS, evE, evEs, List.getElem?_cons_succ, List.getElem?_cons_zero, bind_ok, of_ok, seq_nx, gt_ii, hr, decide_false, asB_ok, if_false, Bool.false_eq_true]
theorem feed_loop (d : Nat) (bar : Bar) (st : Sto) (hb : ∀ xs, xs.filterMap cellOf = [] → (walkLo bar xs).can st.length = true) (hb0 : bar.can st.length = true) (v0 v1 : D) (salt : Int) (c : Int) (e5 e6 : Option D) (xs : List Int) (hx : FeedOk xs) (hl : xs.length < 15000000) (hs : 0 ≤ salt ∧ salt < 2147483647) :
    ∃ xs' salt' e5' e6', exSs (ctx txt d) bar [.asg 3 (.op .mod (.op .add (.op .add (.op .mul (.var 3) (.int 48271)) (.op .mod (.var 4) (.int 2147483629))) (.int 7)) (.int 2147483647)),
      .asg 5 (.op .sub (.var 4) (.op .pow (.int 10) (.int 18))),
      .ite (.cmp .lt (.var 5) (.int 0))
        [.expr (.bm .append (.var 2) [(.op .mod (.var 4) (.int 1000003))])]
        [],
      .forr [6] true .range1 [(.int 60)]
        [.ite (.cmp .gt (.var 5) (.int 0))
           [.expr (.bm .append (.var 2) [(.op .mod (.var 5) (.int 1009))]),
            .asg 5 (.op .fdiv (.var 5) (.int 1009))]
           []]]
      [some v0, some v1, some (.ref st.length), some (.int salt), some (.int c), e5, e6] (st ++ [.lst (xs.map .int)]) =
      .ok (.nx [some v0, some v1, some (.ref st.length), some (.int salt'), some (.int c), e5', e6']) (st ++ [.lst (xs'.map .int)]) ∧ FeedOk xs' ∧ xs'.length ≤ xs.length + 61 ∧ 0 ≤ salt' ∧ salt' < 2147483647 := by
  let s0 := st ++ [.lst (xs.map D.int)]
  let C := ctx txt d
  let salt' := (salt * 48271 + c % 2147483629 + 7) % 2147483647
  let rest := c - 10 ^ 18
  have m1 : opV s0 .mul (.int salt) (.int 48271) = .ok (.int (salt * 48271)) s0 := mul_ii s0 (by omega) (by decide)
  have m2 : opV s0 .mod (.int c) (.int 2147483629) = .ok (.int (c % 2147483629)) s0 := mod_ii s0 (by decide)
  have m3 : opV s0 .mod (.int (salt * 48271 + c % 2147483629 + 7)) (.int 2147483647) = .ok (.int salt') s0 := mod_ii s0 (by decide)
  have m4 : opV s0 .pow (.int 10) (.int 18) = .ok (.int (10 ^ 18)) s0 := pow_ii s0 (by decide) (by decide) (by decide)
  have p1 : exS C bar (.asg 3 (.op .mod (.op .add (.op .add (.op .mul (.var 3) (.int 48271)) (.op .mod (.var 4) (.int 2147483629))) (.int 7)) (.int 2147483647)))
      [some v0, some v1, some (.ref st.length), some (.int salt), some (.int c), e5, e6] s0 = .ok (.nx [some v0, some v1, some (.ref st.length), some (.int salt'), some (.int c), e5, e6]) s0 := by
    simp only [exS, evE, List.getElem?_cons_succ, List.getElem?_cons_zero, bind_ok, of_ok, m1, m2, add_ii, m3, List.set_cons_succ, List.set_cons_zero]
  have p2 : exS C bar (.asg 5 (.op .sub (.var 4) (.op .pow (.int 10) (.int 18))))
      [some v0, some v1, some (.ref st.length), some (.int salt'), some (.int c), e5, e6] s0 = .ok (.nx [some v0, some v1, some (.ref st.length), some (.int salt'), some (.int c), some (.int rest), e6]) s0 := by
    simp only [exS, evE, List.getElem?_cons_succ, List.getElem?_cons_zero, bind_ok, of_ok, m4, sub_ii, List.set_cons_succ, List.set_cons_zero, rest]
  have p3 : ∃ xs1, exS C bar (.ite (.cmp .lt (.var 5) (.int 0)) [.expr (.bm .append (.var 2) [(.op .mod (.var 4) (.int 1000003))])] [])
      [some v0, some v1, some (.ref st.length), some (.int salt'), some (.int c), some (.int rest), e6] s0 =
      .ok (.nx [some v0, some v1, some (.ref st.length), some (.int salt'), some (.int c), some (.int rest), e6]) (st ++ [.lst (xs1.map .int)]) ∧ FeedOk xs1 ∧ xs1.length ≤ xs.length + 1 := by
    by_cases hr : rest < 0
    · refine ⟨xs ++ [c % 1000003], ?_, hx.snoc (Int.emod_nonneg _ (by decide)) (Int.emod_lt_of_pos _ (by decide)), by simp⟩
      have m1 : opV s0 .mod (.int c) (.int 1000003) = .ok (.int (c % 1000003)) s0 := mod_ii s0 (by decide)
      have ha := app_end D.int (bar := bar) (st := st) (xs := xs) (x := c % 1000003) rfl hb0 (by omega)
      have hk : kd s0 (.ref st.length) = .list := by simp only [kd, s0, get_end]
      simp only [exSs, exS, evE, evEs, List.getElem?_cons_succ, List.getElem?_cons_zero, bind_ok, of_ok, seq_nx, lt_ii, hr, decide_true, asB_ok, if_true, hk, bmOk, m1]
      simp only [s0, ha, of_ok, seq_nx]
    · refine ⟨xs, ?_, hx, by simp⟩
      simp only [exSs, exS, evE, evEs, List.getElem?_cons_succ, List.getElem?_cons_zero, bind_ok, of_ok, seq_nx, lt_ii, hr, decide_false, asB_ok, if_false, Bool.false_eq_true, s0]
  obtain ⟨xs1, p3, hx1, hl1⟩ := p3
  obtain ⟨env2, st2, f1, xs2, rest2, e6', rfl, rfl, hx2, hl2⟩ := for_inv (tg := [6]) (one := true) (body := fun e s => exSs C (walkLo bar [.int 60]) [.ite (.cmp .gt (.var 5) (.int 0)) [.expr (.bm .append (.var 2) [(.op .mod (.var 5) (.int 1009))]), .asg 5 (.op .fdiv (.var 5) (.int 1009))] []] e s)
    (fun k e s => ∃ (ys : List Int) (r : Int) (e6 : Option D), e = [some v0, some v1, some (.ref st.length), some (.int salt'), some (.int c), some (.int r), e6] ∧ s = st ++ [.lst (ys.map .int)] ∧ FeedOk ys ∧ ys.length ≤ xs1.length + k) ((List.range 60).map fun (i : Nat) => .int (i : Int)) 0
    [some v0, some v1, some (.ref st.length), some (.int salt'), some (.int c), some (.int rest), e6] (st ++ [.lst (xs1.map .int)]) ⟨xs1, rest, e6, rfl, rfl, hx1, by omega⟩ (fun k dd e s hk hI => by
      obtain ⟨ys, r, e6, rfl, rfl, hy, hyl⟩ := hI
      have hk' : k < 60 := by
        have := (List.getElem?_eq_some_iff.mp hk).1
        simpa using this
      obtain ⟨ys', r', h1, h2, h3⟩ := feed_inner d (walkLo bar [.int 60]) st (hb _ rfl) v0 v1 salt' (some (.int c)) dd ys r hy (by omega)
      exact ⟨_, _, _, rfl, h1, ys', r', _, rfl, rfl, h2, by omega⟩)
  have hr60 : ∀ s, itemsV s .range1 [.int 60] = some ((List.range 60).map fun (i : Nat) => .int (i : Int)) := fun s => rfl
  have p4 : exS C bar (.forr [6] true .range1 [(.int 60)] [.ite (.cmp .gt (.var 5) (.int 0)) [.expr (.bm .append (.var 2) [(.op .mod (.var 5) (.int 1009))]), .asg 5 (.op .fdiv (.var 5) (.int 1009))] []])
      [some v0, some v1, some (.ref st.length), some (.int salt'), some (.int c), some (.int rest), e6] (st ++ [.lst (xs1.map .int)]) = _ := ex_for (xs := [.int 60]) rfl (hr60 _) f1
  refine ⟨xs2, salt', some (.int rest2), e6', ?_, hx2, ?_, Int.emod_nonneg _ (by decide), Int.emod_lt_of_pos _ (by decide)⟩
  · rw [exSs, p1, seq_nx, exSs, p2, seq_nx, exSs, p3, seq_nx, exSs, p4, seq_nx, exSs]
  · simp at hl2; omega
theorem feed (d : Nat) (st : Sto) (ns : List Int) (hn : ns.length ≤ 63) (many : Nat) (hm : many ≤ 100000) :
    ∃ (xs : List Int) (st' : Sto), call txt (d + 1) 49 (shutBar st) [.scr (ns.map D.int), .int many] st = .ok (.lst (xs.map .int)) st' ∧ FeedOk xs ∧ xs.length = many := by
  rw [call_eq (F := f49) rfl rfl]
  let C := ctx txt d
  let v0 : D := .scr (ns.map D.int)
  let v1 : D := .int many
  have hs : ∀ s, slV s v0 none (some 63) = .ok (.lst (ns.map D.int)) s := fun s => by
    show Res.ok (D.lst (cut (ns.map D.int) none (some ((63 : Nat) : Int)))) s = _
    rw [cut_to, List.take_of_length_le (by simpa using hn)]
  have hb : ∀ xs, xs.filterMap cellOf = [] → (walkLo (shutBar st) xs).can st.length = true := fun xs h => can_walk h
  have hb2 : ∀ ys, ys.filterMap cellOf = [] → ∀ xs, xs.filterMap cellOf = [] → (walkLo (walkLo (shutBar st) ys) xs).can st.length = true := fun ys h xs h' => by
    simp [walkLo, Bar.can, h, h']
  have p1 : exS C (shutBar st) (.asg 2 (.lst true [])) [some v0, some v1, none, none, none, none, none] st = .ok (.nx [some v0, some v1, some (.ref st.length), none, none, none, none]) (st ++ [.lst (([] : List Int).map .int)]) := by
    have h0 : decide (([] : List D).length ≤ LIM) = true := by decide
    simp only [exS, evE, evEs, bind_ok, of_ok, h0, if_true, newL, List.map_nil, List.set_cons_succ, List.set_cons_zero]
  have p2 : ∀ s, exS C (shutBar st) (.asg 3 (.int 71)) [some v0, some v1, some (.ref st.length), none, none, none, none] s = .ok (.nx [some v0, some v1, some (.ref st.length), some (.int 71), none, none, none]) s := fun s => rfl
  obtain ⟨env2, st2, f1, xs2, salt2, e4, e5, e6, rfl, rfl, hx2, hl2, hs2⟩ := for_inv (tg := [4]) (one := true) (body := fun e s => exSs C (walkLo (shutBar st) [.lst (ns.map D.int)]) [.asg 3 (.op .mod (.op .add (.op .add (.op .mul (.var 3) (.int 48271)) (.op .mod (.var 4) (.int 2147483629))) (.int 7)) (.int 2147483647)),
      .asg 5 (.op .sub (.var 4) (.op .pow (.int 10) (.int 18))),
      .ite (.cmp .lt (.var 5) (.int 0))
        [.expr (.bm .append (.var 2) [(.op .mod (.var 4) (.int 1000003))])]
        [],
      .forr [6] true .range1 [(.int 60)]
        [.ite (.cmp .gt (.var 5) (.int 0))
           [.expr (.bm .append (.var 2) [(.op .mod (.var 5) (.int 1009))]),
            .asg 5 (.op .fdiv (.var 5) (.int 1009))]
           []]] e s)
    (fun k e s => ∃ (ys : List Int) (salt : Int) (e4 e5 e6 : Option D), e = [some v0, some v1, some (.ref st.length), some (.int salt), e4, e5, e6] ∧ s = st ++ [.lst (ys.map .int)] ∧ FeedOk ys ∧ ys.length ≤ 61 * k ∧ 0 ≤ salt ∧ salt < 2147483647) (ns.map D.int) 0
    [some v0, some v1, some (.ref st.length), some (.int 71), none, none, none] (st ++ [.lst (([] : List Int).map .int)]) ⟨[], 71, none, none, none, rfl, rfl, fun _ h => (nomatch h), Nat.le_refl 0, by decide, by decide⟩ (fun k dd e s hk hI => by
      obtain ⟨ys, salt, e4, e5, e6, rfl, rfl, hy, hyl, hs⟩ := hI
      rw [List.getElem?_map] at hk
      obtain ⟨c, hk1, rfl⟩ := Option.map_eq_some_iff.mp hk
      have hk2 := (List.getElem?_eq_some_iff.mp hk1).1
      obtain ⟨ys', salt', e5', e6', h1, h2, h3, h4⟩ := feed_loop d (walkLo (shutBar st) [.lst (ns.map D.int)]) st (hb2 _ rfl) (hb _ rfl) v0 v1 salt c e5 e6 ys hy (by omega) hs
      exact ⟨_, _, _, rfl, h1, ys', salt', _, _, _, rfl, rfl, h2, by omega, h4⟩)
  have hsl : evE C (shutBar st) (.sl (.var 0) [] [(.int 63)]) [some v0, some v1, some (.ref st.length), some (.int 71), none, none, none] (st ++ [.lst (([] : List Int).map .int)]) = .ok (.lst (ns.map D.int)) (st ++ [.lst (([] : List Int).map .int)]) := by
    simp only [evE, evBd, asI, List.getElem?_cons_succ, List.getElem?_cons_zero, bind_ok, hs]
  have p3 := ex_for (C := C) (bar := shutBar st) (k := .val) (evs_cons hsl evs_nil) (rfl : itemsV _ .val [.lst (ns.map D.int)] = some (ns.map D.int)) f1
  have hlen : ∀ s, asL s (.ref st.length) = some (xs2.map D.int) → bfV s .len false [.ref st.length] = .ok (.int xs2.length) s := fun s h => by simp only [bfV, h, List.length_map]
  have hl3 : xs2.length ≤ 61 * 63 := by simp at hl2; omega
  let left : Int := many - xs2.length
  have hrg : itemsV (st ++ [.lst (xs2.map D.int)]) .range1 [.int left] = some ((List.range left.toNat).map fun (i : Nat) => .int (i : Int)) := by
    have h1 : left < 1000000 := by omega
    have h2 : -1000000 < left := by omega
    simp only [itemsV, h1, h2, decide_true, Bool.and_self, if_true]
  obtain ⟨env3, st3, f2, xs3, salt3, e6', rfl, rfl, hx3, hl4, hs3⟩ := for_inv (tg := [6]) (one := true) (body := fun e s => exSs C (walkLo (shutBar st) [.int left]) [.asg 3 (.op .mod (.op .add (.op .add (.op .add (.op .mul (.op .mul (.var 3) (.var 3)) (.var 3)) (.op .mul (.int 69621) (.var 3))) (.op .mul (.int 17) (.var 6))) (.int 3)) (.int 2147483629)),
      .expr (.bm .append (.var 2) [(.op .mod (.op .fdiv (.var 3) (.int 1013)) (.int 1009))])] e s)
    (fun k e s => ∃ (ys : List Int) (salt : Int) (e6 : Option D), e = [some v0, some v1, some (.ref st.length), some (.int salt), e4, e5, e6] ∧ s = st ++ [.lst (ys.map .int)] ∧ FeedOk ys ∧ ys.length = xs2.length + k ∧ 0 ≤ salt ∧ salt < 2147483647) ((List.range left.toNat).map fun (i : Nat) => .int (i : Int)) 0
    [some v0, some v1, some (.ref st.length), some (.int salt2), e4, e5, e6] (st ++ [.lst (xs2.map .int)]) ⟨xs2, salt2, e6, rfl, rfl, hx2, rfl, hs2⟩ (fun k dd e s hk hI => by
      obtain ⟨ys, salt, e6, rfl, rfl, hy, hyl, hs⟩ := hI
      rw [List.getElem?_map] at hk
      obtain ⟨c, hk1, rfl⟩ := Option.map_eq_some_iff.mp hk
      have hk2 := (List.getElem?_eq_some_iff.mp hk1)
      obtain ⟨hk2, hk3⟩ := hk2
      have hc : c < 100000 := by
        rw [List.getElem_range] at hk3
        rw [List.length_range] at hk2
        omega
      rw [List.length_range] at hk2
      let s0 := st ++ [.lst (ys.map D.int)]
      let salt' := (salt * salt * salt + 69621 * salt + 17 * (c : Int) + 3) % 2147483629
      have b1 : 0 ≤ salt * salt := Int.mul_nonneg hs.1 hs.1
      have b2 : salt * salt ≤ 2147483647 * 2147483647 := Int.mul_le_mul (Int.le_of_lt hs.2) (Int.le_of_lt hs.2) hs.1 (by decide)
      have m1 : opV s0 .mul (.int salt) (.int salt) = .ok (.int (salt * salt)) s0 := mul_ii s0 (by omega) (by omega)
      have m2 : opV s0 .mul (.int (salt * salt)) (.int salt) = .ok (.int (salt * salt * salt)) s0 := mul_ii s0 (by omega) (by omega)
      have m3 : opV s0 .mul (.int 69621) (.int salt) = .ok (.int (69621 * salt)) s0 := mul_ii s0 (by decide) (by omega)
      have m4 : opV s0 .mul (.int 17) (.int (c : Int)) = .ok (.int (17 * (c : Int))) s0 := mul_ii s0 (by decide) (by omega)
      have m5 : opV s0 .mod (.int (salt * salt * salt + 69621 * salt + 17 * (c : Int) + 3)) (.int 2147483629) = .ok (.int salt') s0 := mod_ii s0 (by decide)
      have m6 : opV s0 .fdiv (.int salt') (.int 1013) = .ok (.int (salt' / 1013)) s0 := fdiv_ii s0 (by decide) (by decide)
      have m7 : opV s0 .mod (.int (salt' / 1013)) (.int 1009) = .ok (.int (salt' / 1013 % 1009)) s0 := mod_ii s0 (by decide)
      have ha := app_end D.int (bar := walkLo (shutBar st) [.int left]) (st := st) (xs := ys) (x := salt' / 1013 % 1009) rfl (hb _ rfl) (by omega)
      have hk : kd s0 (.ref st.length) = .list := by simp only [kd, s0, get_end]
      have q1 : 0 ≤ salt' := Int.emod_nonneg _ (by decide)
      have q2 : salt' < 2147483629 := Int.emod_lt_of_pos _ (by decide)
      have q3 : 0 ≤ salt' / 1013 % 1009 := Int.emod_nonneg _ (by decide)
      have q4 : salt' / 1013 % 1009 < 1009 := Int.emod_lt_of_pos _ (by decide)
      refine ⟨_, [some v0, some v1, some (.ref st.length), some (.int salt'), e4, e5, some (.int (c : Int))], st ++ [.lst ((ys ++ [salt' / 1013 % 1009]).map .int)], rfl, ?_, ys ++ [salt' / 1013 % 1009], salt', some (.int (c : Int)), rfl, rfl, hy.snoc q3 (by omega), by simp; omega, q1, by omega⟩
      show exSs C (walkLo (shutBar st) [.int left]) _ [some v0, some v1, some (.ref st.length), some (.int salt), e4, e5, some (.int (c : Int))] s0 = _
      simp only [exSs, exS, evE, evEs, List.getElem?_cons_succ, List.getElem?_cons_zero, bind_ok, of_ok, seq_nx, m1, m2, m3, m4, add_ii, m5, List.set_cons_succ, List.set_cons_zero, hk, bmOk, if_true, m6, m7]
      simp only [s0, ha, of_ok, seq_nx])
  have hle : evE C (shutBar st) (.op .sub (.var 1) (.bf .len false [(.var 2)])) [some v0, some v1, some (.ref st.length), some (.int salt2), e4, e5, e6] (st ++ [.lst (xs2.map .int)]) = .ok (.int left) (st ++ [.lst (xs2.map .int)]) := by
    have hA : asL (st ++ [.lst (xs2.map D.int)]) (.ref st.length) = some (xs2.map D.int) := by simp only [asL, get_end]
    simp only [evE, evEs, List.getElem?_cons_succ, List.getElem?_cons_zero, bind_ok, hlen _ hA, v1, sub_ii, left]
  have p4 := ex_for (C := C) (bar := shutBar st) (evs_cons hle evs_nil) hrg f2
  have hl5 : many ≤ xs3.length := by
    simp at hl4; omega
  have p5 : exS C (shutBar st) (.ret (.sl (.var 2) [] [(.var 1)])) [some v0, some v1, some (.ref st.length), some (.int salt3), e4, e5, e6'] (st ++ [.lst (xs3.map .int)]) = .ok (.rt (.lst ((xs3.take many).map .int))) (st ++ [.lst (xs3.map .int)]) := by
    have hA : slV (st ++ [.lst (xs3.map D.int)]) (.ref st.length) none (some (many : Int)) = .ok (.lst ((xs3.take many).map D.int)) (st ++ [.lst (xs3.map .int)]) := by
      simp only [slV, asL, get_end, cut_to, List.map_take]
    simp only [exS, evE, evBd, asI, List.getElem?_cons_succ, List.getElem?_cons_zero, bind_ok, of_ok, v1, hA]
  refine ⟨xs3.take many, st ++ [.lst (xs3.map .int)], ?_, fun x hx => hx3 x (List.mem_of_mem_take hx), by rw [List.length_take]; omega⟩
  show fin (exSs C (shutBar st) f49.body [some v0, some v1, none, none, none, none, none] st) = _
  unfold f49
  rw [exSs, p1, seq_nx, exSs, p2, seq_nx, exSs, p3, seq_nx, exSs, p4, seq_nx, exSs, p5, seq_rt, fin_rt]

/-! _law_names -/
theorem join_chars (cs : List Nat) : (PySem.Txt.join ("" : Str) (cs.map chr1)).cps.toList = cs := by
  rw [show PySem.Txt.join ("" : Str) (cs.map chr1) = PySem.Str.join "" (cs.map chr1) from PySem.StrLaws.glued_eq_join _ _]
  induction cs with
  | nil => rfl
  | cons c cs ih =>
    cases cs with
    | nil => rfl
    | cons c2 cs2 =>
      show (chr1 c ++ ("" : Str) ++ PySem.Str.join "" ((c2 :: cs2).map chr1)).cps.toList = _
      rw [PySem.Str.cps_append, PySem.Str.cps_append, Array.toList_append, ih]
      rfl
theorem cutS_eq (z : Str) (lo hi : Option Int) : (cutS z lo hi).cps.toList = cut z.cps.toList lo hi := by
  simp [cutS, cut, Str.length]
def letterAt (i : Int) : Nat := letters.cps.toList.getD i.toNat 97
theorem letters_len : letters.cps.toList.length = 26 := rfl
theorem letterAt_mem (i : Int) : letterAt i ∈ letters.cps.toList := by
  unfold letterAt
  rw [List.getD_eq_getElem?_getD]
  cases h : letters.cps.toList[i.toNat]? with
  | none => exact (by decide : (97 : Nat) ∈ letters.cps.toList)
  | some c => exact List.mem_of_getElem? h
theorem ix_letters (st : Sto) {i : Int} (h0 : 0 ≤ i) (h1 : i < 26) : ixV st (.str letters) (.int i) = .ok (.str (chr1 (letterAt i))) st := by
  have hl : decide (letters.length ≤ LIM) = true := by decide
  have hi : letters.cps.toList[i.toNat]? = some (letterAt i) := by
    unfold letterAt
    rw [List.getD_eq_getElem?_getD]
    have : i.toNat < letters.cps.toList.length := by rw [letters_len]; omega
    rw [List.getElem?_eq_getElem this]; rfl
  have hx : ixN letters.cps.toList.length i = some i.toNat := by
    rw [letters_len]
    have : i < ((26 : Nat) : Int) := by omega
    simp only [ixN, h0, this, if_true]
  have hlook : look st (.str letters) (.int i) = none := rfl
  simp only [ixV, hlook, hl, if_true, atI, hx, Option.bind_some, hi, Option.map_some, opt_some]
theorem names (d : Nat) (st : Sto) (a0 a1 a2 a3 : Int) (rest : List D) (h0 : 0 ≤ a0 ∧ a0 < 1000003) (h1 : 0 ≤ a1 ∧ a1 < 1000003) (h2 : 0 ≤ a2 ∧ a2 < 1000003) (h3 : 0 ≤ a3 ∧ a3 < 1000003) (many : Nat) (hm : many ≤ 1000) :
    ∃ ns : List Str, shut st (call txt (d + 1) 51 (shutBar st) [.lst (.int a0 :: .int a1 :: .int a2 :: .int a3 :: rest), .int many] st) = .ok (.lst (ns.map .str)) st ∧ ns.length = many ∧ ∀ z ∈ ns, NameOk z := by
  rw [call_eq (F := f51) rfl rfl]
  let C := ctx txt d
  let bar := shutBar st
  let v0 : D := .lst (.int a0 :: .int a1 :: .int a2 :: .int a3 :: rest)
  let v1 : D := .int many
  have i0 : ∀ s, ixV s v0 (.int 0) = .ok (.int a0) s := fun s => ix_lst (j := 0) rfl
  have i1 : ∀ s, ixV s v0 (.int 1) = .ok (.int a1) s := fun s => ix_lst (j := 1) rfl
  have i2 : ∀ s, ixV s v0 (.int 2) = .ok (.int a2) s := fun s => ix_lst (j := 2) rfl
  have i3 : ∀ s, ixV s v0 (.int 3) = .ok (.int a3) s := fun s => ix_lst (j := 3) rfl
  have p1 : exS C bar (.asg 2 (.str "abcdefghijklmnopqrstuvwxyz")) [some v0, some v1, none, none, none, none, none, none] st = .ok (.nx [some v0, some v1, some (.str letters), none, none, none, none, none]) st := rfl
  let n1 : Int := a1 % 8
  have n1a : 0 ≤ n1 := Int.emod_nonneg _ (by decide)
  have n1b : n1 < 8 := Int.emod_lt_of_pos _ (by decide)
  let cf : Nat → Nat := fun k => letterAt ((a0 + ((k : Int) + 1) * (a1 / 8)) % 26)
  let cs : List Nat := (List.range n1.toNat).map cf
  let base : Str := PySem.Txt.join ("" : Str) (cs.map chr1)
  have hbase : base.cps.toList = cs := join_chars cs
  have hcl : cs.length = n1.toNat := by simp [cs]
  have hbl : base.length = n1.toNat := by rw [← hcl, ← hbase]; simp [Str.length]
  have hE : evE C bar (.lc false (.ix (.var 2) (.op .mod (.op .add (.ix (.var 0) (.int 0)) (.op .mul (.op .add (.var 6) (.int 1)) (.op .fdiv (.ix (.var 0) (.int 1)) (.int 8)))) (.int 26))) [6] true .range1 [(.op .mod (.ix (.var 0) (.int 1)) (.int 8))] [])
      [some v0, some v1, some (.str letters), none, none, none, none, none] st = .ok (.lst ((cs.map chr1).map .str)) st := by
    have hsrc : evEs C bar [(.op .mod (.ix (.var 0) (.int 1)) (.int 8))] [some v0, some v1, some (.str letters), none, none, none, none, none] st = .ok [.int n1] st := by
      have hm := mod_ii st (i := a1) (j := 8) (by decide)
      simp only [evEs, evE, List.getElem?_cons_succ, List.getElem?_cons_zero, bind_ok, i1, hm, n1]
    have hit : itemsV st .range1 [.int n1] = some ((List.range n1.toNat).map fun (i : Nat) => .int (i : Int)) := by
      have h1 : n1 < 1000000 := by omega
      have h2 : -1000000 < n1 := by omega
      simp only [itemsV, h1, h2, decide_true, Bool.and_self, if_true]
    refine (ev_lc hsrc hit (lc_map (fun x => match x with | .int k => .str (chr1 (cf k.toNat)) | x => x) _ fun x hx => ?_) ?_).trans ?_
    · obtain ⟨k, hk, rfl⟩ := List.mem_map.mp hx
      have hk2 := List.mem_range.mp hk
      refine ⟨_, rfl, rfl, ?_⟩
      have q1 : 0 ≤ a1 / 8 := Int.ediv_nonneg h1.1 (by decide)
      have q2 : a1 / 8 ≤ 1000003 := by omega
      have m1 := fdiv_ii st (i := a1) (j := 8) (by decide) (by decide)
      have m2 : opV st .mul (.int ((k : Int) + 1)) (.int (a1 / 8)) = .ok (.int (((k : Int) + 1) * (a1 / 8))) st := mul_ii st (by omega) (by omega)
      have m3 := mod_ii st (i := a0 + ((k : Int) + 1) * (a1 / 8)) (j := 26) (by decide)
      have m4 := ix_letters st (i := (a0 + ((k : Int) + 1) * (a1 / 8)) % 26) (Int.emod_nonneg _ (by decide)) (Int.emod_lt_of_pos _ (by decide))
      simp only [evE, wipeE, List.foldr, List.set_cons_succ, List.set_cons_zero, List.getElem?_cons_succ, List.getElem?_cons_zero, bind_ok, i0, i1, add_ii, m1, m2, m3, m4, Int.toNat_natCast, cf]
    · simp; omega
    · simp [newL, cs, List.map_map, Function.comp_def]
  have hj : bmV bar st .join (.str "") [.lst ((cs.map chr1).map .str)] = .ok (.str base) st := by
    refine join_ok (ys := cs.map chr1) (M := 1) (N := 8) (allS_str _) (fun y hy => ?_) (by simp [cs]; omega) (by decide)
    obtain ⟨c, _, rfl⟩ := List.mem_map.mp hy
    exact Nat.le_refl 1
  have p2 : exS C bar (.asg 3 (.bm .join (.str "") [(.lc false (.ix (.var 2) (.op .mod (.op .add (.ix (.var 0) (.int 0)) (.op .mul (.op .add (.var 6) (.int 1)) (.op .fdiv (.ix (.var 0) (.int 1)) (.int 8)))) (.int 26))) [6] true .range1 [(.op .mod (.ix (.var 0) (.int 1)) (.int 8))] [])]))
      [some v0, some v1, some (.str letters), none, none, none, none, none] st = .ok (.nx [some v0, some v1, some (.str letters), some (.str base), none, none, none, none]) st := by
    have hk : kd st (.str "") = .str := rfl
    simp only [exS, evE.eq_def C bar (.bm ..), evE.eq_def C bar (.str ..), evEs, hE, bind_ok, of_ok, hk, bmOk, if_true, hj, List.set_cons_succ, List.set_cons_zero]
  let at_ : Int := a2 % (n1 + 1)
  have at0 : 0 ≤ at_ := Int.emod_nonneg _ (by omega)
  have at1 : at_ < n1 + 1 := Int.emod_lt_of_pos _ (by omega)
  have p3 : exS C bar (.asg 4 (.op .mod (.ix (.var 0) (.int 2)) (.op .add (.bf .len false [(.var 3)]) (.int 1))))
      [some v0, some v1, some (.str letters), some (.str base), none, none, none, none] st = .ok (.nx [some v0, some v1, some (.str letters), some (.str base), some (.int at_), none, none, none]) st := by
    have hl := len_s st (c := false) (a := base) (by omega)
    have hm : opV st .mod (.int a2) (.int ((base.length : Int) + 1)) = .ok (.int at_) st := by
      rw [mod_ii st (by omega), hbl, Int.toNat_of_nonneg n1a]
    simp only [exS, evE, evEs, List.getElem?_cons_succ, List.getElem?_cons_zero, bind_ok, of_ok, i2, hl, add_ii, hm, List.set_cons_succ, List.set_cons_zero]
  have p4 : exS C bar (.asg 5 (.lst true [])) [some v0, some v1, some (.str letters), some (.str base), some (.int at_), none, none, none] st = .ok (.nx [some v0, some v1, some (.str letters), some (.str base), some (.int at_), some (.ref st.length), none, none]) (st ++ [.lst (([] : List Str).map .str)]) := by
    have h0 : decide (([] : List D).length ≤ LIM) = true := by decide
    simp only [exS, evE, evEs, bind_ok, of_ok, h0, if_true, newL, List.map_nil, List.set_cons_succ, List.set_cons_zero]
  have hit : ∀ s, itemsV s .range1 [.int (many : Int)] = some ((List.range many).map fun (i : Nat) => .int (i : Int)) := fun s => by
    have h1 : (many : Int) < 1000000 := by omega
    have h2 : -1000000 < (many : Int) := by omega
    simp only [itemsV, h1, h2, decide_true, Bool.and_self, if_true, Int.toNat_natCast]
  obtain ⟨env2, st2, f1, ns2, e6, e7, rfl, rfl, hn2, hl2⟩ := for_inv (tg := [6]) (one := true) (body := fun e s => exSs C (walkLo bar [.int (many : Int)]) [.asg 7 (.ix (.var 2) (.op .mod (.op .add (.ix (.var 0) (.int 3)) (.op .mul (.int 7) (.var 6))) (.int 26))),
      .expr (.bm .append (.var 5) [(.op .add (.op .add (.sl (.var 3) [] [(.var 4)]) (.var 7)) (.sl (.var 3) [(.var 4)] []))])] e s)
    (fun k e s => ∃ (ns : List Str) (e6 e7 : Option D), e = [some v0, some v1, some (.str letters), some (.str base), some (.int at_), some (.ref st.length), e6, e7] ∧ s = st ++ [.lst (ns.map .str)] ∧ (∀ z ∈ ns, NameOk z) ∧ ns.length = k) ((List.range many).map fun (i : Nat) => .int (i : Int)) 0
    [some v0, some v1, some (.str letters), some (.str base), some (.int at_), some (.ref st.length), none, none] (st ++ [.lst (([] : List Str).map .str)]) ⟨[], none, none, rfl, rfl, (fun _ h => nomatch h), rfl⟩ (fun k dd e s hk hI => by
      obtain ⟨ns, e6, e7, rfl, rfl, hn, hl⟩ := hI
      have hkl := (List.getElem?_eq_some_iff.mp hk).1
      rw [List.length_map, List.length_range] at hkl
      rw [List.getElem?_map, List.getElem?_range hkl] at hk
      cases hk
      let c := k
      have hc : c < 1000 := by show k < 1000; omega
      let s0 := st ++ [.lst (ns.map D.str)]
      let sg := letterAt ((a3 + 7 * (c : Int)) % 26)
      let nm : Str := cutS base none (some at_) ++ chr1 sg ++ cutS base (some at_) none
      have m1 : opV s0 .mul (.int 7) (.int (c : Int)) = .ok (.int (7 * (c : Int))) s0 := mul_ii s0 (by decide) (by omega)
      have m2 := mod_ii s0 (i := a3 + 7 * (c : Int)) (j := 26) (by decide)
      have m3 : ixV s0 (.str letters) (.int ((a3 + 7 * (c : Int)) % 26)) = .ok (.str (chr1 sg)) s0 := ix_letters s0 (i := (a3 + 7 * (c : Int)) % 26) (Int.emod_nonneg _ (by decide)) (Int.emod_lt_of_pos _ (by decide))
      have hat : at_ = ((at_.toNat : Nat) : Int) := by omega
      have c1 : (cutS base none (some at_)).cps.toList = cs.take at_.toNat := by rw [cutS_eq, hbase, hat, cut_to]; rfl
      have c2 : (cutS base (some at_) none).cps.toList = cs.drop at_.toNat := by rw [cutS_eq, hbase, hat, cut_from]; rfl
      have l1 : (cutS base none (some at_)).length ≤ 8 := by
        have : (cutS base none (some at_)).length = (cs.take at_.toNat).length := by rw [← c1]; simp [Str.length]
        rw [this, List.length_take]; omega
      have l2 : (cutS base (some at_) none).length ≤ 8 := by
        have : (cutS base (some at_) none).length = (cs.drop at_.toNat).length := by rw [← c2]; simp [Str.length]
        rw [this, List.length_drop]; omega
      have hch : (chr1 sg).length = 1 := rfl
      have hnm : nm.cps.toList = cs.take at_.toNat ++ [sg] ++ cs.drop at_.toNat := by
        show (cutS base none (some at_) ++ chr1 sg ++ cutS base (some at_) none).cps.toList = _
        rw [PySem.Str.cps_append, PySem.Str.cps_append, Array.toList_append, Array.toList_append, c1, c2]; rfl
      have hnl : nm.length = n1.toNat + 1 := by
        have : nm.length = nm.cps.toList.length := by simp [Str.length]
        rw [this, hnm]; simp; omega
      have hok : NameOk nm := ⟨by omega, by omega, fun x hx => by
        rw [hnm] at hx
        have hcs : ∀ x ∈ cs, x ∈ letters.cps.toList := fun x hx => by
          obtain ⟨k, _, rfl⟩ := List.mem_map.mp hx
          exact letterAt_mem _
        rcases List.mem_append.mp hx with hx | hx
        · rcases List.mem_append.mp hx with hx | hx
          · exact hcs x (List.mem_of_mem_take hx)
          · cases List.mem_singleton.mp hx; exact letterAt_mem _
        · exact hcs x (List.mem_of_mem_drop hx)⟩
      have hbl' : base.length ≤ LIM := by unfold LIM; omega
      have m4 : slV s0 (.str base) none (some at_) = .ok (.str (cutS base none (some at_))) s0 := by simp only [slV, hbl', decide_true, if_true]
      have m5 : slV s0 (.str base) (some at_) none = .ok (.str (cutS base (some at_) none)) s0 := by simp only [slV, hbl', decide_true, if_true]
      have m6 := add_ss s0 (a := cutS base none (some at_)) (b := chr1 sg) (by omega)
      have m7 := add_ss s0 (a := cutS base none (some at_) ++ chr1 sg) (b := cutS base (some at_) none) (by rw [strLen_append]; omega)
      have hkd : kd s0 (.ref st.length) = .list := by simp only [kd, s0, get_end]
      have ha := app_end D.str (bar := walkLo bar [.int (many : Int)]) (st := st) (xs := ns) (x := nm) rfl (can_walk rfl) (by rw [hl]; omega)
      refine ⟨_, [some v0, some v1, some (.str letters), some (.str base), some (.int at_), some (.ref st.length), some (.int (c : Int)), some (.str (chr1 sg))], st ++ [.lst ((ns ++ [nm]).map .str)], rfl, ?_, ns ++ [nm], some (.int (c : Int)), some (.str (chr1 sg)), rfl, rfl, fun z hz => ?_, by simp; omega⟩
      · show exSs C (walkLo bar [.int (many : Int)]) _ [some v0, some v1, some (.str letters), some (.str base), some (.int at_), some (.ref st.length), some (.int (c : Int)), e7] s0 = _
        simp only [exSs, exS, evE, evEs, evBd, asI, List.getElem?_cons_succ, List.getElem?_cons_zero, bind_ok, of_ok, seq_nx, i3, m1, add_ii, m2, m3, List.set_cons_succ, List.set_cons_zero, m4, m5, m6, m7, hkd, bmOk, if_true]
        simp only [s0]
        rw [ha]
        rfl
      · rcases List.mem_append.mp hz with hz | hz
        · exact hn z hz
        · cases List.mem_singleton.mp hz; exact hok)
  have p5 := ex_for (C := C) (bar := bar) (src := [(.var 1)]) (evs_cons (ev_var (i := 1) rfl) evs_nil) (hit _) f1
  have p6 : exS C bar (.ret (.var 5)) [some v0, some v1, some (.str letters), some (.str base), some (.int at_), some (.ref st.length), e6, e7] (st ++ [.lst (ns2.map .str)]) = .ok (.rt (.ref st.length)) (st ++ [.lst (ns2.map .str)]) := rfl
  refine ⟨ns2, ?_, by simpa using hl2, hn2⟩
  show shut st (fin (exSs C bar f51.body [some v0, some v1, none, none, none, none, none, none] st)) = _
  unfold f51
  rw [exSs, p1, seq_nx, exSs, p2, seq_nx, exSs, p3, seq_nx, exSs, p4, seq_nx, exSs, p5, seq_nx, exSs, p6, seq_rt, fin_rt]
  have hf : mapO (frz st.length 59 (st ++ [.lst (ns2.map D.str)])) (ns2.map D.str) = some (ns2.map D.str) := mapO_id fun x hx => by
    obtain ⟨y, _, rfl⟩ := List.mem_map.mp hx
    rfl
  simp only [shut, frz, Nat.lt_irrefl, if_false, get_end, hf, Option.map_some]

/-! rows that a diary keeps -/
def kindsOk : List Nat → List D → Prop
  | c :: cs, x :: xs => KindOk c x ∧ kindsOk cs xs
  | [], [] => True
  | _, _ => False
theorem kindsOk.len : ∀ {cs : List Nat} {xs : List D}, kindsOk cs xs → xs.length = cs.length
  | [], [], _ => rfl
  | c :: cs, x :: xs, h => by rw [List.length_cons, List.length_cons, kindsOk.len h.2]
  | [], _ :: _, h => h.elim
  | _ :: _, [], h => h.elim
theorem kindsOk.get : ∀ {cs : List Nat} {xs : List D}, kindsOk cs xs → ∀ (i c : Nat) (x : D), cs[i]? = some c → xs[i]? = some x → KindOk c x
  | [], [], _, i, c, x, h, _ => by simp at h
  | a :: cs, b :: xs, h, 0, c, x, h1, h2 => by
    simp at h1 h2; subst h1; subst h2; exact h.1
  | a :: cs, b :: xs, h, i + 1, c, x, h1, h2 => kindsOk.get h.2 i c x (by simpa using h1) (by simpa using h2)
  | [], _ :: _, h, _, _, _, _, _ => h.elim
  | _ :: _, [], h, _, _, _, _, _ => h.elim
theorem DeedOk.of {kind ks : Str} {args : List D} (h1 : getK countsL (Sum.inr kind) = some (.int ((args.length : Int) + 1))) (h2 : getK kindsL (Sum.inr kind) = some (.str ks)) (h3 : args.length ≤ 9) (h : kindsOk ks.cps.toList args) : DeedOk kind ks args :=
  ⟨h1, h2, by rw [h.len]; simp [Str.length], h3, h.get⟩
/-- a deed that check_row lets -/
def DeedG (deed : List D) : Prop := ∃ (kind ks : Str) (args : List D), deed = .str kind :: args ∧ kind.length ≤ 8 ∧ DeedOk kind ks args
theorem KindOk.thing {c : Nat} {x : D} (h : KindOk c x) : Thing x := by
  cases x <;> simp only [KindOk] at h
  · show Int.natAbs _ < 2 ^ 64
    omega
  · rename_i z
    show z.length ≤ 8
    rcases h with ⟨_, h⟩ | ⟨_, rfl | h⟩
    · exact h.hi
    · decide
    · exact h.hi
theorem DeedOk.things {kind ks : Str} {args : List D} (h : DeedOk kind ks args) : ∀ x ∈ args, Thing x := fun x hx => by
  obtain ⟨i, hi, rfl⟩ := List.mem_iff_getElem.mp hx
  have hk : i < ks.cps.toList.length := by
    have : ks.cps.toList.length = ks.length := by simp [Str.length]
    rw [this, ← h.len]; exact hi
  exact (h.all i _ _ (List.getElem?_eq_getElem hk) (List.getElem?_eq_getElem hi)).thing
theorem DeedG.things {deed : List D} (h : DeedG deed) : ∀ x ∈ deed, Thing x := by
  obtain ⟨kind, ks, args, rfl, h1, h2⟩ := h
  intro x hx
  rcases List.mem_cons.mp hx with rfl | hx
  · exact h1
  · exact h2.things x hx
theorem DeedG.len {deed : List D} (h : DeedG deed) : deed.length ≤ 10 := by
  obtain ⟨kind, ks, args, rfl, h1, h2⟩ := h
  have := h2.few
  rw [List.length_cons]; omega
/-! _law_free_row -/
theorem app_endD {bar : Bar} {st : Sto} {xs : List D} {x : D} {i : Nat} (hi : i = st.length) (hb : bar.can st.length = true) (hl : xs.length < 16777216) :
    bmV bar (st ++ [.lst xs]) .append (.ref i) [x] = .ok .non (st ++ [.lst (xs ++ [x])]) := by
  have := app_end id (bar := bar) (st := st) (xs := xs) (x := x) hi hb hl
  simpa using this
theorem nm_at (st : Sto) (ns : List Str) (hn : ns.length = 8) (hz : ∀ z ∈ ns, NameOk z) {i : Int} : ∃ z, NameOk z ∧ ixV st (.lst (ns.map .str)) (.int (i % 8)) = .ok (.str z) st := by
  have h0 : 0 ≤ i % 8 := Int.emod_nonneg _ (by decide)
  have h1 : i % 8 < 8 := Int.emod_lt_of_pos _ (by decide)
  have hi : (i % 8).toNat < ns.length := by omega
  refine ⟨ns[(i % 8).toNat], hz _ (List.getElem_mem hi), ?_⟩
  have := ix_lst (st := st) (xs := ns.map D.str) (j := (i % 8).toNat) (x := .str ns[(i % 8).toNat]) (by rw [List.getElem?_map, List.getElem?_eq_getElem hi]; rfl)
  rw [Int.toNat_of_nonneg h0] at this
  exact this
theorem free_row (d : Nat) (st : Sto) (ns : List Str) (hn : ns.length = 8) (hz : ∀ z ∈ ns, NameOk z) (d0 d1 d2 d3 d4 d5 d6 d7 : Int) (rest : List D)
    (h2 : 0 ≤ d2 ∧ d2 < 1000003) (h4 : 0 ≤ d4 ∧ d4 < 1000003) (h5 : 0 ≤ d5 ∧ d5 < 1000003) (h6 : 0 ≤ d6 ∧ d6 < 1000003) :
    ∃ deed, shut st (call txt (d + 1) 103 (shutBar st) [.lst (ns.map .str), .lst (.int d0 :: .int d1 :: .int d2 :: .int d3 :: .int d4 :: .int d5 :: .int d6 :: .int d7 :: rest)] st) = .ok (.tup deed) st ∧ DeedG deed := by
  rw [call_eq (F := f103) rfl rfl]
  let C := ctx txt d
  let bar := shutBar st
  let v0 : D := .lst (ns.map .str)
  let v1 : D := .lst (.int d0 :: .int d1 :: .int d2 :: .int d3 :: .int d4 :: .int d5 :: .int d6 :: .int d7 :: rest)
  have i0 : ∀ s, ixV s v1 (.int 0) = .ok (.int d0) s := fun s => ix_lst (j := 0) rfl
  have i1 : ∀ s, ixV s v1 (.int 1) = .ok (.int d1) s := fun s => ix_lst (j := 1) rfl
  have i2 : ∀ s, ixV s v1 (.int 2) = .ok (.int d2) s := fun s => ix_lst (j := 2) rfl
  have i3 : ∀ s, ixV s v1 (.int 3) = .ok (.int d3) s := fun s => ix_lst (j := 3) rfl
  have i4 : ∀ s, ixV s v1 (.int 4) = .ok (.int d4) s := fun s => ix_lst (j := 4) rfl
  have i5 : ∀ s, ixV s v1 (.int 5) = .ok (.int d5) s := fun s => ix_lst (j := 5) rfl
  have i6 : ∀ s, ixV s v1 (.int 6) = .ok (.int d6) s := fun s => ix_lst (j := 6) rfl
  have i7 : ∀ s, ixV s v1 (.int 7) = .ok (.int d7) s := fun s => ix_lst (j := 7) rfl
  have hlen : ∀ s, bfV s .len false [v0] = .ok (.int 8) s := fun s => by
    rw [show bfV s .len false [v0] = .ok (.int ((ns.map D.str).length : Nat)) s from rfl, List.length_map, hn]; rfl
  obtain ⟨z1, hz1, n1⟩ := nm_at st ns hn hz (i := d0)
  obtain ⟨z2, hz2, n2⟩ := nm_at st ns hn hz (i := d1)
  have md : ∀ s (a b : Int), 0 < b → opV s .mod (.int a) (.int b) = .ok (.int (a % b)) s := fun s a b h => mod_ii s h
  have md1009 : ∀ (s : Sto) (a : Int), opV s .mod (.int a) (.int 1009) = .ok (.int (a % 1009)) s := fun s a => mod_ii s (by decide)
  have md11 : ∀ (s : Sto) (a : Int), opV s .mod (.int a) (.int 11) = .ok (.int (a % 11)) s := fun s a => mod_ii s (by decide)
  have md12 : ∀ (s : Sto) (a : Int), opV s .mod (.int a) (.int 12) = .ok (.int (a % 12)) s := fun s a => mod_ii s (by decide)
  have md4 : ∀ (s : Sto) (a : Int), opV s .mod (.int a) (.int 4) = .ok (.int (a % 4)) s := fun s a => mod_ii s (by decide)
  have md40 : ∀ (s : Sto) (a : Int), opV s .mod (.int a) (.int 40) = .ok (.int (a % 40)) s := fun s a => mod_ii s (by decide)
  have md8 : ∀ (s : Sto) (a : Int), opV s .mod (.int a) (.int 8) = .ok (.int (a % 8)) s := fun s a => mod_ii s (by decide)
  have md9 : ∀ (s : Sto) (a : Int), opV s .mod (.int a) (.int 9) = .ok (.int (a % 9)) s := fun s a => mod_ii s (by decide)
  have p0 : exS C bar (.asgP [2, 3] [(.ix (.var 0) (.op .mod (.ix (.var 1) (.int 0)) (.bf .len false [(.var 0)]))), (.ix (.var 0) (.op .mod (.ix (.var 1) (.int 1)) (.bf .len false [(.var 0)])))]) [some v0, some v1, none, none, none, none, none] st =
      .ok (.nx [some v0, some v1, some (.str z1), some (.str z2), none, none, none]) st := by
    simp only [exS, evE, evEs, List.getElem?_cons_succ, List.getElem?_cons_zero, bind_ok, of_ok, i0, i1, hlen, md8]
    simp only [v0, n1, n2, bind_ok, of_ok]
    rfl
  have L5 : ∀ {a b c e f : D}, decide (([a, b, c, e, f] : List D).length ≤ LIM) = true := by intros; exact decide_eq_true (p := _ ≤ LIM) (show (5 : Nat) ≤ LIM by decide)
  have L6 : ∀ {a b c e f g : D}, decide (([a, b, c, e, f, g] : List D).length ≤ LIM) = true := by intros; exact decide_eq_true (p := _ ≤ LIM) (show (6 : Nat) ≤ LIM by decide)
  have L4 : ∀ {a b c e : D}, decide (([a, b, c, e] : List D).length ≤ LIM) = true := by intros; exact decide_eq_true (p := _ ≤ LIM) (show (4 : Nat) ≤ LIM by decide)
  have L3 : ∀ {a b c : D}, decide (([a, b, c] : List D).length ≤ LIM) = true := by intros; exact decide_eq_true (p := _ ≤ LIM) (show (3 : Nat) ≤ LIM by decide)
  have L2 : ∀ {a b : D}, decide (([a, b] : List D).length ≤ LIM) = true := by intros; exact decide_eq_true (p := _ ≤ LIM) (show (2 : Nat) ≤ LIM by decide)
  let l0 : Int := d2 % 40 - 10
  let l1 : Int := d2 - 500
  let l2 : Int := (d2 % 1009 - 500) * 10 ^ 7
  have b0 : 0 ≤ d2 % 40 := Int.emod_nonneg _ (by decide)
  have b0' : d2 % 40 < 40 := Int.emod_lt_of_pos _ (by decide)
  have b1 : 0 ≤ d2 % 1009 := Int.emod_nonneg _ (by decide)
  have b1' : d2 % 1009 < 1009 := Int.emod_lt_of_pos _ (by decide)
  have p1 : exS C bar (.asg 4 (.lst false [(.op .sub (.op .mod (.ix (.var 1) (.int 2)) (.int 40)) (.int 10)), (.op .sub (.ix (.var 1) (.int 2)) (.int 500)), (.op .mul (.op .sub (.op .mod (.ix (.var 1) (.int 2)) (.int 1009)) (.int 500)) (.op .pow (.int 10) (.int 7))), (.int 0)]))
      [some v0, some v1, some (.str z1), some (.str z2), none, none, none] st = .ok (.nx [some v0, some v1, some (.str z1), some (.str z2), some (.lst [.int l0, .int l1, .int l2, .int 0]), none, none]) st := by
    have m1 : opV st .pow (.int 10) (.int 7) = .ok (.int (10 ^ 7)) st := pow_ii st (by decide) (by decide) (by decide)
    have m2 : opV st .mul (.int (d2 % 1009 - 500)) (.int (10 ^ 7)) = .ok (.int l2) st := mul_ii st (by omega) (by decide)
    simp only [exS, evE, evEs, List.getElem?_cons_succ, List.getElem?_cons_zero, bind_ok, of_ok, i2, md40, md1009, sub_ii, m1, m2, L4, if_true, newL, Bool.false_eq_true, if_false, List.set_cons_succ, List.set_cons_zero]
    rfl
  let left : Int := [l0, l1, l2, 0].getD (d3 % 4).toNat 0
  have hleft : -5080000000 ≤ left ∧ left ≤ 5080000000 := by
    have q0 : 0 ≤ d3 % 4 := Int.emod_nonneg _ (by decide)
    have q1 : d3 % 4 < 4 := Int.emod_lt_of_pos _ (by decide)
    have : (d3 % 4).toNat = 0 ∨ (d3 % 4).toNat = 1 ∨ (d3 % 4).toNat = 2 ∨ (d3 % 4).toNat = 3 := by omega
    have hl2 : l2 = (d2 % 1009 - 500) * 10000000 := rfl
    rcases this with h | h | h | h <;> simp only [left, h, List.getD_cons_zero, List.getD_cons_succ] <;> omega
  have p2 : exS C bar (.asg 5 (.ix (.var 4) (.op .mod (.ix (.var 1) (.int 3)) (.int 4)))) [some v0, some v1, some (.str z1), some (.str z2), some (.lst [.int l0, .int l1, .int l2, .int 0]), none, none] st =
      .ok (.nx [some v0, some v1, some (.str z1), some (.str z2), some (.lst [.int l0, .int l1, .int l2, .int 0]), some (.int left), none]) st := by
    have q0 : 0 ≤ d3 % 4 := Int.emod_nonneg _ (by decide)
    have q1 : d3 % 4 < 4 := Int.emod_lt_of_pos _ (by decide)
    have hx : ixV st (.lst [.int l0, .int l1, .int l2, .int 0]) (.int (d3 % 4)) = .ok (.int left) st := by
      have := ix_lst (st := st) (xs := [.int l0, .int l1, .int l2, .int 0]) (j := (d3 % 4).toNat) (x := .int left) (by
        have : (d3 % 4).toNat = 0 ∨ (d3 % 4).toNat = 1 ∨ (d3 % 4).toNat = 2 ∨ (d3 % 4).toNat = 3 := by omega
        rcases this with h | h | h | h <;> simp [left, h])
      rw [Int.toNat_of_nonneg q0] at this
      exact this
    simp only [exS, evE, evEs, List.getElem?_cons_succ, List.getElem?_cons_zero, bind_ok, of_ok, i3, md4, hx, List.set_cons_succ, List.set_cons_zero]
  let ev (x : Option D) : Env := [some v0, some v1, some (.str z1), some (.str z2), some (.lst [.int l0, .int l1, .int l2, .int 0]), some (.int left), x]
  let t1 : List D := [.str "trestle", .str z1, .int (d4 % 12 - 1), .int left, .int (left + d5 % 9)]
  let t2 : List D := [.str "away", .str z1]
  let t3 : List D := [.str "along", .str z1, .int left]
  let t4 : List D := [.str "board", .str z1, .int (1 + d4 % 9), .int left, .int (left + 1 + d5), .int (1 + d6)]
  let t5 : List D := [.str "cut", .str z1]
  let t6 : List D := [.str "lift", .str z1]
  let t7 : List D := [.str "sack", .str z1, .str z2, .int left, .int (1 + d5)]
  let t8 : List D := [.str "move", .str z1, .str z2, .int left]
  let t9 : List D := [.str "cord", .str z1, .str "", .str z2, .int left]
  let A : List D := [.tup t1, .tup t2, .tup t3]
  let B : List D := [.tup t4, .tup t5, .tup t6]
  let B2 : List D := [.tup t7, .tup t8]
  let s1 : Sto := st ++ [.lst A]
  let s2 : Sto := s1 ++ [.lst (A ++ B)]
  have p3 : exS C bar (.asg 6 (.lst true [(.tup [(.str "trestle"), (.var 2), (.op .sub (.op .mod (.ix (.var 1) (.int 4)) (.int 12)) (.int 1)), (.var 5), (.op .add (.var 5) (.op .mod (.ix (.var 1) (.int 5)) (.int 9)))]), (.tup [(.str "away"), (.var 2)]), (.tup [(.str "along"), (.var 2), (.var 5)])])) (ev none) st =
      .ok (.nx (ev (some (.ref st.length)))) s1 := by
    simp only [exS, evE, evEs, ev, List.getElem?_cons_succ, List.getElem?_cons_zero, bind_ok, of_ok, i4, i5, md12, md9, sub_ii, add_ii, L5, L2, L3, if_true, newL, List.set_cons_succ, List.set_cons_zero]
    rfl
  have p4 : exS C bar (.asg 6 (.catc (.var 6) (.lst false [(.tup [(.str "board"), (.var 2), (.op .add (.int 1) (.op .mod (.ix (.var 1) (.int 4)) (.int 9))), (.var 5), (.op .add (.op .add (.var 5) (.int 1)) (.ix (.var 1) (.int 5))), (.op .add (.int 1) (.ix (.var 1) (.int 6)))]), (.tup [(.str "cut"), (.var 2)]), (.tup [(.str "lift"), (.var 2)])]))) (ev (some (.ref st.length))) s1 =
      .ok (.nx (ev (some (.ref s1.length)))) s2 := by
    have hA : asL s1 (.ref st.length) = some A := by simp only [asL, s1, get_end]
    have hB : ∀ xs, asL s1 (.lst xs) = some xs := fun _ => rfl
    have hd : decide (A.length + B.length ≤ LIM) = true := decide_eq_true (p := _ ≤ LIM) (show (6 : Nat) ≤ LIM by decide)
    simp only [exS, evE, evEs, ev, List.getElem?_cons_succ, List.getElem?_cons_zero, bind_ok, of_ok, i4, i5, i6, md9, add_ii, L6, L2, L3, if_true, newL, Bool.false_eq_true, if_false, hA, hB, List.set_cons_succ, List.set_cons_zero]
    show SR.of _ (if decide (A.length + B.length ≤ LIM) = true then _ else _) _ = _
    rw [if_pos hd]
    rfl
  let L8 : List D := A ++ B ++ B2
  let s3 : Sto := s2 ++ [.lst L8]
  have p5 : exS C bar (.asg 6 (.catc (.var 6) (.lst false [(.tup [(.str "sack"), (.var 2), (.var 3), (.var 5), (.op .add (.int 1) (.ix (.var 1) (.int 5)))]), (.tup [(.str "move"), (.var 2), (.var 3), (.var 5)])]))) (ev (some (.ref s1.length))) s2 =
      .ok (.nx (ev (some (.ref s2.length)))) s3 := by
    have hA : asL s2 (.ref s1.length) = some (A ++ B) := by simp only [asL, s2, get_end]
    have hB : ∀ xs, asL s2 (.lst xs) = some xs := fun _ => rfl
    have hd : decide ((A ++ B).length + B2.length ≤ LIM) = true := decide_eq_true (p := _ ≤ LIM) (show (8 : Nat) ≤ LIM by decide)
    simp only [exS, evE, evEs, ev, List.getElem?_cons_succ, List.getElem?_cons_zero, bind_ok, of_ok, i5, add_ii, L5, L4, L2, if_true, newL, Bool.false_eq_true, if_false, hA, hB, List.set_cons_succ, List.set_cons_zero]
    show SR.of _ (if decide ((A ++ B).length + B2.length ≤ LIM) = true then _ else _) _ = _
    rw [if_pos hd]
    rfl
  have hbar : bar.can s2.length = true := by simp [bar, Bar.can, s2, s1]
  have hk3 : ∀ xs, kd (s2 ++ [.lst xs]) (.ref s2.length) = .list := fun xs => by simp only [kd, get_end]
  have p6 : exS C bar (.expr (.bm .append (.var 6) [(.tup [(.str "cord"), (.var 2), (.str ""), (.var 3), (.var 5)])])) (ev (some (.ref s2.length))) s3 = .ok (.nx (ev (some (.ref s2.length)))) (s2 ++ [.lst (L8 ++ [.tup t9])]) := by
    have ha := app_endD (bar := bar) (st := s2) (xs := L8) (x := .tup t9) rfl hbar (by show (8 : Nat) < 16777216; decide)
    simp only [exS, evE, evEs, ev, List.getElem?_cons_succ, List.getElem?_cons_zero, bind_ok, of_ok, s3, hk3, bmOk, if_true, L5]
    rw [ha]; rfl
  obtain ⟨z3, hz3, n3⟩ := nm_at (s2 ++ [.lst (L8 ++ [.tup t9])]) ns hn hz (i := d6)
  let t10 : List D := [.str "cord", .str z1, .str z2, .str z3, .int left]
  have p7 : exS C bar (.expr (.bm .append (.var 6) [(.tup [(.str "cord"), (.var 2), (.var 3), (.ix (.var 0) (.op .mod (.ix (.var 1) (.int 6)) (.bf .len false [(.var 0)]))), (.var 5)])])) (ev (some (.ref s2.length))) (s2 ++ [.lst (L8 ++ [.tup t9])]) =
      .ok (.nx (ev (some (.ref s2.length)))) (s2 ++ [.lst (L8 ++ [.tup t9] ++ [.tup t10])]) := by
    have ha := app_endD (bar := bar) (st := s2) (xs := L8 ++ [.tup t9]) (x := .tup t10) rfl hbar (by show (9 : Nat) < 16777216; decide)
    simp only [exS, evE, evEs, ev, List.getElem?_cons_succ, List.getElem?_cons_zero, bind_ok, of_ok, hk3, bmOk, if_true, i6, hlen, md8, v0, n3, L5]
    rw [ha]; rfl
  let t11 : List D := [.str "sack", .str z1, .str z2, .int left, .int (d5 % 1009 * 10 ^ 6)]
  let L11 : List D := L8 ++ [.tup t9] ++ [.tup t10] ++ [.tup t11]
  have b5 : 0 ≤ d5 % 1009 := Int.emod_nonneg _ (by decide)
  have b5' : d5 % 1009 < 1009 := Int.emod_lt_of_pos _ (by decide)
  have p8 : exS C bar (.expr (.bm .append (.var 6) [(.tup [(.str "sack"), (.var 2), (.var 3), (.var 5), (.op .mul (.op .mod (.ix (.var 1) (.int 5)) (.int 1009)) (.op .pow (.int 10) (.int 6)))])])) (ev (some (.ref s2.length))) (s2 ++ [.lst (L8 ++ [.tup t9] ++ [.tup t10])]) =
      .ok (.nx (ev (some (.ref s2.length)))) (s2 ++ [.lst L11]) := by
    have m1 : ∀ s, opV s .pow (.int 10) (.int 6) = .ok (.int (10 ^ 6)) s := fun s => pow_ii s (by decide) (by decide) (by decide)
    have m2 : ∀ s, opV s .mul (.int (d5 % 1009)) (.int (10 ^ 6)) = .ok (.int (d5 % 1009 * 10 ^ 6)) s := fun s => mul_ii s (by omega) (by decide)
    have ha := app_endD (bar := bar) (st := s2) (xs := L8 ++ [.tup t9] ++ [.tup t10]) (x := .tup t11) rfl hbar (by show (10 : Nat) < 16777216; decide)
    simp only [exS, evE, evEs, ev, List.getElem?_cons_succ, List.getElem?_cons_zero, bind_ok, of_ok, hk3, bmOk, if_true, i5, md1009, m1, m2, L5]
    rw [ha]; rfl
  -- all eleven are let
  have mk : ∀ (kind ks : Str) (args : List D), kind.length ≤ 8 → getK countsL (Sum.inr kind) = some (.int ((args.length : Int) + 1)) → getK kindsL (Sum.inr kind) = some (.str ks) → args.length ≤ 9 → kindsOk ks.cps.toList args → DeedG (.str kind :: args) :=
    fun kind ks args h0 h1 h2 h3 h4 => ⟨kind, ks, args, rfl, h0, .of h1 h2 h3 h4⟩
  have kn : ∀ {z : Str}, NameOk z → KindOk 110 (.str z) := fun h => Or.inl ⟨rfl, h⟩
  have ku : ∀ {z : Str}, NameOk z → KindOk 117 (.str z) := fun h => Or.inr ⟨rfl, Or.inr h⟩
  have kdd : ∀ {i : Int}, -9999999999 ≤ i → i ≤ 9999999999 → KindOk 100 (.int i) := fun h1 h2 => ⟨rfl, h1, h2⟩
  have kl : KindOk 100 (.int left) := kdd (by omega) (by omega)
  have m12 : 0 ≤ d4 % 12 := Int.emod_nonneg _ (by decide)
  have m12' : d4 % 12 < 12 := Int.emod_lt_of_pos _ (by decide)
  have m9 : 0 ≤ d5 % 9 := Int.emod_nonneg _ (by decide)
  have m9' : d5 % 9 < 9 := Int.emod_lt_of_pos _ (by decide)
  have m49 : 0 ≤ d4 % 9 := Int.emod_nonneg _ (by decide)
  have m49' : d4 % 9 < 9 := Int.emod_lt_of_pos _ (by decide)
  have g1 : DeedG t1 := mk "trestle" "nddd" _ (by decide) rfl rfl (show (4 : Nat) ≤ 9 by decide) ⟨kn hz1, kdd (by omega) (by omega), kl, kdd (by omega) (by omega), trivial⟩
  have g2 : DeedG t2 := mk "away" "n" _ (by decide) rfl rfl (show (1 : Nat) ≤ 9 by decide) ⟨kn hz1, trivial⟩
  have g3 : DeedG t3 := mk "along" "nd" _ (by decide) rfl rfl (show (2 : Nat) ≤ 9 by decide) ⟨kn hz1, kl, trivial⟩
  have g4 : DeedG t4 := mk "board" "ndddd" _ (by decide) rfl rfl (show (5 : Nat) ≤ 9 by decide) ⟨kn hz1, kdd (by omega) (by omega), kl, kdd (by omega) (by omega), kdd (by omega) (by omega), trivial⟩
  have g5 : DeedG t5 := mk "cut" "n" _ (by decide) rfl rfl (show (1 : Nat) ≤ 9 by decide) ⟨kn hz1, trivial⟩
  have g6 : DeedG t6 := mk "lift" "n" _ (by decide) rfl rfl (show (1 : Nat) ≤ 9 by decide) ⟨kn hz1, trivial⟩
  have g7 : DeedG t7 := mk "sack" "nndd" _ (by decide) rfl rfl (show (4 : Nat) ≤ 9 by decide) ⟨kn hz1, kn hz2, kl, kdd (by omega) (by omega), trivial⟩
  have g8 : DeedG t8 := mk "move" "nnd" _ (by decide) rfl rfl (show (3 : Nat) ≤ 9 by decide) ⟨kn hz1, kn hz2, kl, trivial⟩
  have g9 : DeedG t9 := mk "cord" "nund" _ (by decide) rfl rfl (show (4 : Nat) ≤ 9 by decide) ⟨kn hz1, Or.inr ⟨rfl, Or.inl rfl⟩, kn hz2, kl, trivial⟩
  have g10 : DeedG t10 := mk "cord" "nund" _ (by decide) rfl rfl (show (4 : Nat) ≤ 9 by decide) ⟨kn hz1, ku hz2, kn hz3, kl, trivial⟩
  have g11 : DeedG t11 := mk "sack" "nndd" _ (by decide) rfl rfl (show (4 : Nat) ≤ 9 by decide) ⟨kn hz1, kn hz2, kl, kdd (by omega) (by omega), trivial⟩
  have hall : ∀ x ∈ L11, ∃ deed, x = .tup deed ∧ DeedG deed := fun x hx => by
    have hx : x ∈ [D.tup t1, .tup t2, .tup t3, .tup t4, .tup t5, .tup t6, .tup t7, .tup t8, .tup t9, .tup t10, .tup t11] := hx
    simp only [List.mem_cons, List.not_mem_nil, or_false] at hx
    rcases hx with rfl | rfl | rfl | rfl | rfl | rfl | rfl | rfl | rfl | rfl | rfl
    · exact ⟨_, rfl, g1⟩
    · exact ⟨_, rfl, g2⟩
    · exact ⟨_, rfl, g3⟩
    · exact ⟨_, rfl, g4⟩
    · exact ⟨_, rfl, g5⟩
    · exact ⟨_, rfl, g6⟩
    · exact ⟨_, rfl, g7⟩
    · exact ⟨_, rfl, g8⟩
    · exact ⟨_, rfl, g9⟩
    · exact ⟨_, rfl, g10⟩
    · exact ⟨_, rfl, g11⟩
  have q0 : 0 ≤ d7 % 11 := Int.emod_nonneg _ (by decide)
  have q1 : d7 % 11 < 11 := Int.emod_lt_of_pos _ (by decide)
  have hL : L11.length = 11 := rfl
  have hi : (d7 % 11).toNat < L11.length := by omega
  obtain ⟨deed, hd1, hd2⟩ := hall L11[(d7 % 11).toNat] (List.getElem_mem hi)
  have p9 : exS C bar (.ret (.ix (.var 6) (.op .mod (.ix (.var 1) (.int 7)) (.int 11)))) (ev (some (.ref s2.length))) (s2 ++ [.lst L11]) = .ok (.rt (.tup deed)) (s2 ++ [.lst L11]) := by
    have hx := ix_ref (st := s2 ++ [.lst L11]) (i := s2.length) (xs := L11) (j := (d7 % 11).toNat) (x := .tup deed) (get_end _ _) (by rw [List.getElem?_eq_getElem hi, hd1])
    rw [Int.toNat_of_nonneg q0] at hx
    simp only [exS, evE, evEs, ev, List.getElem?_cons_succ, List.getElem?_cons_zero, bind_ok, of_ok, i7, md11, hx]
  refine ⟨deed, ?_, hd2⟩
  show shut st (fin (exSs C bar f103.body [some v0, some v1, none, none, none, none, none] st)) = _
  unfold f103
  rw [exSs, p0, seq_nx, exSs, p1, seq_nx, exSs, p2, seq_nx, exSs, show ([some v0, some v1, some (.str z1), some (.str z2), some (.lst [.int l0, .int l1, .int l2, .int 0]), some (.int left), none] : Env) = ev none from rfl, p3, seq_nx, exSs, p4, seq_nx, exSs, p5, seq_nx, exSs, p6, seq_nx, exSs, p7, seq_nx, exSs, p8, seq_nx, exSs, p9, seq_rt, fin_rt]
  have hf : mapO (frz st.length 59 (s2 ++ [.lst L11])) deed = some deed := mapO_id fun x hx => frz_thing (hd2.things x hx)
  simp only [shut, frz, hf, Option.map_some]

/-! _law_free_rows -/
structure FreeOk (r : Row) : Prop where
  day1 : 1 ≤ r.day
  day2 : r.day ≤ 9999
  deed : DeedG r.deed
theorem len11 {xs : List Int} (h : xs.length = 11) : ∃ a b c d e f g i j k l, xs = [a, b, c, d, e, f, g, i, j, k, l] := by
  match xs, h with
  | [a, b, c, d, e, f, g, i, j, k, l], _ => exact ⟨a, b, c, d, e, f, g, i, j, k, l, rfl⟩
theorem free_rows (d : Nat) (st : Sto) (fs : List Int) (hfs : FeedOk fs) (ns : List Str) (hn : ns.length = 8) (hz : ∀ z ∈ ns, NameOk z) (many : Nat) (hm : 11 * many + 11 ≤ fs.length) (hm2 : many ≤ 1000) :
    ∃ (rows : List Row) (x : Int), shut st (call txt (d + 2) 104 (shutBar st) [.lst (fs.map .int), .lst (ns.map .str), .int many] st) = .ok (.tup [.lst (rows.map rowD), .int x]) st ∧ (∀ r ∈ rows, FreeOk r) ∧ rows.length = many := by
  rw [call_eq (F := f104) rfl rfl]
  let C := ctx txt (d + 1)
  let bar := shutBar st
  let v0 : D := .lst (fs.map .int)
  let v1 : D := .lst (ns.map .str)
  let v2 : D := .int many
  have p1 : exS C bar (.asg 3 (.lst true [])) [some v0, some v1, some v2, none, none, none, none] st = .ok (.nx [some v0, some v1, some v2, some (.ref st.length), none, none, none]) (st ++ [.lst (([] : List Row).map rowD)]) := by
    have h0 : decide (([] : List D).length ≤ LIM) = true := by decide
    simp only [exS, evE, evEs, bind_ok, of_ok, h0, if_true, newL, List.map_nil, List.set_cons_succ, List.set_cons_zero]
  have p2 : ∀ s, exS C bar (.asg 4 (.int 0)) [some v0, some v1, some v2, some (.ref st.length), none, none, none] s = .ok (.nx [some v0, some v1, some v2, some (.ref st.length), some (.int 0), none, none]) s := fun s => rfl
  have hit : ∀ s, itemsV s .range1 [.int (many : Int)] = some ((List.range many).map fun (i : Nat) => .int (i : Int)) := fun s => by
    have h1 : (many : Int) < 1000000 := by omega
    have h2 : -1000000 < (many : Int) := by omega
    simp only [itemsV, h1, h2, decide_true, Bool.and_self, if_true, Int.toNat_natCast]
  obtain ⟨env2, st2, f1, rows2, num2, e5, e6, rfl, rfl, hr2, hl2, hnum2⟩ := for_inv (tg := [5]) (one := true) (body := fun e s => exSs C (walkLo bar [.int (many : Int)]) [.asg 6 (.sl (.var 0) [(.op .mul (.int 11) (.var 5))] [(.op .add (.op .mul (.int 11) (.var 5)) (.int 11))]),
      .asg 4 (.op .add (.op .add (.var 4) (.int 1)) (.op .mod (.ix (.var 6) (.int 8)) (.ix (.lst false [(.int 1), (.int 4)]) (.op .mod (.ix (.var 6) (.int 9)) (.int 2))))),
      .expr (.bm .append (.var 3) [(.tup [(.var 4), (.op .add (.int 1) (.op .mod (.ix (.var 6) (.int 9)) (.ix (.lst false [(.int 12), (.int 9999)]) (.op .mod (.ix (.var 6) (.int 10)) (.int 2))))), (.call 103 false [(.var 1), (.var 6)])])])] e s)
    (fun k e s => ∃ (rows : List Row) (num : Int) (e5 e6 : Option D), e = [some v0, some v1, some v2, some (.ref st.length), some (.int num), e5, e6] ∧ s = st ++ [.lst (rows.map rowD)] ∧ (∀ r ∈ rows, FreeOk r) ∧ rows.length = k ∧ 0 ≤ num ∧ num ≤ 5 * k) ((List.range many).map fun (i : Nat) => .int (i : Int)) 0
    [some v0, some v1, some v2, some (.ref st.length), some (.int 0), none, none] (st ++ [.lst (([] : List Row).map rowD)]) ⟨[], 0, none, none, rfl, rfl, (fun _ h => nomatch h), rfl, by decide, by decide⟩ (fun k dd e s hk hI => by
      obtain ⟨rows, num, e5, e6, rfl, rfl, hr, hl, hnum⟩ := hI
      have hkl := (List.getElem?_eq_some_iff.mp hk).1
      rw [List.length_map, List.length_range] at hkl
      rw [List.getElem?_map, List.getElem?_range hkl] at hk
      cases hk
      let s0 := st ++ [.lst (rows.map rowD)]
      obtain ⟨d0, d1, d2, d3, d4, d5, d6, d7, d8, d9, d10, hd⟩ := len11 (xs := (fs.drop (11 * k)).take 11) (by rw [List.length_take, List.length_drop]; omega)
      have hin : ∀ x ∈ [d0, d1, d2, d3, d4, d5, d6, d7, d8, d9, d10], 0 ≤ x ∧ x < 1000003 := fun x hx => by
        rw [← hd] at hx
        exact hfs x (List.mem_of_mem_drop (List.mem_of_mem_take hx))
      simp only [List.forall_mem_cons] at hin
      obtain ⟨g0, g1, g2, g3, g4, g5, g6, g7, g8, g9, g10, _⟩ := hin
      let v6 : D := .lst [.int d0, .int d1, .int d2, .int d3, .int d4, .int d5, .int d6, .int d7, .int d8, .int d9, .int d10]
      have m1 : opV s0 .mul (.int 11) (.int (k : Int)) = .ok (.int (11 * (k : Int))) s0 := mul_ii s0 (by decide) (by omega)
      have hsl : slV s0 v0 (some (11 * (k : Int))) (some (11 * (k : Int) + 11)) = .ok v6 s0 := by
        have := cut_mid (fs.map D.int) (11 * k) (11 * k + 11) (by omega) (by rw [List.length_map]; omega)
        simp only [Int.natCast_add, Int.natCast_mul, Int.cast_ofNat_Int] at this
        show Res.ok (D.lst (cut (fs.map D.int) _ _)) s0 = _
        rw [this, ← List.map_drop, ← List.map_take, show 11 * k + 11 - 11 * k = 11 by omega, hd]
        rfl
      have q1 : exS C (walkLo bar [.int (many : Int)]) (.asg 6 (.sl (.var 0) [(.op .mul (.int 11) (.var 5))] [(.op .add (.op .mul (.int 11) (.var 5)) (.int 11))])) [some v0, some v1, some v2, some (.ref st.length), some (.int num), some (.int (k : Int)), e6] s0 =
          .ok (.nx [some v0, some v1, some v2, some (.ref st.length), some (.int num), some (.int (k : Int)), some v6]) s0 := by
        simp only [exS, evE, evBd, asI, List.getElem?_cons_succ, List.getElem?_cons_zero, bind_ok, of_ok, m1, add_ii, hsl, List.set_cons_succ, List.set_cons_zero]
      have i8 : ∀ s, ixV s v6 (.int 8) = .ok (.int d8) s := fun s => ix_lst (j := 8) rfl
      have i9 : ∀ s, ixV s v6 (.int 9) = .ok (.int d9) s := fun s => ix_lst (j := 9) rfl
      have i10 : ∀ s, ixV s v6 (.int 10) = .ok (.int d10) s := fun s => ix_lst (j := 10) rfl
      have two : ∀ (s : Sto) (a b i : Int), ∃ c, (c = a ∨ c = b) ∧ ixV s (.lst [.int a, .int b]) (.int (i % 2)) = .ok (.int c) s := fun s a b i => by
        have q0 : 0 ≤ i % 2 := Int.emod_nonneg _ (by decide)
        have q1 : i % 2 < 2 := Int.emod_lt_of_pos _ (by decide)
        have : i % 2 = 0 ∨ i % 2 = 1 := by omega
        rcases this with h | h
        · exact ⟨a, Or.inl rfl, by rw [h]; exact ix_lst (j := 0) rfl⟩
        · exact ⟨b, Or.inr rfl, by rw [h]; exact ix_lst (j := 1) rfl⟩
      obtain ⟨c1, hc1, t1⟩ := two s0 1 4 d9
      obtain ⟨c2, hc2, t2⟩ := two s0 12 9999 d10
      have md : ∀ s (a b : Int), 0 < b → opV s .mod (.int a) (.int b) = .ok (.int (a % b)) s := fun s a b h => mod_ii s h
      have md2 : ∀ (s : Sto) (a : Int), opV s .mod (.int a) (.int 2) = .ok (.int (a % 2)) s := fun s a => mod_ii s (by decide)
      have L2 : ∀ {a b : D}, decide (([a, b] : List D).length ≤ LIM) = true := by intros; exact decide_eq_true (p := _ ≤ LIM) (show (2 : Nat) ≤ LIM by decide)
      have L3 : ∀ {a b c : D}, decide (([a, b, c] : List D).length ≤ LIM) = true := by intros; exact decide_eq_true (p := _ ≤ LIM) (show (3 : Nat) ≤ LIM by decide)
      let num' := num + 1 + d8 % c1
      have q2 : exS C (walkLo bar [.int (many : Int)]) (.asg 4 (.op .add (.op .add (.var 4) (.int 1)) (.op .mod (.ix (.var 6) (.int 8)) (.ix (.lst false [(.int 1), (.int 4)]) (.op .mod (.ix (.var 6) (.int 9)) (.int 2)))))) [some v0, some v1, some v2, some (.ref st.length), some (.int num), some (.int (k : Int)), some v6] s0 =
          .ok (.nx [some v0, some v1, some v2, some (.ref st.length), some (.int num'), some (.int (k : Int)), some v6]) s0 := by
        simp only [exS, evE, evEs, List.getElem?_cons_succ, List.getElem?_cons_zero, bind_ok, of_ok, add_ii, i8, i9, L2, if_true, newL, Bool.false_eq_true, if_false, md2, t1, md _ _ c1 (by omega), List.set_cons_succ, List.set_cons_zero]
        rfl
      obtain ⟨deed, hdd, hdg⟩ := free_row d s0 ns hn hz d0 d1 d2 d3 d4 d5 d6 d7 [.int d8, .int d9, .int d10] g2 g4 g5 g6
      let r : Row := ⟨num', 1 + d9 % c2, deed⟩
      have hb1 : 0 ≤ d8 % c1 := Int.emod_nonneg _ (by omega)
      have hb2 : d8 % c1 < c1 := Int.emod_lt_of_pos _ (by omega)
      have hb3 : 0 ≤ d9 % c2 := Int.emod_nonneg _ (by omega)
      have hb4 : d9 % c2 < c2 := Int.emod_lt_of_pos _ (by omega)
      have hkd : kd s0 (.ref st.length) = .list := by simp only [kd, s0, get_end]
      have ha := app_end rowD (bar := walkLo bar [.int (many : Int)]) (st := st) (xs := rows) (x := r) rfl (can_walk rfl) (by omega)
      have q3 : exS C (walkLo bar [.int (many : Int)]) (.expr (.bm .append (.var 3) [(.tup [(.var 4), (.op .add (.int 1) (.op .mod (.ix (.var 6) (.int 9)) (.ix (.lst false [(.int 12), (.int 9999)]) (.op .mod (.ix (.var 6) (.int 10)) (.int 2))))), (.call 103 false [(.var 1), (.var 6)])])])) [some v0, some v1, some v2, some (.ref st.length), some (.int num'), some (.int (k : Int)), some v6] s0 =
          .ok (.nx [some v0, some v1, some v2, some (.ref st.length), some (.int num'), some (.int (k : Int)), some v6]) (st ++ [.lst ((rows ++ [r]).map rowD)]) := by
        have hcall : C.call 103 (shutBar s0) [v1, v6] s0 = call txt (d + 1) 103 (shutBar s0) [.lst (ns.map .str), .lst (.int d0 :: .int d1 :: .int d2 :: .int d3 :: .int d4 :: .int d5 :: .int d6 :: .int d7 :: [.int d8, .int d9, .int d10])] s0 := rfl
        simp only [exS, evE, evEs, List.getElem?_cons_succ, List.getElem?_cons_zero, bind_ok, of_ok, add_ii, i9, i10, L2, if_true, newL, Bool.false_eq_true, if_false, md2, t2, md _ _ c2 (by omega), hkd, bmOk, hcall, hdd, L3]
        rw [show (D.tup [.int num', .int (1 + d9 % c2), .tup deed]) = rowD r from rfl, ha]
        rfl
      refine ⟨_, [some v0, some v1, some v2, some (.ref st.length), some (.int num'), some (.int (k : Int)), some v6], st ++ [.lst ((rows ++ [r]).map rowD)], rfl, ?_, rows ++ [r], num', some (.int (k : Int)), some v6, rfl, rfl, fun y hy => ?_, by simp; omega, by omega, by omega⟩
      · show exSs C _ _ [some v0, some v1, some v2, some (.ref st.length), some (.int num), some (.int (k : Int)), e6] s0 = _
        rw [exSs, q1, seq_nx, exSs, q2, seq_nx, exSs, q3, seq_nx, exSs]
      · rcases List.mem_append.mp hy with hy | hy
        · exact hr y hy
        · cases List.mem_singleton.mp hy
          exact ⟨by show 1 ≤ 1 + d9 % c2; omega, by show 1 + d9 % c2 ≤ 9999; omega, hdg⟩)
  have p3 := ex_for (C := C) (bar := bar) (src := [(.var 2)]) (evs_cons (ev_var (i := 2) rfl) evs_nil) (hit _) f1
  have h00 : ∃ a, ∀ s, ixV s v0 (.int 0) = .ok (.int a) s := by
    cases fs with
    | nil => simp at hm
    | cons a fs => exact ⟨a, fun s => ix_lst (j := 0) rfl⟩
  obtain ⟨a, ha⟩ := h00
  let s2 : Sto := st ++ [.lst (rows2.map rowD)]
  have p4 : exS C bar (.ret (.tup [(.var 3), (.op .add (.op .add (.var 4) (.int 1)) (.op .mod (.ix (.var 0) (.int 0)) (.int 3)))])) [some v0, some v1, some v2, some (.ref st.length), some (.int num2), e5, e6] s2 = .ok (.rt (.tup [.ref st.length, .int (num2 + 1 + a % 3)])) s2 := by
    have md : opV s2 .mod (.int a) (.int 3) = .ok (.int (a % 3)) s2 := mod_ii s2 (by decide)
    have L2 : ∀ {a b : D}, decide (([a, b] : List D).length ≤ LIM) = true := by intros; exact decide_eq_true (p := _ ≤ LIM) (show (2 : Nat) ≤ LIM by decide)
    simp only [exS, evE, evEs, List.getElem?_cons_succ, List.getElem?_cons_zero, bind_ok, of_ok, add_ii, ha, md, L2, if_true]
  refine ⟨rows2, num2 + 1 + a % 3, ?_, hr2, by simpa using hl2⟩
  show shut st (fin (exSs C bar f104.body [some v0, some v1, some v2, none, none, none, none] st)) = _
  unfold f104
  rw [exSs, p1, seq_nx, exSs, p2, seq_nx, exSs, p3, seq_nx, exSs, p4, seq_rt, fin_rt]
  have hrow : ∀ r ∈ rows2, frz st.length 58 s2 (rowD r) = some (rowD r) := fun r hr => by
    have hd : mapO (frz st.length 56 s2) r.deed = some r.deed := mapO_id fun x hx => frz_thing ((hr2 r hr).deed.things x hx)
    simp [rowD, frz, mapO, hd]
  have hf : mapO (frz st.length 58 s2) (rows2.map rowD) = some (rows2.map rowD) := mapO_id fun x hx => by
    obtain ⟨r, hr, rfl⟩ := List.mem_map.mp hx
    exact hrow r hr
  have hg : s2[st.length]? = some (.lst (rows2.map rowD)) := get_end _ _
  simp only [shut, frz, mapO, Nat.lt_irrefl, if_false, hg, hf, Option.map_some, s2]

/-! the diary's deeds -/
def stateD (rows : List Row) (coming : Int) : D := .tup [.tup (rows.map rowD), .int coming]
abbrev bz : Bar := ⟨0, []⟩
theorem canz (i : Nat) : bz.can i = true := by simp [Bar.can]
/-- a diary's cells -/
structure Dia (st : Sto) (i e u : Nat) (rows : List Row) (coming : Int) (eld und : List D) : Prop where
  self : st[i]? = some (.ins 18 [(5, stateD rows coming), (6, .ref e), (7, .ref u)])
  eld : st[e]? = some (.lst eld)
  und : st[u]? = some (.lst und)
  ie : i ≠ e
  iu : i ≠ u
  eu : e ≠ u
theorem Dia.diaR {st : Sto} {i e u : Nat} {rows : List Row} {coming : Int} {eld und : List D} (h : Dia st i e u rows coming eld und) : DiaR st i rows coming := ⟨e, u, h.self⟩
theorem lt_of_get {st : Sto} {i : Nat} {c : Cell} (h : st[i]? = some c) : i < st.length := (List.getElem?_eq_some_iff.mp h).1
theorem set_at {st : Sto} {i : Nat} {c c' : Cell} (h : st[i]? = some c) : (st.set i c')[i]? = some c' := by
  rw [List.getElem?_set_self (lt_of_get h)]
theorem app_at {st m : Sto} {i : Nat} {c : Cell} (h : st[i]? = some c) : (st ++ m)[i]? = some c := by
  rw [List.getElem?_append_left (lt_of_get h)]; exact h
theorem m_init (d : Nat) (st : Sto) : ∃ st' : Sto, call txt (d + 1) 38 bz [.ref st.length] (st ++ [.ins 18 []]) = .ok .non st' ∧ Dia st' st.length (st.length + 1) (st.length + 2) [] 1 [] [] ∧ (∀ (j : Nat) (c : Cell), st[j]? = some c → st'[j]? = some c) ∧ st'.length = st.length + 3 := by
  rw [call_eq (F := f38) rfl rfl]
  let n := st.length
  let env : Env := [some (.ref n)]
  let s1 : Sto := st ++ [.ins 18 [(5, stateD [] 1)]]
  let s2 : Sto := st ++ [.ins 18 [(5, stateD [] 1), (6, .ref (n + 1))], .lst []]
  let s3 : Sto := st ++ [.ins 18 [(5, stateD [] 1), (6, .ref (n + 1)), (7, .ref (n + 2))], .lst [], .lst []]
  have L2 : ∀ {a b : D}, decide (([a, b] : List D).length ≤ LIM) = true := by intros; exact decide_eq_true (p := _ ≤ LIM) (show (2 : Nat) ≤ LIM by decide)
  have L0 : decide (([] : List D).length ≤ LIM) = true := by decide
  have p1 : exS (ctx txt d) bz (.asgA (.var 0) 5 (.tup [(.tup []), (.int 1)])) env (st ++ [.ins 18 []]) = .ok (.nx env) s1 := by
    have h2 : (2 : Nat) ≤ LIM := by decide
    simp [exS, evE, evEs, env, n, bind_ok, of_ok, setFld, h2, L0, Bar.can, putFd, s1, stateD]
  have p2 : exS (ctx txt d) bz (.asgA (.var 0) 6 (.lst true [])) env s1 = .ok (.nx env) s2 := by
    simp [exS, evE, evEs, env, n, bind_ok, of_ok, setFld, L0, Bar.can, putFd, s1, s2, newL]
  have p3 : exS (ctx txt d) bz (.asgA (.var 0) 7 (.lst true [])) env s2 = .ok (.nx env) s3 := by
    simp [exS, evE, evEs, env, n, bind_ok, of_ok, setFld, L0, Bar.can, putFd, s2, s3, newL]
  refine ⟨s3, ?_, ⟨by simp [s3, n], by simp [s3, n], by simp [s3, n], by omega, by omega, by omega⟩, fun j c h => app_at h, by simp [s3]⟩
  show fin (exSs (ctx txt d) bz f38.body env (st ++ [.ins 18 []])) = _
  unfold f38
  rw [exSs, p1, seq_nx, exSs, p2, seq_nx, exSs, p3, seq_nx, exSs, fin_nx]
theorem ev_attr {C : Ctx} {bar : Bar} {env : Env} {st : Sto} {i c f : Nat} {fs : List (Nat × D)} {d : D} (h0 : env[0]? = some (some (.ref i))) (h : st[i]? = some (.ins c fs)) (hf : getF fs f = some d) : evE C bar (.attr (.var 0) f) env st = .ok d st := by
  simp only [evE, h0, bind_ok, attrV, h, hf, opt_some]
theorem m_become (d : Nat) (st : Sto) {i e u : Nat} {rows rows' : List Row} {coming coming' : Int} {eld und : List D} (h : Dia st i e u rows coming eld und) (hl : eld.length < 16777216) :
    ∃ st' : Sto, call txt (d + 1) 39 bz [.ref i, .lst (rows'.map rowD), .int coming'] st = .ok .non st' ∧ Dia st' i e st.length rows' coming' (eld ++ [stateD rows coming]) [] ∧ (∀ (j : Nat) (c : Cell), st[j]? = some c → j ≠ i → j ≠ e → st'[j]? = some c) ∧ st'.length = st.length + 1 := by
  rw [call_eq (F := f39) rfl rfl]
  obtain ⟨hs, he, hu, hie, hiu, heu⟩ := h
  let n := st.length
  let env : Env := [some (.ref i), some (.lst (rows'.map rowD)), some (.int coming')]
  let C := ctx txt d
  let s1 : Sto := st.set e (.lst (eld ++ [stateD rows coming]))
  have hs1 : s1[i]? = some (.ins 18 [(5, stateD rows coming), (6, .ref e), (7, .ref u)]) := by rw [List.getElem?_set_ne (Ne.symm hie)]; exact hs
  have p1 : exS C bz (.expr (.bm .append (.attr (.var 0) 6) [(.attr (.var 0) 5)])) env st = .ok (.nx env) s1 := by
    have a1 : evE C bz (.attr (.var 0) 6) env st = .ok (.ref e) st := ev_attr rfl hs rfl
    have a2 : evE C bz (.attr (.var 0) 5) env st = .ok (stateD rows coming) st := ev_attr rfl hs rfl
    have hk : kd st (.ref e) = .list := by simp only [kd, he]
    have hb : bmV bz st .append (.ref e) [stateD rows coming] = .ok .non s1 := by
      have : decide (eld.length < LIM) = true := decide_eq_true (p := _ < LIM) hl
      simp only [bmV, he, this, if_true, setC, canz, s1]
    rw [exS, evE, a1, bind_ok, hk]
    simp only [bmOk, if_true, evEs, a2, bind_ok, hk, hb, of_ok]
  have L0 : decide (([] : List D).length ≤ LIM) = true := by decide
  have hn1 : s1.length = n := List.length_set ..
  let s2 : Sto := (s1 ++ [Cell.lst []]).set i (.ins 18 [(5, stateD rows coming), (6, .ref e), (7, .ref n)])
  have p2 : exS C bz (.asgA (.var 0) 7 (.lst true [])) env s1 = .ok (.nx env) s2 := by
    have g : (s1 ++ [Cell.lst []])[i]? = _ := app_at (m := [.lst []]) hs1
    have h100 : decide (([(5, stateD rows coming), (6, .ref e), (7, .ref u)] : List (Nat × D)).length < 100) = true := by rfl
    have hput : putFd [(5, stateD rows coming), (6, .ref e), (7, .ref u)] 7 (.ref n) = [(5, stateD rows coming), (6, .ref e), (7, .ref n)] := rfl
    have hv : evE C bz (.var 0) env (s1 ++ [.lst []]) = .ok (.ref i) (s1 ++ [.lst []]) := ev_var rfl
    simp only [exS, evE.eq_def C bz (.lst ..), evEs, bind_ok, of_ok, L0, if_true, newL, hv, setFld, g, canz, h100, Bool.and_self, hn1, hput, s2]
  have hi2 : s2[i]? = some (.ins 18 [(5, stateD rows coming), (6, .ref e), (7, .ref n)]) := set_at (app_at hs1)
  let s3 : Sto := s2.set i (.ins 18 [(5, stateD rows' coming'), (6, .ref e), (7, .ref n)])
  have p3 : exS C bz (.asgA (.var 0) 5 (.tup [(.bf .tuple false [(.var 1)]), (.var 2)])) env s2 = .ok (.nx env) s3 := by
    have L2 : ∀ {a b : D}, decide (([a, b] : List D).length ≤ LIM) = true := by intros; exact decide_eq_true (p := _ ≤ LIM) (show (2 : Nat) ≤ LIM by decide)
    have hv : evE C bz (.tup [(.bf .tuple false [(.var 1)]), (.var 2)]) env s2 = .ok (stateD rows' coming') s2 := by
      have hb : bfV s2 .tuple false [.lst (rows'.map rowD)] = .ok (.tup (rows'.map rowD)) s2 := rfl
      have h1 : evE C bz (.var 1) env s2 = .ok (.lst (rows'.map rowD)) s2 := ev_var rfl
      have h2 : evE C bz (.var 2) env s2 = .ok (.int coming') s2 := ev_var rfl
      simp only [evE.eq_def C bz (.tup ..), evE.eq_def C bz (.bf ..), evEs, h1, h2, bind_ok, hb, L2, if_true, stateD]
    have h0 : evE C bz (.var 0) env s2 = .ok (.ref i) s2 := ev_var rfl
    have h100 : decide (([(5, stateD rows coming), (6, .ref e), (7, .ref n)] : List (Nat × D)).length < 100) = true := by rfl
    have hput : putFd [(5, stateD rows coming), (6, .ref e), (7, .ref n)] 5 (stateD rows' coming') = [(5, stateD rows' coming'), (6, .ref e), (7, .ref n)] := rfl
    simp only [exS, hv, of_ok, h0, setFld, hi2, canz, h100, Bool.and_self, if_true, hput, s3]
  have keep : ∀ j c, s1[j]? = some c → j ≠ i → s3[j]? = some c := fun j c hj hji => by
    show ((s1 ++ [Cell.lst []]).set i _ |>.set i _)[j]? = _
    rw [List.getElem?_set_ne (Ne.symm hji), List.getElem?_set_ne (Ne.symm hji)]
    exact app_at hj
  have he1 : s1[e]? = some (.lst (eld ++ [stateD rows coming])) := set_at he
  have hin : i ≠ n := Nat.ne_of_lt (lt_of_get hs)
  have hen : e ≠ n := Nat.ne_of_lt (lt_of_get he)
  refine ⟨s3, ?_, ⟨set_at hi2, keep e _ he1 (Ne.symm hie), ?_, hie, hin, hen⟩, fun j c hj hji hje => keep j c (by rw [List.getElem?_set_ne (Ne.symm hje)]; exact hj) hji, by simp [s3, s2, s1]⟩
  · show fin (exSs C bz f39.body env st) = _
    unfold f39
    rw [exSs, p1, seq_nx, exSs, p2, seq_nx, exSs, p3, seq_nx, exSs, fin_nx]
  · show ((s1 ++ [Cell.lst []]).set i _ |>.set i _)[st.length]? = _
    rw [List.getElem?_set_ne hin, List.getElem?_set_ne hin]
    have := get_end s1 (.lst [])
    rw [hn1] at this
    exact this
theorem ev_become (d : Nat) (env : Env) (st : Sto) (e1 e2 : E) {i e u : Nat} {rows rows' : List Row} {coming coming' : Int} {eld und : List D} (h : Dia st i e u rows coming eld und) (hl : eld.length < 16777216) (h0 : env[0]? = some (some (.ref i)))
    (he1 : evE (ctx txt (d + 1)) bz e1 env st = .ok (.lst (rows'.map rowD)) st) (he2 : evE (ctx txt (d + 1)) bz e2 env st = .ok (.int coming') st) :
    ∃ st' : Sto, evE (ctx txt (d + 1)) bz (.meth (.var 0) 18 true [e1, e2]) env st = .ok .non st' ∧ Dia st' i e st.length rows' coming' (eld ++ [stateD rows coming]) [] ∧ (∀ (j : Nat) (c : Cell), st[j]? = some c → j ≠ i → j ≠ e → st'[j]? = some c) ∧ st'.length = st.length + 1 := by
  obtain ⟨st', hc, hd, hf⟩ := m_become d st (rows' := rows') (coming' := coming') h hl
  refine ⟨st', ?_, hd, hf⟩
  have h18 : txt.meth 18 18 = some 39 := rfl
  have hv : evE (ctx txt (d + 1)) bz (.var 0) env st = .ok (.ref i) st := ev_var h0
  simp only [evE.eq_def _ bz (.meth ..), hv, bind_ok, h.self, h18, evEs, he1, he2, if_true, hc]
structure EnterOk (day : Int) (deed : List D) : Prop where
  day1 : 1 ≤ day
  day2 : day ≤ 9999
  deed : DeedG deed
theorem list1 {C : Ctx} {bar : Bar} {env : Env} {st : Sto} {e : E} {x : D} (h : evE C bar e env st = .ok x st) : evE C bar (.lst false [e]) env st = .ok (.lst [x]) st := by
  have h1 : decide (([x] : List D).length ≤ LIM) = true := decide_eq_true (p := _ ≤ LIM) (show (1 : Nat) ≤ LIM by decide)
  simp only [evE.eq_def _ bar (.lst ..), evEs, h, bind_ok, h1, if_true, newL, Bool.false_eq_true, if_false]
theorem tup3 {C : Ctx} {bar : Bar} {env : Env} {st : Sto} {a b c : Nat} {x y z : D} (h : env[a]? = some (some x)) (h2 : env[b]? = some (some y)) (h3 : env[c]? = some (some z)) : evE C bar (.tup [(.var a), (.var b), (.var c)]) env st = .ok (.tup [x, y, z]) st := by
  have h1 : decide (([x, y, z] : List D).length ≤ LIM) = true := decide_eq_true (p := _ ≤ LIM) (show (3 : Nat) ≤ LIM by decide)
  simp only [evE, evEs, h, h2, h3, bind_ok, h1, if_true]
theorem cat2 {C : Ctx} {bar : Bar} {env : Env} {st : Sto} {a b : E} {xs ys : List D} (h1 : evE C bar a env st = .ok (.lst xs) st) (h2 : evE C bar b env st = .ok (.lst ys) st) (hl : xs.length + ys.length ≤ 16777216) : evE C bar (.op .add a b) env st = .ok (.lst (xs ++ ys)) st := by
  simp only [evE.eq_def _ bar (.op ..), h1, h2, bind_ok, add_ll st hl]
theorem ex_check_day (d : Nat) (bar : Bar) (env : Env) (st : Sto) (v : Nat) (n : Int) (h : env[v]? = some (some (.int n))) (h1 : 1 ≤ n) (h2 : n ≤ 9999) : exS (ctx txt (d + 1)) bar (.expr (.call 32 false [(.var v)])) env st = .ok (.nx env) st := by
  have hc := check_day d (shutBar st) st n h1 h2
  simp only [exS, evE, evEs, h, bind_ok, Bool.false_eq_true, if_false, hc, shut_non, of_ok]
theorem ex_check_row (d : Nat) (bar : Bar) (env : Env) (st : Sto) (v : Nat) (deed : List D) (h : env[v]? = some (some (.tup deed))) (hd : DeedG deed) : exS (ctx txt (d + 2)) bar (.expr (.call 33 false [(.var v)])) env st = .ok (.nx env) st := by
  obtain ⟨kind, ks, args, rfl, _, h2⟩ := hd
  have hc := check_row d (shutBar st) st h2
  simp only [exS, evE, evEs, h, bind_ok, Bool.false_eq_true, if_false, hc, shut_non, of_ok]
theorem m_enter (d : Nat) (st : Sto) {i e u : Nat} {rows : List Row} {coming : Int} {eld und : List D} (h : Dia st i e u rows coming eld und) (ok : ∀ r ∈ rows, RowOk r) (hr : rows.length < 1000) (hl : eld.length < 16777216) (day : Int) (deed : List D) (hk : EnterOk day deed) :
    ∃ st' : Sto, call txt (d + 3) 42 bz [.ref i, .int day, .tup deed] st = .ok (.int coming) st' ∧ Dia st' i e st.length (rows ++ [⟨coming, day, deed⟩]) (coming + 1) (eld ++ [stateD rows coming]) [] ∧ (∀ (j : Nat) (c : Cell), st[j]? = some c → j ≠ i → j ≠ e → st'[j]? = some c) ∧ st'.length = st.length + 1 := by
  rw [call_eq (F := f42) rfl rfl]
  let C := ctx txt (d + 2)
  let env1 : Env := [some (.ref i), some (.int day), some (.tup deed), none]
  let env2 : Env := [some (.ref i), some (.int day), some (.tup deed), some (.int coming)]
  have p1 : exS C bz (.expr (.call 32 false [(.var 1)])) env1 st = .ok (.nx env1) st := ex_check_day (d + 1) bz env1 st 1 day rfl hk.day1 hk.day2
  have p2 : exS C bz (.expr (.call 33 false [(.var 2)])) env1 st = .ok (.nx env1) st := ex_check_row d bz env1 st 2 deed rfl hk.deed
  have p3 : exS C bz (.asg 3 (.meth (.var 0) 17 false [])) env1 st = .ok (.nx env2) st := by
    have hm : evE C bz (.meth (.var 0) 17 false []) env1 st = .ok (.int coming) st := ev_coming (d + 1) bz env1 st h.diaR rfl
    simp only [exS, hm, of_ok, env1, env2, List.set_cons_succ, List.set_cons_zero]
  have hrows : evE C bz (.meth (.var 0) 19 false []) env2 st = .ok (.lst (rows.map rowD)) st := ev_rows (d + 1) bz env2 st h.diaR ok rfl
  have hadd : evE C bz (.op .add (.meth (.var 0) 19 false []) (.lst false [(.tup [(.var 3), (.var 1), (.var 2)])])) env2 st = .ok (.lst ((rows ++ [(⟨coming, day, deed⟩ : Row)]).map rowD)) st := by
    rw [List.map_append]
    exact cat2 hrows (list1 (tup3 (a := 3) (b := 1) (c := 2) rfl rfl rfl)) (by simp; omega)
  have hnx : evE C bz (.op .add (.var 3) (.int 1)) env2 st = .ok (.int (coming + 1)) st := by
    simp only [evE, env2, List.getElem?_cons_succ, List.getElem?_cons_zero, bind_ok, add_ii]
  obtain ⟨st', hb, hd, hf⟩ := ev_become (d + 1) env2 st _ _ h hl rfl hadd hnx
  refine ⟨st', ?_, hd, hf⟩
  show fin (exSs C bz f42.body env1 st) = _
  have p4 : exS C bz (.expr (.meth (.var 0) 18 true [(.op .add (.meth (.var 0) 19 false []) (.lst false [(.tup [(.var 3), (.var 1), (.var 2)])])), (.op .add (.var 3) (.int 1))])) env2 st = .ok (.nx env2) st' := by
    rw [exS, hb, of_ok]
  have p5 : exS C bz (.ret (.var 3)) env2 st' = .ok (.rt (.int coming)) st' := rfl
  unfold f42
  rw [exSs, p1, seq_nx, exSs, p2, seq_nx, exSs, p3, seq_nx, exSs, p4, seq_nx, exSs, p5, seq_rt, fin_rt]
theorem sl_to {C : Ctx} {bar : Bar} {env : Env} {st : Sto} {a b j : Nat} {xs : List D} (h : env[a]? = some (some (.lst xs))) (h2 : env[b]? = some (some (.int (j : Int)))) : evE C bar (.sl (.var a) [] [(.var b)]) env st = .ok (.lst (xs.take j)) st := by
  have : slV st (.lst xs) none (some (j : Int)) = .ok (.lst (xs.take j)) st := by simp only [slV, asL, cut_to]
  simp only [evE, evBd, asI, h, h2, bind_ok, this]
theorem sl_from1 {C : Ctx} {bar : Bar} {env : Env} {st : Sto} {a b j : Nat} {xs : List D} (h : env[a]? = some (some (.lst xs))) (h2 : env[b]? = some (some (.int (j : Int)))) : evE C bar (.sl (.var a) [(.op .add (.var b) (.int 1))] []) env st = .ok (.lst (xs.drop (j + 1))) st := by
  have : slV st (.lst xs) (some ((j : Int) + 1)) none = .ok (.lst (xs.drop (j + 1))) st := by
    have := cut_from xs (j + 1)
    simp only [Int.natCast_add, Int.cast_ofNat_Int] at this
    simp only [slV, asL]
    exact congrArg (fun z => Res.ok (D.lst z) st) this
  simp only [evE, evBd, asI, h, h2, bind_ok, add_ii, this]
/-- where a number stands first -/
def FirstAt (rows : List Row) (j : Nat) (r : Row) : Prop := rows[j]? = some r ∧ ∀ i r', i < j → rows[i]? = some r' → r'.n ≠ r.n
theorem m_strike (d : Nat) (st : Sto) {i e u : Nat} {rows : List Row} {coming : Int} {eld und : List D} (h : Dia st i e u rows coming eld und) (ok : ∀ r ∈ rows, RowOk r) (hr : rows.length < 1000) (hl : eld.length < 16777216) {j : Nat} {r : Row} (hj : FirstAt rows j r) :
    ∃ st' : Sto, call txt (d + 3) 43 bz [.ref i, .int r.n] st = .ok .non st' ∧ Dia st' i e st.length (rows.take j ++ rows.drop (j + 1)) coming (eld ++ [stateD rows coming]) [] ∧ (∀ (j : Nat) (c : Cell), st[j]? = some c → j ≠ i → j ≠ e → st'[j]? = some c) ∧ st'.length = st.length + 1 := by
  rw [call_eq (F := f43) rfl rfl]
  let C := ctx txt (d + 2)
  let env1 : Env := [some (.ref i), some (.int r.n), none, none]
  let env2 : Env := [some (.ref i), some (.int r.n), some (.lst (rows.map rowD)), none]
  let env3 : Env := [some (.ref i), some (.int r.n), some (.lst (rows.map rowD)), some (.int (j : Int))]
  have p1 : exS C bz (.asg 2 (.meth (.var 0) 19 false [])) env1 st = .ok (.nx env2) st := by
    have hm : evE C bz (.meth (.var 0) 19 false []) env1 st = .ok (.lst (rows.map rowD)) st := ev_rows (d + 1) bz env1 st h.diaR ok rfl
    simp only [exS, hm, of_ok, env1, env2, List.set_cons_succ, List.set_cons_zero]
  have p2 : exS C bz (.asg 3 (.call 34 false [(.var 2), (.var 1)])) env2 st = .ok (.nx env3) st := by
    have hp := place_of (d + 1) (shutBar st) st rows j r hj.1 hj.2
    simp only [exS, evE, evEs, env2, env3, C, List.getElem?_cons_succ, List.getElem?_cons_zero, bind_ok, of_ok, Bool.false_eq_true, if_false, hp, shut_int, List.set_cons_succ, List.set_cons_zero]
  have hadd : evE C bz (.op .add (.sl (.var 2) [] [(.var 3)]) (.sl (.var 2) [(.op .add (.var 3) (.int 1))] [])) env3 st = .ok (.lst ((rows.take j ++ rows.drop (j + 1)).map rowD)) st := by
    rw [List.map_append, List.map_take, List.map_drop]
    exact cat2 (sl_to (a := 2) (b := 3) rfl rfl) (sl_from1 (a := 2) (b := 3) rfl rfl) (by simp; omega)
  have hnx : evE C bz (.meth (.var 0) 17 false []) env3 st = .ok (.int coming) st := ev_coming (d + 1) bz env3 st h.diaR rfl
  obtain ⟨st', hb, hd, hf⟩ := ev_become (d + 1) env3 st _ _ h hl rfl hadd hnx
  refine ⟨st', ?_, hd, hf⟩
  show fin (exSs C bz f43.body env1 st) = _
  have p4 : exS C bz (.expr (.meth (.var 0) 18 true [(.op .add (.sl (.var 2) [] [(.var 3)]) (.sl (.var 2) [(.op .add (.var 3) (.int 1))] [])), (.meth (.var 0) 17 false [])])) env3 st = .ok (.nx env3) st' := by
    rw [exS, hb, of_ok]
  unfold f43
  rw [exSs, p1, seq_nx, exSs, p2, seq_nx, exSs, p4, seq_nx, exSs, fin_nx]
theorem m_correct (d : Nat) (st : Sto) {i e u : Nat} {rows : List Row} {coming : Int} {eld und : List D} (h : Dia st i e u rows coming eld und) (ok : ∀ r ∈ rows, RowOk r) (hr : rows.length < 1000) (hl : eld.length < 16777216) {j : Nat} {r : Row} (hj : FirstAt rows j r) (day : Int) (deed : List D) (hk : EnterOk day deed) :
    ∃ st' : Sto, call txt (d + 3) 44 bz [.ref i, .int r.n, .int day, .tup deed] st = .ok .non st' ∧ Dia st' i e st.length (rows.take j ++ [⟨r.n, day, deed⟩] ++ rows.drop (j + 1)) coming (eld ++ [stateD rows coming]) [] ∧ (∀ (j : Nat) (c : Cell), st[j]? = some c → j ≠ i → j ≠ e → st'[j]? = some c) ∧ st'.length = st.length + 1 := by
  rw [call_eq (F := f44) rfl rfl]
  let C := ctx txt (d + 2)
  let env1 : Env := [some (.ref i), some (.int r.n), some (.int day), some (.tup deed), none, none]
  let env2 : Env := [some (.ref i), some (.int r.n), some (.int day), some (.tup deed), some (.lst (rows.map rowD)), none]
  let env3 : Env := [some (.ref i), some (.int r.n), some (.int day), some (.tup deed), some (.lst (rows.map rowD)), some (.int (j : Int))]
  have p1 : exS C bz (.asg 4 (.meth (.var 0) 19 false [])) env1 st = .ok (.nx env2) st := by
    have hm : evE C bz (.meth (.var 0) 19 false []) env1 st = .ok (.lst (rows.map rowD)) st := ev_rows (d + 1) bz env1 st h.diaR ok rfl
    simp only [exS, hm, of_ok, env1, env2, List.set_cons_succ, List.set_cons_zero]
  have p2 : exS C bz (.asg 5 (.call 34 false [(.var 4), (.var 1)])) env2 st = .ok (.nx env3) st := by
    have hp := place_of (d + 1) (shutBar st) st rows j r hj.1 hj.2
    simp only [exS, evE, evEs, env2, env3, C, List.getElem?_cons_succ, List.getElem?_cons_zero, bind_ok, of_ok, Bool.false_eq_true, if_false, hp, shut_int, List.set_cons_succ, List.set_cons_zero]
  have p3 : exS C bz (.expr (.call 32 false [(.var 2)])) env3 st = .ok (.nx env3) st := ex_check_day (d + 1) bz env3 st 2 day rfl hk.day1 hk.day2
  have p4 : exS C bz (.expr (.call 33 false [(.var 3)])) env3 st = .ok (.nx env3) st := ex_check_row d bz env3 st 3 deed rfl hk.deed
  have hadd : evE C bz (.op .add (.op .add (.sl (.var 4) [] [(.var 5)]) (.lst false [(.tup [(.var 1), (.var 2), (.var 3)])])) (.sl (.var 4) [(.op .add (.var 5) (.int 1))] [])) env3 st = .ok (.lst ((rows.take j ++ [(⟨r.n, day, deed⟩ : Row)] ++ rows.drop (j + 1)).map rowD)) st := by
    rw [List.map_append, List.map_append, List.map_take, List.map_drop]
    exact cat2 (cat2 (sl_to (a := 4) (b := 5) rfl rfl) (list1 (tup3 (a := 1) (b := 2) (c := 3) rfl rfl rfl)) (by simp; omega)) (sl_from1 (a := 4) (b := 5) rfl rfl) (by simp; omega)
  have hnx : evE C bz (.meth (.var 0) 17 false []) env3 st = .ok (.int coming) st := ev_coming (d + 1) bz env3 st h.diaR rfl
  obtain ⟨st', hb, hd, hf⟩ := ev_become (d + 1) env3 st _ _ h hl rfl hadd hnx
  refine ⟨st', ?_, hd, hf⟩
  show fin (exSs C bz f44.body env1 st) = _
  have p5 : exS C bz (.expr (.meth (.var 0) 18 true [(.op .add (.op .add (.sl (.var 4) [] [(.var 5)]) (.lst false [(.tup [(.var 1), (.var 2), (.var 3)])])) (.sl (.var 4) [(.op .add (.var 5) (.int 1))] [])), (.meth (.var 0) 17 false [])])) env3 st = .ok (.nx env3) st' := by
    rw [exS, hb, of_ok]
  unfold f44
  rw [exSs, p1, seq_nx, exSs, p2, seq_nx, exSs, p3, seq_nx, exSs, p4, seq_nx, exSs, p5, seq_nx, exSs, fin_nx]

/-! trees that == may ask -/
def DatOk (n : Nat) (x : D) : Prop := ∀ st, ∃ v, dat st x = some v ∧ v.canLay0 = true ∧ v.depth ≤ n
def DatsOk (n : Nat) (xs : List D) : Prop := ∀ st, ∃ vs, dats st xs = some vs ∧ PyData.canLayAll0 vs = true ∧ PyData.depthAll vs ≤ n ∧ vs.length = xs.length
theorem DatsOk.of {n : Nat} : ∀ {xs : List D}, (∀ x ∈ xs, DatOk n x) → DatsOk n xs
  | [], _ => fun st => ⟨[], rfl, rfl, Nat.zero_le _, rfl⟩
  | x :: xs, h => fun st => by
    obtain ⟨v, h1, h2, h3⟩ := h x (List.mem_cons_self ..) st
    obtain ⟨vs, g1, g2, g3, g4⟩ := DatsOk.of (fun y hy => h y (List.mem_cons_of_mem _ hy)) st
    refine ⟨v :: vs, by simp only [dats, h1, g1], ?_, ?_, by simp [g4]⟩
    · simp only [PyData.canLayAll0, h2, g2, Bool.and_self]
    · simp only [PyData.depthAll]; omega
theorem DatOk.tup {n : Nat} {xs : List D} (h : DatsOk n xs) : DatOk (n + 1) (.tup xs) := fun st => by
  obtain ⟨vs, g1, g2, g3, g4⟩ := h st
  exact ⟨.tuple vs, by simp only [dat, g1, Option.map_some], g2, by simp only [PyData.depth]; omega⟩
theorem DatOk.int (n : Nat) (i : Int) : DatOk n (.int i) := fun st => ⟨.int i, rfl, rfl, Nat.zero_le _⟩
theorem DatOk.mono {n m : Nat} {x : D} (h : DatOk n x) (hm : n ≤ m) : DatOk m x := fun st => by
  obtain ⟨v, h1, h2, h3⟩ := h st
  exact ⟨v, h1, h2, Nat.le_trans h3 hm⟩
theorem DatOk.str {z : Str} (n : Nat) (h : ∀ c ∈ z.cps.toList, c < 1114112) : DatOk n (.str z) := fun st => by
  refine ⟨.str z, rfl, ?_, Nat.zero_le _⟩
  show z.cps.all (· < 0x110000) = true
  rw [← Array.all_toList, List.all_eq_true]
  exact fun c hc => decide_eq_true (h c hc)
theorem eqv_nil (vs : List PyData) : PyData.eqv (.list vs) (.list []) = vs.isEmpty := by
  cases vs <;> simp [PyData.eqv, PyData.eqvAll]
theorem cmp_nil {st : Sto} {i : Nat} {xs : List D} (hi : st[i]? = some (.lst xs)) {n : Nat} (h : DatsOk n xs) (hn : n ≤ 60) : cmpV st .eq (.ref i) (.lst []) = .ok (.bl xs.isEmpty) st ∧ cmpV st .ne (.ref i) (.lst []) = .ok (.bl !xs.isEmpty) st := by
  obtain ⟨vs, g1, g2, g3, g4⟩ := h st
  have e1 : datS st (.ref i) = some (.list vs) := by simp only [datS, hi, g1, Option.map_some]
  have e2 : datS st (.lst []) = some (.list []) := rfl
  have e3 : SeqAt.shaped (.list vs) = true := by
    have : PyData.depthAll vs + 1 ≤ 64 := by omega
    simp only [SeqAt.shaped, PyData.canLay0, g2, Bool.true_and, PyData.depth]
    exact decide_eq_true this
  have e4 : SeqAt.shaped (.list []) = true := by rfl
  have e5 : vs.isEmpty = xs.isEmpty := by
    cases vs <;> cases xs <;> simp at g4 <;> rfl
  have e0 : scalD (.ref i) (.lst []) = none := rfl
  constructor
  · simp only [cmpV, e0, e1, e2, e3, e4, Bool.and_self, if_true, eqv_nil, e5]
  · simp only [cmpV, e0, e1, e2, e3, e4, Bool.and_self, if_true, eqv_nil, e5]
theorem low_letters : ∀ c ∈ letters.cps.toList, c < 1114112 := by decide
theorem KindOk.dat {c : Nat} {x : D} (h : KindOk c x) : DatOk 0 x := by
  cases x <;> simp only [KindOk] at h
  · exact .int _ _
  · rename_i z
    refine .str _ fun k hk => ?_
    rcases h with ⟨_, h⟩ | ⟨_, rfl | h⟩
    · exact low_letters k (h.low k hk)
    · exact absurd (show k ∈ ([] : List Nat) from hk) (List.not_mem_nil)
    · exact low_letters k (h.low k hk)
theorem kind_low {kind : Str} {v : D} (h : getK countsL (Sum.inr kind) = some v) : ∀ c ∈ kind.cps.toList, c < 1114112 := by
  unfold getK at h
  cases hf : countsL.find? (fun kv => decide (kv.1 = Sum.inr kind)) with
  | none => rw [hf] at h; cases h
  | some kv =>
    have h1 := List.mem_of_find?_eq_some hf
    have h2 : kv.1 = Sum.inr kind := by
      have := List.find?_some hf
      simpa using this
    have : ∀ kv ∈ countsL, ∀ k, kv.1 = Sum.inr k → ∀ c ∈ k.cps.toList, c < 1114112 := by
      simp only [countsL, List.forall_mem_cons]
      refine ⟨?_, ?_, ?_, ?_, ?_, ?_, ?_, ?_, ?_, fun _ h => nomatch h⟩ <;> (intro k hk; cases hk; decide)
    exact this kv h1 kind h2
theorem DeedOk.dat {kind ks : Str} {args : List D} (h : DeedOk kind ks args) : ∀ x ∈ args, DatOk 0 x := fun x hx => by
  obtain ⟨i, hi, rfl⟩ := List.mem_iff_getElem.mp hx
  have hk : i < ks.cps.toList.length := by
    have : ks.cps.toList.length = ks.length := by simp [Str.length]
    rw [this, ← h.len]; exact hi
  exact (h.all i _ _ (List.getElem?_eq_getElem hk) (List.getElem?_eq_getElem hi)).dat
theorem DeedG.dat {deed : List D} (h : DeedG deed) : DatsOk 0 deed := by
  obtain ⟨kind, ks, args, rfl, h1, h2⟩ := h
  refine .of fun x hx => ?_
  rcases List.mem_cons.mp hx with rfl | hx
  · exact .str _ (kind_low h2.cnt)
  · exact h2.dat x hx
theorem DeedG.datRow {r : Row} (h : DeedG r.deed) : DatOk 2 (rowD r) := .tup (.of fun x hx => by
  simp only [List.mem_cons, List.not_mem_nil, or_false] at hx
  rcases hx with rfl | rfl | rfl
  · exact .int _ _
  · exact .int _ _
  · exact .tup h.dat)
theorem dat_rows {rows : List Row} (h : ∀ r ∈ rows, DeedG r.deed) : DatsOk 2 (rows.map rowD) := .of fun x hx => by
  obtain ⟨r, hr, rfl⟩ := List.mem_map.mp hx
  exact (h r hr).datRow
theorem dat_state {rows : List Row} (h : ∀ r ∈ rows, DeedG r.deed) (coming : Int) : DatOk 4 (stateD rows coming) := .tup (.of fun x hx => by
  simp only [List.mem_cons, List.not_mem_nil, or_false] at hx
  rcases hx with rfl | rfl
  · exact .tup (dat_rows h)
  · exact .int _ _)
theorem m_back (d : Nat) (st : Sto) {i e u : Nat} {rows rows' : List Row} {coming coming' : Int} {eld und : List D} (h : Dia st i e u rows coming (eld ++ [stateD rows' coming']) und) (hd : DatsOk 60 (eld ++ [stateD rows' coming'])) (hl : und.length < 16777216) :
    ∃ st' : Sto, call txt (d + 1) 45 bz [.ref i] st = .ok .non st' ∧ Dia st' i e u rows' coming' eld (und ++ [stateD rows coming]) ∧ (∀ (j : Nat) (c : Cell), st[j]? = some c → j ≠ i → j ≠ e → j ≠ u → st'[j]? = some c) ∧ st'.length = st.length := by
  rw [call_eq (F := f45) rfl rfl]
  obtain ⟨hs, he, hu, hie, hiu, heu⟩ := h
  let env : Env := [some (.ref i)]
  let C := ctx txt d
  have a6 : evE C bz (.attr (.var 0) 6) env st = .ok (.ref e) st := ev_attr rfl hs rfl
  have a7 : evE C bz (.attr (.var 0) 7) env st = .ok (.ref u) st := ev_attr rfl hs rfl
  have a5 : evE C bz (.attr (.var 0) 5) env st = .ok (stateD rows coming) st := ev_attr rfl hs rfl
  have L0 : decide (([] : List D).length ≤ LIM) = true := by decide
  have hne : (eld ++ [stateD rows' coming']).isEmpty = false := by cases eld <;> rfl
  have p1 : exS C bz (.ite (.cmp .eq (.attr (.var 0) 6) (.lst false [])) [.bad] []) env st = .ok (.nx env) st := by
    have hnil : evE C bz (.lst false []) env st = .ok (.lst []) st := by simp only [evE, evEs, bind_ok, L0, if_true, newL, Bool.false_eq_true, if_false]
    have hc : evE C bz (.cmp .eq (.attr (.var 0) 6) (.lst false [])) env st = .ok (.bl false) st := by
      rw [evE, a6, bind_ok, hnil, bind_ok, (cmp_nil he hd (Nat.le_refl _)).1, hne]
    rw [exS, hc, bind_ok, asB_ok, of_ok]
    simp only [Bool.false_eq_true, if_false, exSs]
  let s1 : Sto := st.set u (.lst (und ++ [stateD rows coming]))
  have p2 : exS C bz (.expr (.bm .append (.attr (.var 0) 7) [(.attr (.var 0) 5)])) env st = .ok (.nx env) s1 := by
    have hk : kd st (.ref u) = .list := by simp only [kd, hu]
    have hb : bmV bz st .append (.ref u) [stateD rows coming] = .ok .non s1 := by
      have : decide (und.length < LIM) = true := decide_eq_true (p := _ < LIM) hl
      simp only [bmV, hu, this, if_true, setC, canz, s1]
    rw [exS, evE, a7, bind_ok, hk]
    simp only [bmOk, if_true, evEs, a5, bind_ok, hk, hb, of_ok]
  have hs1 : s1[i]? = some (.ins 18 [(5, stateD rows coming), (6, .ref e), (7, .ref u)]) := by rw [List.getElem?_set_ne (Ne.symm hiu)]; exact hs
  have he1 : s1[e]? = some (.lst (eld ++ [stateD rows' coming'])) := by rw [List.getElem?_set_ne (Ne.symm heu)]; exact he
  let s2 : Sto := s1.set e (.lst eld)
  have hs2 : s2[i]? = some (.ins 18 [(5, stateD rows coming), (6, .ref e), (7, .ref u)]) := by rw [List.getElem?_set_ne (Ne.symm hie)]; exact hs1
  let s3 : Sto := s2.set i (.ins 18 [(5, stateD rows' coming'), (6, .ref e), (7, .ref u)])
  have p3 : exS C bz (.asgA (.var 0) 5 (.bm .pop (.attr (.var 0) 6) [])) env s1 = .ok (.nx env) s3 := by
    have b6 : evE C bz (.attr (.var 0) 6) env s1 = .ok (.ref e) s1 := ev_attr rfl hs1 rfl
    have hk : kd s1 (.ref e) = .list := by simp only [kd, he1]
    have hb : bmV bz s1 .pop (.ref e) [] = .ok (stateD rows' coming') s2 := by
      have g : (eld ++ [stateD rows' coming'])[(eld ++ [stateD rows' coming']).length - 1]? = some (stateD rows' coming') := by simp
      simp only [bmV, he1, g, setC, canz, if_true, List.dropLast_concat, s2]
    have hv : evE C bz (.bm .pop (.attr (.var 0) 6) []) env s1 = .ok (stateD rows' coming') s2 := by
      rw [evE, b6, bind_ok, hk]
      simp only [bmOk, if_true, evEs, bind_ok, hk, hb]
    have h0 : evE C bz (.var 0) env s2 = .ok (.ref i) s2 := ev_var rfl
    have h100 : decide (([(5, stateD rows coming), (6, .ref e), (7, .ref u)] : List (Nat × D)).length < 100) = true := by rfl
    have hput : putFd [(5, stateD rows coming), (6, .ref e), (7, .ref u)] 5 (stateD rows' coming') = [(5, stateD rows' coming'), (6, .ref e), (7, .ref u)] := rfl
    simp only [exS, hv, of_ok, h0, setFld, hs2, canz, h100, Bool.and_self, if_true, hput, s3]
  refine ⟨s3, ?_, ⟨set_at hs2, ?_, ?_, hie, hiu, heu⟩, fun j c hj h1 h2 h3 => ?_, by simp [s3, s2, s1]⟩
  · show fin (exSs C bz f45.body env st) = _
    unfold f45
    rw [exSs, p1, seq_nx, exSs, p2, seq_nx, exSs, p3, seq_nx, exSs, fin_nx]
  · show (s2.set i _)[e]? = _
    rw [List.getElem?_set_ne hie]; exact set_at he1
  · show (s2.set i _)[u]? = _
    rw [List.getElem?_set_ne hiu]
    show (s1.set e _)[u]? = _
    rw [List.getElem?_set_ne heu]; exact set_at hu
  · show (s2.set i _)[j]? = _
    rw [List.getElem?_set_ne (Ne.symm h1)]
    show (s1.set e _)[j]? = _
    rw [List.getElem?_set_ne (Ne.symm h2)]
    show (st.set u _)[j]? = _
    rw [List.getElem?_set_ne (Ne.symm h3)]; exact hj

/-! the law -/
structure RowG (coming : Int) (r : Row) : Prop where
  n1 : 1 ≤ r.n
  n2 : r.n < coming
  e : EnterOk r.day r.deed
theorem RowG.ok {coming : Int} {r : Row} (h : RowG coming r) (hc : coming ≤ 100000) : RowOk r where
  n := by have := h.n1; have := h.n2; omega
  day := by have := h.e.day1; have := h.e.day2; omega
  len := h.e.deed.len
  things := h.e.deed.things
theorem RowG.mono {coming : Int} {r : Row} (h : RowG coming r) : RowG (coming + 1) r := ⟨h.n1, by have := h.n2; omega, h.e⟩
theorem Dia.set {st : Sto} {i e u k : Nat} {rows : List Row} {coming : Int} {eld und : List D} (h : Dia st i e u rows coming eld und) (c : Cell) (h1 : k ≠ i) (h2 : k ≠ e) (h3 : k ≠ u) : Dia (st.set k c) i e u rows coming eld und :=
  ⟨by rw [List.getElem?_set_ne h1]; exact h.self, by rw [List.getElem?_set_ne h2]; exact h.eld, by rw [List.getElem?_set_ne h3]; exact h.und, h.ie, h.iu, h.eu⟩
structure Inv (s : Sto) (k : Nat) (rows : List Row) (coming : Int) (u : Nat) (eld und : List D) : Prop where
  dia : Dia s 0 1 u rows coming eld und
  law : s[3]? = some (.lst (rows.map rowD))
  u3 : 3 < u ∨ u = 2
  few : rows.length ≤ k
  elen : eld.length ≤ 3 * k
  com : coming = k + 1
  ord : rows.Pairwise (fun a b => a.n < b.n)
  all : ∀ r ∈ rows, RowG coming r
  dat : ∀ x ∈ eld, DatOk 4 x
theorem dat_snoc {eld : List D} (h : ∀ x ∈ eld, DatOk 4 x) {rows : List Row} (hr : ∀ r ∈ rows, DeedG r.deed) (coming : Int) : ∀ x ∈ eld ++ [stateD rows coming], DatOk 4 x := fun x hx => by
  rcases List.mem_append.mp hx with hx | hx
  · exact h x hx
  · cases List.mem_singleton.mp hx; exact dat_state hr coming
theorem first_of {rows : List Row} (ho : rows.Pairwise (fun a b => a.n < b.n)) {j : Nat} {r : Row} (h : rows[j]? = some r) : FirstAt rows j r := by
  refine ⟨h, fun i r' hi hr => ?_⟩
  obtain ⟨h1, h2⟩ := List.getElem?_eq_some_iff.mp h
  obtain ⟨h3, h4⟩ := List.getElem?_eq_some_iff.mp hr
  have := List.pairwise_iff_getElem.mp ho i j h3 h1 hi
  rw [h2, h4] at this
  omega
theorem Inv.ok {s : Sto} {k : Nat} {rows : List Row} {coming : Int} {u : Nat} {eld und : List D} (h : Inv s k rows coming u eld und) (hk : k ≤ 60) : ∀ r ∈ rows, RowOk r := fun r hr => (h.all r hr).ok (by rw [h.com]; omega)
theorem row_same (d : Nat) (bar : Bar) (st : Sto) {r : Row} (h : RowOk r) : call txt (d + 5) 50 bar [rowD r, rowD r] st = .ok (.bl true) st := by
  refine same_tup (d + 3) bar st _ (fun x hx bar => ?_) (by simp)
  simp only [List.mem_cons, List.not_mem_nil, or_false] at hx
  rcases hx with rfl | rfl | rfl
  · exact same_int (d + 3) bar st _
  · exact same_int (d + 3) bar st _
  · refine same_tup (d + 2) bar st _ (fun x hx bar => ?_) (by have := h.len; omega)
    have := h.things x hx
    cases x <;> simp only [Thing] at this
    · exact same_int (d + 2) bar st _
    · exact same_str (d + 2) bar st _
theorem pages_same (d : Nat) (bar : Bar) (env : Env) (s : Sto) {k : Nat} {rows : List Row} {coming : Int} {u : Nat} {eld und : List D} (h : Inv s k rows coming u eld und) (hk : k ≤ 60)
    (e3 : env[3]? = some (some (.ref 0))) (e4 : env[4]? = some (some (.ref 3))) (e5 : env[5]? = some (some (.int coming))) :
    evE (ctx txt (d + 6)) bar (.call 50 false [(.call 92 false [(.var 3)]), (.call 102 false [(.var 4), (.var 5)])]) env s = .ok (.bl true) s := by
  have hc : coming.natAbs < 2 ^ 64 := by have := h.com; omega
  obtain ⟨s1, h1⟩ := prog_page (d + 3) s h.dia.diaR (h.ok hk) (by have := h.few; omega) hc
  obtain ⟨s2, h2⟩ := law_page (d + 4) s (.ref 3) rows coming (by simp only [asL, h.law]) (fun i hi => by cases hi; exact lt_of_get h.law) (fun st' => by
    have := app_at (m := st') h.law
    simp only [itemsV, asL, this]) (h.ok hk) (by have := h.few; omega) hc
  have p1 : evE (ctx txt (d + 6)) bar (.call 92 false [(.var 3)]) env s = .ok (.str (pageS rows coming)) s := by
    simp only [evE, evEs, e3, bind_ok, Bool.false_eq_true, if_false, h1, shut_str]
  have p2 : evE (ctx txt (d + 6)) bar (.call 102 false [(.var 4), (.var 5)]) env s = .ok (.str (pageS rows coming)) s := by
    simp only [evE, evEs, e4, e5, bind_ok, Bool.false_eq_true, if_false, h2, shut_str]
  rw [evE, evEs, p1, bind_ok, evEs, p2, bind_ok, evEs, bind_ok, bind_ok, bind_ok]
  have := same_str (d + 5) (shutBar s) s (pageS rows coming)
  simp only [Bool.false_eq_true, if_false, this, shut_bl]
def lawEnv (v0 fd nm : D) (coming : Int) (e6 e7 e8 e9 : Option D) : Env := [some v0, some fd, some nm, some (.ref 0), some (.ref 3), some (.int coming), e6, e7, e8, e9]
theorem law_enter (v0 fd nm : D) {s : Sto} {k : Nat} {rows : List Row} {coming : Int} {u : Nat} {eld und : List D} (h : Inv s k rows coming u eld und) (hk : k ≤ 50) (num : Int) (r : Row) (hr : FreeOk r) (e9 : Option D) :
    ∃ s' u', exSs (ctx txt 11) bz [.ite (.not (.call 50 false [(.meth (.var 3) 20 true [(.var 7), (.var 8)]), (.var 5)]))
        [.ret (.bl false)]
        [],
      .expr (.bm .append (.var 4) [(.tup [(.var 5), (.var 7), (.var 8)])]),
      .asg 5 (.op .add (.var 5) (.int 1))] (lawEnv v0 fd nm coming (some (.int num)) (some (.int r.day)) (some (.tup r.deed)) e9) s =
      .ok (.nx (lawEnv v0 fd nm (coming + 1) (some (.int num)) (some (.int r.day)) (some (.tup r.deed)) e9)) s' ∧ Dia s' 0 1 u' (rows ++ [⟨coming, r.day, r.deed⟩]) (coming + 1) (eld ++ [stateD rows coming]) [] ∧ s'[3]? = some (.lst ((rows ++ [(⟨coming, r.day, r.deed⟩ : Row)]).map rowD)) ∧ 3 < u' := by
  obtain ⟨s1, hc, hd, hf, hl⟩ := m_enter 8 s h.dia (h.ok (by omega)) (by have := h.few; omega) (by have := h.elen; omega) r.day r.deed ⟨hr.day1, hr.day2, hr.deed⟩
  let C := ctx txt 11
  let env := lawEnv v0 fd nm coming (some (.int num)) (some (.int r.day)) (some (.tup r.deed)) e9
  have h20 : txt.meth 18 20 = some 42 := rfl
  have g3 : s1[3]? = some (.lst (rows.map rowD)) := hf 3 _ h.law (by decide) (by decide)
  have hu : 3 < s.length := lt_of_get h.law
  have p1 : exS C bz (.ite (.not (.call 50 false [(.meth (.var 3) 20 true [(.var 7), (.var 8)]), (.var 5)])) [.ret (.bl false)] []) env s = .ok (.nx env) s1 := by
    have hv : evE C bz (.var 3) env s = .ok (.ref 0) s := ev_var rfl
    have h7 : evE C bz (.var 7) env s = .ok (.int r.day) s := ev_var rfl
    have h8 : evE C bz (.var 8) env s = .ok (.tup r.deed) s := ev_var rfl
    have h5 : evE C bz (.var 5) env s1 = .ok (.int coming) s1 := ev_var rfl
    have hm : evE C bz (.meth (.var 3) 20 true [(.var 7), (.var 8)]) env s = .ok (.int coming) s1 := by
      simp only [evE.eq_def C bz (.meth ..), hv, bind_ok, h.dia.self, evEs, h7, h8, if_true]
      exact hc
    have hs := same_int 10 (shutBar s1) s1 coming
    have hcall : evE C bz (.call 50 false [(.meth (.var 3) 20 true [(.var 7), (.var 8)]), (.var 5)]) env s = .ok (.bl true) s1 := by
      rw [evE, evEs, hm, bind_ok, evEs, h5, bind_ok, evEs, bind_ok, bind_ok, bind_ok]
      exact congrArg (shut s1) hs
    rw [exS, evE, hcall]
    simp only [bind_ok, Bool.not_true, asB_ok, of_ok, Bool.false_eq_true, if_false, exSs]
  let r' : Row := ⟨coming, r.day, r.deed⟩
  let s2 : Sto := s1.set 3 (.lst ((rows ++ [r']).map rowD))
  have p2 : exS C bz (.expr (.bm .append (.var 4) [(.tup [(.var 5), (.var 7), (.var 8)])])) env s1 = .ok (.nx env) s2 := by
    have hk4 : kd s1 (.ref 3) = .list := by simp only [kd, g3]
    have h4 : evE C bz (.var 4) env s1 = .ok (.ref 3) s1 := ev_var rfl
    have ht : evE C bz (.tup [(.var 5), (.var 7), (.var 8)]) env s1 = .ok (rowD r') s1 := tup3 (a := 5) (b := 7) (c := 8) rfl rfl rfl
    have hb : bmV bz s1 .append (.ref 3) [rowD r'] = .ok .non s2 := by
      have : decide ((rows.map rowD).length < LIM) = true := decide_eq_true (p := _ < LIM) (by rw [List.length_map]; have := h.few; exact Nat.lt_of_le_of_lt (by omega : _ ≤ 100) (by decide))
      simp only [bmV, g3, this, if_true, setC, canz, s2, List.map_append, List.map_cons, List.map_nil]
    rw [exS, evE, h4, bind_ok, hk4]
    simp only [bmOk, if_true, evEs, ht, bind_ok, hk4, hb, of_ok]
  have p3 : exS C bz (.asg 5 (.op .add (.var 5) (.int 1))) env s2 = .ok (.nx (lawEnv v0 fd nm (coming + 1) (some (.int num)) (some (.int r.day)) (some (.tup r.deed)) e9)) s2 := rfl
  refine ⟨s2, s.length, ?_, hd.set _ (by decide) (by decide) (by omega), set_at g3, hu⟩
  show exSs C bz _ env s = _
  rw [exSs, p1, seq_nx, exSs, p2, seq_nx, exSs, p3, seq_nx, exSs]
theorem law_strike (v0 fd nm : D) {s : Sto} {k : Nat} {rows : List Row} {coming : Int} {u : Nat} {eld : List D} (hd : Dia s 0 1 u (rows ++ [⟨coming, day, deed⟩]) (coming + 1) eld []) (h3 : s[3]? = some (.lst ((rows ++ [(⟨coming, day, deed⟩ : Row)]).map rowD))) (hu : 3 < u)
    (ok : ∀ r ∈ rows ++ [(⟨coming, day, deed⟩ : Row)], RowOk r) (ho : (rows ++ [(⟨coming, day, deed⟩ : Row)]).Pairwise (fun a b => a.n < b.n)) (hk : rows.length ≤ 100) (hl : eld.length ≤ 1000) (num : Int) (e7 e8 e9 : Option D) (hed : ∀ x ∈ eld, DatOk 4 x) (hgd : ∀ x ∈ rows ++ [(⟨coming, day, deed⟩ : Row)], DeedG x.deed) :
    ∃ s' u' eld' rows', exS (ctx txt 11) bz (.ite (.cmp .eq (.op .mod (.var 6) (.int 5)) (.int 4)) [.expr (.meth (.var 3) 21 true [(.ix (.bm .pop (.var 4) []) (.int 0))])] []) (lawEnv v0 fd nm (coming + 1) (some (.int num)) e7 e8 e9) s =
      .ok (.nx (lawEnv v0 fd nm (coming + 1) (some (.int num)) e7 e8 e9)) s' ∧ Dia s' 0 1 u' rows' (coming + 1) eld' [] ∧ s'[3]? = some (.lst (rows'.map rowD)) ∧ 3 < u' ∧ eld'.length ≤ eld.length + 1 ∧ (rows' = rows ∨ rows' = rows ++ [⟨coming, day, deed⟩]) ∧ (∀ x ∈ eld', DatOk 4 x) := by
  let C := ctx txt 11
  let env := lawEnv v0 fd nm (coming + 1) (some (.int num)) e7 e8 e9
  let r : Row := ⟨coming, day, deed⟩
  have m5 : opV s .mod (.int num) (.int 5) = .ok (.int (num % 5)) s := mod_ii s (by decide)
  have hcond : evE C bz (.cmp .eq (.op .mod (.var 6) (.int 5)) (.int 4)) env s = .ok (.bl (decide (num % 5 = 4))) s := by
    have h6 : evE C bz (.var 6) env s = .ok (.int num) s := ev_var rfl
    simp only [evE.eq_def C bz (.cmp ..), evE.eq_def C bz (.op ..), evE.eq_def C bz (.int ..), h6, bind_ok, m5, eq_ii]
  by_cases hc : num % 5 = 4
  · let s1 : Sto := s.set 3 (.lst (rows.map rowD))
    have hd1 : Dia s1 0 1 u (rows ++ [r]) (coming + 1) eld [] := hd.set _ (by decide) (by decide) (by omega)
    have hj : FirstAt (rows ++ [r]) rows.length r := first_of ho (by simp [r])
    obtain ⟨s2, hm, hd2, hf, hl2⟩ := m_strike 8 s1 hd1 ok (by simp; omega) (by omega) hj
    have hrows : (rows ++ [r]).take rows.length ++ (rows ++ [r]).drop (rows.length + 1) = rows := by simp
    rw [hrows] at hd2
    refine ⟨s2, s1.length, _, rows, ?_, hd2, hf 3 _ (set_at h3) (by decide) (by decide), ?_, by simp, Or.inl rfl, dat_snoc hed hgd _⟩
    · have h4 : evE C bz (.var 4) env s = .ok (.ref 3) s := ev_var rfl
      have h3' : evE C bz (.var 3) env s = .ok (.ref 0) s := ev_var rfl
      have hk4 : kd s (.ref 3) = .list := by simp only [kd, h3]
      have hb : bmV bz s .pop (.ref 3) [] = .ok (rowD r) s1 := by
        have g : ((rows ++ [r]).map rowD)[((rows ++ [r]).map rowD).length - 1]? = some (rowD r) := by simp
        have g2 : ((rows ++ [r]).map rowD).dropLast = rows.map rowD := by simp
        have h3 : s[3]? = some (.lst ((rows ++ [r]).map rowD)) := h3
        simp only [bmV, h3, g, setC, canz, if_true, g2, s1]
      have hpop : evE C bz (.ix (.bm .pop (.var 4) []) (.int 0)) env s = .ok (.int coming) s1 := by
        rw [evE, evE, h4, bind_ok, hk4]
        simp only [bmOk, if_true, evEs, bind_ok, hk4, hb]
        rfl
      have h21 : txt.meth 18 21 = some 43 := rfl
      have hm' : call txt 11 43 bz [.ref 0, .int coming] s1 = .ok .non s2 := hm
      have hmeth : evE C bz (.meth (.var 3) 21 true [(.ix (.bm .pop (.var 4) []) (.int 0))]) env s = .ok .non s2 := by
        simp only [evE.eq_def C bz (.meth ..), h3', bind_ok, hd.self, evEs, hpop, if_true]
        exact hm'
      have hst : exSs C bz [.expr (.meth (.var 3) 21 true [(.ix (.bm .pop (.var 4) []) (.int 0))])] env s = .ok (.nx env) s2 := by
        rw [exSs, exS, hmeth, of_ok, seq_nx, exSs]
      rw [exS, hcond, decide_eq_true hc, bind_ok, asB_ok, of_ok, if_pos rfl, hst]
    · show 3 < (s.set 3 _).length
      rw [List.length_set]; exact lt_of_get h3
  · refine ⟨s, u, eld, rows ++ [r], ?_, hd, h3, hu, by omega, Or.inr rfl, hed⟩
    rw [exS, hcond, decide_eq_false hc, bind_ok, asB_ok, of_ok]
    simp only [Bool.false_eq_true, if_false, exSs, env]
theorem law_correct (v0 fd nm : D) {s : Sto} {rows : List Row} {coming : Int} {u : Nat} {eld : List D} (hd : Dia s 0 1 u rows coming eld []) (h3 : s[3]? = some (.lst (rows.map rowD))) (hu : 3 < u)
    (hg : ∀ r ∈ rows, RowG coming r) (hc1 : coming ≤ 1000) (ho : rows.Pairwise (fun a b => a.n < b.n)) (hk : rows.length ≤ 100) (hl : eld.length ≤ 1000) (num : Int) (e7 e8 e9 : Option D) (hed : ∀ x ∈ eld, DatOk 4 x) :
    ∃ s' u' eld' rows' e6' e7' e8', exS (ctx txt 11) bz (.ite (.and [(.cmp .eq (.op .mod (.var 6) (.int 7)) (.int 3)), (.cmp .ne (.var 4) (.lst false []))])
        [.asgT [6, 7, 8] (.ix (.var 4) (.int 0)),
         .asgI (.var 4) (.int 0) (.tup [(.var 6), (.int 9999), (.var 8)]),
         .expr (.meth (.var 3) 22 true [(.var 6), (.int 9999), (.var 8)])]
        []) (lawEnv v0 fd nm coming (some (.int num)) e7 e8 e9) s =
      .ok (.nx (lawEnv v0 fd nm coming e6' e7' e8' e9)) s' ∧ Dia s' 0 1 u' rows' coming eld' [] ∧ s'[3]? = some (.lst (rows'.map rowD)) ∧ 3 < u' ∧ eld'.length ≤ eld.length + 1 ∧ rows'.length = rows.length ∧ (∀ r ∈ rows', RowG coming r) ∧ rows'.Pairwise (fun a b => a.n < b.n) ∧ (∀ x ∈ eld', DatOk 4 x) := by
  let C := ctx txt 11
  let env := lawEnv v0 fd nm coming (some (.int num)) e7 e8 e9
  have m7 : opV s .mod (.int num) (.int 7) = .ok (.int (num % 7)) s := mod_ii s (by decide)
  have h6 : evE C bz (.var 6) env s = .ok (.int num) s := ev_var rfl
  have h4 : evE C bz (.var 4) env s = .ok (.ref 3) s := ev_var rfl
  have L0 : decide (([] : List D).length ≤ LIM) = true := by decide
  have hnil : evE C bz (.lst false []) env s = .ok (.lst []) s := by simp only [evE, evEs, bind_ok, L0, if_true, newL, Bool.false_eq_true, if_false]
  have c1 : evE C bz (.cmp .eq (.op .mod (.var 6) (.int 7)) (.int 3)) env s = .ok (.bl (decide (num % 7 = 3))) s := by
    simp only [evE.eq_def C bz (.cmp ..), evE.eq_def C bz (.op ..), evE.eq_def C bz (.int ..), h6, bind_ok, m7, eq_ii]
  have hne := (cmp_nil h3 (dat_rows fun r hr => (hg r hr).e.deed) (by decide)).2
  have c2 : evE C bz (.cmp .ne (.var 4) (.lst false [])) env s = .ok (.bl !(rows.map rowD).isEmpty) s := by
    rw [evE, h4, bind_ok, hnil, bind_ok, hne]
  have hcond : evE C bz (.and [(.cmp .eq (.op .mod (.var 6) (.int 7)) (.int 3)), (.cmp .ne (.var 4) (.lst false []))]) env s = .ok (.bl (decide (num % 7 = 3) && !(rows.map rowD).isEmpty)) s := by
    cases hq : decide (num % 7 = 3)
    · rw [evE, evAnd, c1, bind_ok, hq]; rfl
      exact nofun
    · rw [evE, evAnd, c1, bind_ok, hq]
      · show evAnd _ _ _ _ _ = _
        rw [evAnd, c2, bind_ok]; rfl
      · exact nofun
  have skip : (decide (num % 7 = 3) && !(rows.map rowD).isEmpty) = false → exS C bz (.ite (.and [(.cmp .eq (.op .mod (.var 6) (.int 7)) (.int 3)), (.cmp .ne (.var 4) (.lst false []))])
        [.asgT [6, 7, 8] (.ix (.var 4) (.int 0)),
         .asgI (.var 4) (.int 0) (.tup [(.var 6), (.int 9999), (.var 8)]),
         .expr (.meth (.var 3) 22 true [(.var 6), (.int 9999), (.var 8)])]
        []) env s = .ok (.nx env) s := fun hq => by
    rw [exS, hcond, hq, bind_ok, asB_ok, of_ok]
    simp only [Bool.false_eq_true, if_false, exSs]
  cases rows with
  | nil => exact ⟨s, u, eld, [], some (.int num), e7, e8, skip (by simp), hd, h3, hu, by omega, rfl, hg, ho, hed⟩
  | cons r0 rest =>
    by_cases hc : num % 7 = 3
    · let env1 := lawEnv v0 fd nm coming (some (.int r0.n)) (some (.int r0.day)) (some (.tup r0.deed)) e9
      let r1 : Row := ⟨r0.n, 9999, r0.deed⟩
      let s1 : Sto := s.set 3 (.lst ((r1 :: rest).map rowD))
      have q1 : exS C bz (.asgT [6, 7, 8] (.ix (.var 4) (.int 0))) env s = .ok (.nx env1) s := by
        have hx : ixV s (.ref 3) (.int 0) = .ok (rowD r0) s := ix_ref (j := 0) h3 rfl
        have : evE C bz (.ix (.var 4) (.int 0)) env s = .ok (rowD r0) s := by rw [evE, h4, bind_ok, evE, bind_ok, hx]
        rw [exS, this, of_ok]; rfl
      have q2 : exS C bz (.asgI (.var 4) (.int 0) (.tup [(.var 6), (.int 9999), (.var 8)])) env1 s = .ok (.nx env1) s1 := by
        have h4' : evE C bz (.var 4) env1 s = .ok (.ref 3) s := ev_var rfl
        have hi : evE C bz (.int 0) env1 s = .ok (.int 0) s := by rw [evE]
        have ht : evE C bz (.tup [(.var 6), (.int 9999), (.var 8)]) env1 s = .ok (rowD r1) s := by
          have a6 : evE C bz (.var 6) env1 s = .ok (.int r0.n) s := ev_var rfl
          have a8 : evE C bz (.var 8) env1 s = .ok (.tup r0.deed) s := ev_var rfl
          have a9 : evE C bz (.int 9999) env1 s = .ok (.int 9999) s := by rw [evE]
          have L3 : ∀ {a b c : D}, decide (([a, b, c] : List D).length ≤ LIM) = true := by intros; exact decide_eq_true (p := _ ≤ LIM) (show (3 : Nat) ≤ LIM by decide)
          simp only [evE.eq_def C bz (.tup ..), evEs, a6, a8, a9, bind_ok, L3, if_true]
          rfl
        have hset : setIx bz s (.ref 3) (.int 0) (rowD r1) = some s1 := by
          have hix : ixN ((r0 :: rest).map rowD).length 0 = some 0 := by simp [ixN]
          simp only [setIx, canz, if_true, h3, hix]
          rfl
        rw [exS, ht, of_ok, h4', of_ok, hi, of_ok, hset]
      have hd1 : Dia s1 0 1 u (r0 :: rest) coming eld [] := hd.set _ (by decide) (by decide) (by omega)
      have ok : ∀ r ∈ r0 :: rest, RowOk r := fun r hr => (hg r hr).ok (by omega)
      have g0 := hg r0 (List.mem_cons_self ..)
      obtain ⟨s2, hm, hd2, hf, hl2⟩ := m_correct 8 s1 hd1 ok (by omega) (by omega) (first_of ho (j := 0) (r := r0) rfl) 9999 r0.deed ⟨by decide, by decide, g0.e.deed⟩
      have h22 : txt.meth 18 22 = some 44 := rfl
      have hm' : call txt 11 44 bz [.ref 0, .int r0.n, .int 9999, .tup r0.deed] s1 = .ok .non s2 := hm
      have q3 : exS C bz (.expr (.meth (.var 3) 22 true [(.var 6), (.int 9999), (.var 8)])) env1 s1 = .ok (.nx env1) s2 := by
        have a3 : evE C bz (.var 3) env1 s1 = .ok (.ref 0) s1 := ev_var rfl
        have a6 : evE C bz (.var 6) env1 s1 = .ok (.int r0.n) s1 := ev_var rfl
        have a8 : evE C bz (.var 8) env1 s1 = .ok (.tup r0.deed) s1 := ev_var rfl
        have a9 : evE C bz (.int 9999) env1 s1 = .ok (.int 9999) s1 := by rw [evE]
        have : evE C bz (.meth (.var 3) 22 true [(.var 6), (.int 9999), (.var 8)]) env1 s1 = .ok .non s2 := by
          simp only [evE.eq_def C bz (.meth ..), a3, bind_ok, hd1.self, evEs, a6, a8, a9, if_true]
          exact hm'
        rw [exS, this, of_ok]
      refine ⟨s2, s1.length, _, r1 :: rest, some (.int r0.n), some (.int r0.day), some (.tup r0.deed), ?_, hd2, hf 3 _ (set_at h3) (by decide) (by decide), ?_, by simp, rfl, fun r hr => ?_, ?_, dat_snoc hed (fun r hr => (hg r hr).e.deed) _⟩
      · show exS C bz _ env s = .ok (.nx env1) s2
        have hq : (decide (num % 7 = 3) && !((r0 :: rest).map rowD).isEmpty) = true := by rw [decide_eq_true hc]; rfl
        rw [exS, hcond, hq, bind_ok, asB_ok, of_ok, if_pos rfl, exSs, q1, seq_nx, exSs, q2, seq_nx, exSs, q3, seq_nx, exSs]
      · show 3 < (s.set 3 _).length
        rw [List.length_set]; exact lt_of_get h3
      · rcases List.mem_cons.mp hr with rfl | hr
        · exact ⟨g0.n1, g0.n2, ⟨(by decide : (1 : Int) ≤ 9999), (by decide : (9999 : Int) ≤ 9999), g0.e.deed⟩⟩
        · exact hg r (List.mem_cons_of_mem _ hr)
      · rw [List.pairwise_cons] at ho ⊢
        exact ho
    · exact ⟨s, u, eld, r0 :: rest, some (.int num), e7, e8, skip (by rw [decide_eq_false hc]; rfl), hd, h3, hu, by omega, rfl, hg, ho, hed⟩

theorem law_pages_if (d : Nat) (env : Env) (s : Sto) {k : Nat} {rows : List Row} {coming : Int} {u : Nat} {eld und : List D} (h : Inv s k rows coming u eld und) (hk : k ≤ 60)
    (e3 : env[3]? = some (some (.ref 0))) (e4 : env[4]? = some (some (.ref 3))) (e5 : env[5]? = some (some (.int coming))) (xs : List Int) (e1 : env[1]? = some (some (.lst (xs.map .int)))) (hx : 2 ≤ xs.length) :
    exS (ctx txt (d + 6)) bz (.ite (.and [(.cmp .eq (.op .mod (.ix (.var 1) (.int 1)) (.int 3)) (.int 0)), (.not (.call 50 false [(.call 92 false [(.var 3)]), (.call 102 false [(.var 4), (.var 5)])]))])
        [.ret (.bl false)]
        []) env s = .ok (.nx env) s := by
  have hp := pages_same d bz env s h hk e3 e4 e5
  obtain ⟨a, ha⟩ : ∃ a, ixV s (.lst (xs.map D.int)) (.int 1) = .ok (.int a) s := by
    have : 1 < xs.length := by omega
    exact ⟨xs[1], ix_lst (j := 1) (by rw [List.getElem?_map, List.getElem?_eq_getElem this]; rfl)⟩
  have md : opV s .mod (.int a) (.int 3) = .ok (.int (a % 3)) s := mod_ii s (by decide)
  have c1 : evE (ctx txt (d + 6)) bz (.cmp .eq (.op .mod (.ix (.var 1) (.int 1)) (.int 3)) (.int 0)) env s = .ok (.bl (decide (a % 3 = 0))) s := by
    simp only [evE, e1, bind_ok, ha, md, eq_ii]
  have c2 : evE (ctx txt (d + 6)) bz (.not (.call 50 false [(.call 92 false [(.var 3)]), (.call 102 false [(.var 4), (.var 5)])])) env s = .ok (.bl false) s := by
    rw [evE, hp]; rfl
  have c3 : evE (ctx txt (d + 6)) bz (.and [(.cmp .eq (.op .mod (.ix (.var 1) (.int 1)) (.int 3)) (.int 0)), (.not (.call 50 false [(.call 92 false [(.var 3)]), (.call 102 false [(.var 4), (.var 5)])]))]) env s = .ok (.bl false) s := by
    cases hq : decide (a % 3 = 0)
    · rw [evE, evAnd, c1, bind_ok, hq]
      exact nofun
    · rw [evE, evAnd, c1, bind_ok, hq]
      · show evAnd _ _ _ _ _ = _
        rw [evAnd, c2, bind_ok]
      · exact nofun
  rw [exS, c3, bind_ok, asB_ok, of_ok]
  simp only [Bool.false_eq_true, if_false, exSs]
theorem law_turn (v0 nm : D) (xs : List Int) (hx : 2 ≤ xs.length) {s : Sto} {k : Nat} {rows : List Row} {coming : Int} {u : Nat} {eld und : List D} (h : Inv s k rows coming u eld und) (hk : k ≤ 50) (num : Int) (r : Row) (hr : FreeOk r) (e9 : Option D) :
    ∃ s' rows' u' eld' e6' e7' e8', exSs (ctx txt 11) bz [.ite (.not (.call 50 false [(.meth (.var 3) 20 true [(.var 7), (.var 8)]), (.var 5)]))
        [.ret (.bl false)]
        [],
      .expr (.bm .append (.var 4) [(.tup [(.var 5), (.var 7), (.var 8)])]),
      .asg 5 (.op .add (.var 5) (.int 1)),
      .ite (.cmp .eq (.op .mod (.var 6) (.int 5)) (.int 4))
        [.expr (.meth (.var 3) 21 true [(.ix (.bm .pop (.var 4) []) (.int 0))])]
        [],
      .ite (.and [(.cmp .eq (.op .mod (.var 6) (.int 7)) (.int 3)), (.cmp .ne (.var 4) (.lst false []))])
        [.asgT [6, 7, 8] (.ix (.var 4) (.int 0)),
         .asgI (.var 4) (.int 0) (.tup [(.var 6), (.int 9999), (.var 8)]),
         .expr (.meth (.var 3) 22 true [(.var 6), (.int 9999), (.var 8)])]
        [],
      .ite (.and [(.cmp .eq (.op .mod (.ix (.var 1) (.int 1)) (.int 3)) (.int 0)), (.not (.call 50 false [(.call 92 false [(.var 3)]), (.call 102 false [(.var 4), (.var 5)])]))])
        [.ret (.bl false)]
        []] (lawEnv v0 (.lst (xs.map .int)) nm coming (some (.int num)) (some (.int r.day)) (some (.tup r.deed)) e9) s =
      .ok (.nx (lawEnv v0 (.lst (xs.map .int)) nm (coming + 1) e6' e7' e8' e9)) s' ∧ Inv s' (k + 1) rows' (coming + 1) u' eld' [] := by
  obtain ⟨s1, u1, q1, hd1, h31, hu1⟩ := law_enter v0 (.lst (xs.map .int)) nm h hk num r hr e9
  let rw_ : Row := ⟨coming, r.day, r.deed⟩
  have hcom := h.com
  have hnew : RowG (coming + 1) rw_ := ⟨by show 1 ≤ coming; omega, by show coming < coming + 1; omega, ⟨hr.day1, hr.day2, hr.deed⟩⟩
  have hg1 : ∀ x ∈ rows ++ [rw_], RowG (coming + 1) x := fun x hx => by
    rcases List.mem_append.mp hx with hx | hx
    · exact (h.all x hx).mono
    · cases List.mem_singleton.mp hx; exact hnew
  have ho1 : (rows ++ [rw_]).Pairwise (fun a b => a.n < b.n) := by
    rw [List.pairwise_append]
    refine ⟨h.ord, List.pairwise_singleton _ _, fun a ha b hb => ?_⟩
    cases List.mem_singleton.mp hb
    exact (h.all a ha).n2
  have ok1 : ∀ x ∈ rows ++ [rw_], RowOk x := fun x hx => (hg1 x hx).ok (by omega)
  have hfew := h.few
  have held := h.elen
  obtain ⟨s2, u2, eld2, rows2, q2, hd2, h32, hu2, hl2, hr2, hed2⟩ := law_strike v0 (.lst (xs.map .int)) nm (k := k) hd1 h31 hu1 ok1 ho1 (by omega) (by simp; omega) num (some (.int r.day)) (some (.tup r.deed)) e9 (dat_snoc h.dat (fun r hr => (h.all r hr).e.deed) _) (fun x hx => (hg1 x hx).e.deed)
  have hg2 : ∀ x ∈ rows2, RowG (coming + 1) x := by
    rcases hr2 with rfl | rfl
    · exact fun x hx => (h.all x hx).mono
    · exact hg1
  have ho2 : rows2.Pairwise (fun a b => a.n < b.n) := by
    rcases hr2 with rfl | rfl
    · exact h.ord
    · exact ho1
  have hlen2 : rows2.length ≤ k + 1 := by
    rcases hr2 with rfl | rfl
    · omega
    · simp; omega
  rw [List.length_append, List.length_singleton] at hl2
  obtain ⟨s3, u3, eld3, rows3, e6, e7, e8, q3, hd3, h33, hu3, hl3, hlen3, hg3, ho3, hed3⟩ := law_correct v0 (.lst (xs.map .int)) nm hd2 h32 hu2 hg2 (by omega) ho2 (by omega) (by omega) num (some (.int r.day)) (some (.tup r.deed)) e9 hed2
  have hI : Inv s3 (k + 1) rows3 (coming + 1) u3 eld3 [] := ⟨hd3, h33, Or.inl hu3, by omega, by omega, by omega, ho3, hg3, hed3⟩
  have q4 := law_pages_if 5 (lawEnv v0 (.lst (xs.map .int)) nm (coming + 1) e6 e7 e8 e9) s3 hI (by omega) rfl rfl rfl xs rfl hx
  refine ⟨s3, rows3, u3, eld3, e6, e7, e8, ?_, hI⟩
  have join3 : ∀ (a b c : S) (rest : List S) (env1 env2 : Env) (t1 t2 : Sto), exSs (ctx txt 11) bz [a, b, c] env1 t1 = .ok (.nx env2) t2 → exSs (ctx txt 11) bz (a :: b :: c :: rest) env1 t1 = exSs (ctx txt 11) bz rest env2 t2 := by
    intro a b c rest env1 env2 t1 t2 hh
    simp only [exSs] at hh ⊢
    cases ha : exS (ctx txt 11) bz a env1 t1 with
    | ok f s' =>
      cases f with
      | nx e' =>
        rw [ha, seq_nx] at hh
        rw [seq_nx]
        cases hb : exS (ctx txt 11) bz b e' s' with
        | ok f s'' =>
          cases f with
          | nx e'' =>
            rw [hb, seq_nx] at hh
            rw [seq_nx]
            cases hc : exS (ctx txt 11) bz c e'' s'' with
            | ok f s3 =>
              cases f with
              | nx e3 => rw [hc, seq_nx] at hh; cases hh; rfl
              | rt x => rw [hc] at hh; cases hh
            | exn => rw [hc] at hh; cases hh
            | bad => rw [hc] at hh; cases hh
          | rt x => rw [hb] at hh; cases hh
        | exn => rw [hb] at hh; cases hh
        | bad => rw [hb] at hh; cases hh
      | rt x => rw [ha] at hh; cases hh
    | exn => rw [ha] at hh; cases hh
    | bad => rw [ha] at hh; cases hh
  rw [join3 _ _ _ _ _ _ _ _ q1, exSs, q2, seq_nx, exSs, q3, seq_nx, exSs, q4, seq_nx, exSs]
theorem hm (ns : List Int) (hn : ns.length ≤ 63) : ∃ st, MP.call txt 12 lawId ⟨0, []⟩ [.scr (ns.map D.int)] [] = .ok (.bl true) st := by
  show ∃ st, MP.call txt 12 105 bz _ [] = _
  rw [call_eq (F := f105) rfl rfl]
  let C := ctx txt 11
  let v0 : D := .scr (ns.map D.int)
  obtain ⟨xs, sf, hfeed, hx, hxl⟩ := feed 10 [] ns hn 470 (by decide)
  let fd : D := .lst (xs.map .int)
  have p1 : exS C bz (.asg 1 (.call 49 false [(.var 0), (.int 470)])) [some v0, none, none, none, none, none, none, none, none, none] [] = .ok (.nx [some v0, some fd, none, none, none, none, none, none, none, none]) [] := by
    have hv : evE C bz (.var 0) [some v0, none, none, none, none, none, none, none, none, none] [] = .ok v0 [] := ev_var rfl
    have hi : evE C bz (.int 470) [some v0, none, none, none, none, none, none, none, none, none] [] = .ok (.int 470) [] := by rw [evE]
    have hf : mapO (frz 0 59 sf) (xs.map D.int) = some (xs.map D.int) := mapO_id fun x hx => by
      obtain ⟨y, _, rfl⟩ := List.mem_map.mp hx
      rfl
    have hs : shut [] (C.call 49 (shutBar []) [v0, .int 470] []) = .ok fd [] := by
      rw [show C.call 49 (shutBar []) [v0, .int 470] [] = .ok (.lst (xs.map .int)) sf from hfeed]
      simp only [shut, List.length_nil, frz, hf, Option.map_some, fd]
    rw [exS, evE, evEs, hv, bind_ok, evEs, hi, bind_ok, evEs, bind_ok, bind_ok, bind_ok]
    simp only [Bool.false_eq_true, if_false, hs, of_ok, List.set_cons_succ, List.set_cons_zero]
  obtain ⟨a0, a1, a2, a3, ha⟩ : ∃ a0 a1 a2 a3, (xs.drop 2).take 4 = [a0, a1, a2, a3] := by
    have : ((xs.drop 2).take 4).length = 4 := by rw [List.length_take, List.length_drop]; omega
    match (xs.drop 2).take 4, this with
    | [a, b, c, d], _ => exact ⟨a, b, c, d, rfl⟩
  have hin : ∀ x ∈ [a0, a1, a2, a3], 0 ≤ x ∧ x < 1000003 := fun x h => by
    rw [← ha] at h
    exact hx x (List.mem_of_mem_drop (List.mem_of_mem_take h))
  simp only [List.forall_mem_cons] at hin
  obtain ⟨g0, g1, g2, g3, _⟩ := hin
  obtain ⟨nms, hnames, hnl, hnz⟩ := names 10 [] a0 a1 a2 a3 [] g0 g1 g2 g3 8 (by decide)
  let nm : D := .lst (nms.map .str)
  have p2 : exS C bz (.asg 2 (.call 51 false [(.sl (.var 1) [(.int 2)] [(.int 6)]), (.int 8)])) [some v0, some fd, none, none, none, none, none, none, none, none] [] = .ok (.nx [some v0, some fd, some nm, none, none, none, none, none, none, none]) [] := by
    have hsl : slV [] fd (some 2) (some 6) = .ok (.lst [.int a0, .int a1, .int a2, .int a3]) [] := by
      have := cut_mid (xs.map D.int) 2 6 (by decide) (by rw [List.length_map]; omega)
      show Res.ok (D.lst (cut (xs.map D.int) (some ((2 : Nat) : Int)) (some ((6 : Nat) : Int)))) [] = _
      rw [this, ← List.map_drop, ← List.map_take, show 6 - 2 = 4 from rfl, ha]
      rfl
    have hsl2 : evE C bz (.sl (.var 1) [(.int 2)] [(.int 6)]) [some v0, some fd, none, none, none, none, none, none, none, none] [] = .ok (.lst [.int a0, .int a1, .int a2, .int a3]) [] := by
      simp only [evE, evBd, asI, List.getElem?_cons_succ, List.getElem?_cons_zero, bind_ok, hsl]
    have hi : evE C bz (.int 8) [some v0, some fd, none, none, none, none, none, none, none, none] [] = .ok (.int 8) [] := by rw [evE]
    have hs : shut [] (C.call 51 (shutBar []) [.lst [.int a0, .int a1, .int a2, .int a3], .int 8] []) = .ok nm [] := hnames
    rw [exS, evE, evEs, hsl2, bind_ok, evEs, hi, bind_ok, evEs, bind_ok, bind_ok, bind_ok]
    simp only [Bool.false_eq_true, if_false, hs, of_ok, List.set_cons_succ, List.set_cons_zero]
  obtain ⟨s3, hinit, hdia, _, hl3⟩ := m_init 10 []
  have p3 : exS C bz (.asg 3 (.make 18 [])) [some v0, some fd, some nm, none, none, none, none, none, none, none] [] = .ok (.nx [some v0, some fd, some nm, some (.ref 0), none, none, none, none, none, none]) s3 := by
    have hmk : evE C bz (.make 18 []) [some v0, some fd, some nm, none, none, none, none, none, none, none] [] = .ok (.ref 0) s3 := by
      have hc : C.call 38 bz [.ref 0] [.ins 18 []] = .ok .non s3 := hinit
      have hi : C.init 18 = some 38 := rfl
      rw [evE, evEs, bind_ok, hi]
      simp only [List.length_nil, List.nil_append, hc]
    rw [exS, hmk, of_ok]; rfl
  have hl3' : s3.length = 3 := hl3
  have L0 : decide (([] : List D).length ≤ LIM) = true := by decide
  let s4 : Sto := s3 ++ [.lst []]
  have p4 : exS C bz (.asg 4 (.lst true [])) [some v0, some fd, some nm, some (.ref 0), none, none, none, none, none, none] s3 = .ok (.nx [some v0, some fd, some nm, some (.ref 0), some (.ref 3), none, none, none, none, none]) s4 := by
    simp only [exS, evE, evEs, bind_ok, L0, if_true, newL, of_ok, hl3', List.set_cons_succ, List.set_cons_zero, s4]
  have p5 : exS C bz (.asg 5 (.int 1)) [some v0, some fd, some nm, some (.ref 0), some (.ref 3), none, none, none, none, none] s4 = .ok (.nx (lawEnv v0 fd nm 1 none none none none)) s4 := rfl
  have hI0 : Inv s4 0 [] 1 2 [] [] := by
    have h3 : s4[3]? = some (.lst []) := by
      have := get_end s3 (.lst [])
      rw [hl3'] at this
      exact this
    exact ⟨⟨app_at hdia.self, app_at hdia.eld, app_at hdia.und, hdia.ie, hdia.iu, hdia.eu⟩, h3, Or.inr rfl, Nat.le_refl _, Nat.le_refl _, rfl, List.Pairwise.nil, (fun _ h => nomatch h), fun _ h => nomatch h⟩
  -- the rows
  have hx0 : ∃ b0, xs[0]? = some b0 := ⟨xs[0]'(by omega), List.getElem?_eq_getElem (by omega)⟩
  obtain ⟨b0, hb0⟩ := hx0
  have hb0' := hx b0 (List.mem_of_getElem? hb0)
  have hm0 : 0 ≤ b0 % 41 := Int.emod_nonneg _ (by decide)
  have hm1 : b0 % 41 < 41 := Int.emod_lt_of_pos _ (by decide)
  obtain ⟨frs, xx, hfr, hfok, hfl⟩ := free_rows 9 s4 (xs.drop 10) (fun x h => hx x (List.mem_of_mem_drop h)) nms hnl hnz (b0 % 41).toNat (by rw [List.length_drop]; omega) (by omega)
  have hsrc : evE C bz (.ix (.call 104 false [(.sl (.var 1) [(.int 10)] []), (.var 2), (.op .mod (.ix (.var 1) (.int 0)) (.int 41))]) (.int 0)) (lawEnv v0 fd nm 1 none none none none) s4 = .ok (.lst (frs.map rowD)) s4 := by
    let env := lawEnv v0 fd nm 1 none none none none
    have v1 : evE C bz (.var 1) env s4 = .ok fd s4 := ev_var rfl
    have v2 : evE C bz (.var 2) env s4 = .ok nm s4 := ev_var rfl
    have hsl : slV s4 fd (some 10) none = .ok (.lst ((xs.drop 10).map .int)) s4 := by
      show Res.ok (D.lst (cut (xs.map D.int) (some ((10 : Nat) : Int)) none)) s4 = _
      rw [cut_from, List.map_drop]
    have e1 : evE C bz (.sl (.var 1) [(.int 10)] []) env s4 = .ok (.lst ((xs.drop 10).map .int)) s4 := by
      simp only [evE.eq_def C bz (.sl ..), v1, evBd, evE.eq_def C bz (.int ..), asI, bind_ok, hsl]
    have hx0 : ixV s4 fd (.int 0) = .ok (.int b0) s4 := ix_lst (j := 0) (by rw [List.getElem?_map, hb0]; rfl)
    have hmd : opV s4 .mod (.int b0) (.int 41) = .ok (.int (b0 % 41)) s4 := mod_ii s4 (by decide)
    have e2 : evE C bz (.op .mod (.ix (.var 1) (.int 0)) (.int 41)) env s4 = .ok (.int (b0 % 41)) s4 := by
      simp only [evE.eq_def C bz (.op ..), evE.eq_def C bz (.ix ..), evE.eq_def C bz (.int ..), v1, bind_ok, hx0, hmd]
    have hcall : evE C bz (.call 104 false [(.sl (.var 1) [(.int 10)] []), (.var 2), (.op .mod (.ix (.var 1) (.int 0)) (.int 41))]) env s4 = .ok (.tup [.lst (frs.map rowD), .int xx]) s4 := by
      rw [evE, evEs, e1, bind_ok, evEs, v2, bind_ok, evEs, e2, bind_ok, evEs, bind_ok, bind_ok, bind_ok, bind_ok]
      simp only [Bool.false_eq_true, if_false]
      rw [Int.toNat_of_nonneg hm0] at hfr
      exact hfr
    rw [evE, hcall, bind_ok, evE, bind_ok]; rfl
  obtain ⟨env5, s5, f5, rows5, coming5, u5, eld5, und5, e6, e7, e8, rfl, hI5⟩ := for_inv (tg := [6, 7, 8]) (one := false) (body := fun e s => exSs C (walkLo bz [.lst (frs.map rowD)]) [.ite (.not (.call 50 false [(.meth (.var 3) 20 true [(.var 7), (.var 8)]), (.var 5)]))
        [.ret (.bl false)]
        [],
      .expr (.bm .append (.var 4) [(.tup [(.var 5), (.var 7), (.var 8)])]),
      .asg 5 (.op .add (.var 5) (.int 1)),
      .ite (.cmp .eq (.op .mod (.var 6) (.int 5)) (.int 4))
        [.expr (.meth (.var 3) 21 true [(.ix (.bm .pop (.var 4) []) (.int 0))])]
        [],
      .ite (.and [(.cmp .eq (.op .mod (.var 6) (.int 7)) (.int 3)), (.cmp .ne (.var 4) (.lst false []))])
        [.asgT [6, 7, 8] (.ix (.var 4) (.int 0)),
         .asgI (.var 4) (.int 0) (.tup [(.var 6), (.int 9999), (.var 8)]),
         .expr (.meth (.var 3) 22 true [(.var 6), (.int 9999), (.var 8)])]
        [],
      .ite (.and [(.cmp .eq (.op .mod (.ix (.var 1) (.int 1)) (.int 3)) (.int 0)), (.not (.call 50 false [(.call 92 false [(.var 3)]), (.call 102 false [(.var 4), (.var 5)])]))])
        [.ret (.bl false)]
        []] e s)
    (fun k e s => ∃ (rows : List Row) (coming : Int) (u : Nat) (eld und : List D) (e6 e7 e8 : Option D), e = lawEnv v0 fd nm coming e6 e7 e8 none ∧ Inv s k rows coming u eld und) (frs.map rowD) 0
    (lawEnv v0 fd nm 1 none none none none) s4 ⟨[], 1, 2, [], [], none, none, none, rfl, hI0⟩ (fun k dd e s hk hI => by
      obtain ⟨rows, coming, u, eld, und, e6, e7, e8, rfl, hI⟩ := hI
      have hkl := (List.getElem?_eq_some_iff.mp hk).1
      rw [List.length_map] at hkl
      rw [List.getElem?_map, List.getElem?_eq_getElem hkl] at hk
      cases hk
      rw [Nat.zero_add] at hI
      obtain ⟨s', rows', u', eld', e6', e7', e8', hq, hI'⟩ := law_turn v0 nm xs (by omega) hI (by omega) (frs[k]).n frs[k] (hfok _ (List.getElem_mem hkl)) none
      exact ⟨_, _, s', rfl, hq, rows', _, u', eld', [], e6', e7', e8', rfl, by rw [Nat.zero_add]; exact hI'⟩)
  have p6 := ex_for (C := C) (bar := bz) (k := .val) (evs_cons hsrc evs_nil) (rfl : itemsV _ .val [.lst (frs.map rowD)] = some (frs.map rowD)) f5
  rw [Nat.zero_add, List.length_map] at hI5
  have hk5 : frs.length ≤ 40 := by omega
  let env5 := lawEnv v0 fd nm coming5 e6 e7 e8
  have hpg : ∀ (bar : Bar) (e9 : Option D), exSs C bar [.ite (.not (.call 50 false [(.call 92 false [(.var 3)]), (.call 102 false [(.var 4), (.var 5)])])) [.ret (.bl false)] []] (env5 e9) s5 = .ok (.nx (env5 e9)) s5 := fun bar e9 => by
    have hp : evE C bar (.call 50 false [(.call 92 false [(.var 3)]), (.call 102 false [(.var 4), (.var 5)])]) (env5 e9) s5 = .ok (.bl true) s5 := pages_same 5 bar (env5 e9) s5 hI5 (by omega) rfl rfl rfl
    rw [exSs, exS, evE, hp]
    simp only [bind_ok, Bool.not_true, asB_ok, of_ok, Bool.false_eq_true, if_false, exSs, seq_nx]
  have p7 : exS C bz (.forr [9] true .range1 [(.int 2)] [.ite (.not (.call 50 false [(.call 92 false [(.var 3)]), (.call 102 false [(.var 4), (.var 5)])])) [.ret (.bl false)] []]) (env5 none) s5 = .ok (.nx (env5 (some (.int 1)))) s5 := by
    refine ex_for (xs := [.int 2]) (ds := [.int 0, .int 1]) rfl rfl ?_
    have t : ∀ (e9 : Option D) (i : Int), bindT true [9] (env5 e9) (.int i) = some (env5 (some (.int i))) := fun _ _ => rfl
    rw [forRun, t]
    simp only [hpg, seq_nx]
    rw [forRun, t]
    simp only [hpg, seq_nx]
    rw [forRun]
  -- one deed more, and back
  let env6 := env5 (some (.int 1))
  obtain ⟨z0, hz0, hz0'⟩ : ∃ z, nms[0]? = some z ∧ NameOk z := ⟨nms[0]'(by omega), List.getElem?_eq_getElem (by omega), hnz _ (List.getElem_mem _)⟩
  have hcut : DeedG [.str "cut", .str z0] := ⟨"cut", "n", [.str z0], rfl, by decide, .of rfl rfl (show (1 : Nat) ≤ 9 by decide) ⟨Or.inl ⟨rfl, hz0'⟩, trivial⟩⟩
  have hrl := hI5.few
  have hel := hI5.elen
  obtain ⟨s6, hc6, hd6, hf6, hl6⟩ := m_enter 8 s5 hI5.dia (hI5.ok (by omega)) (by omega) (by omega) 5 [.str "cut", .str z0] ⟨by decide, by decide, hcut⟩
  have p8 : exS C bz (.expr (.meth (.var 3) 20 true [(.int 5), (.tup [(.str "cut"), (.ix (.var 2) (.int 0))])])) env6 s5 = .ok (.nx env6) s6 := by
    have v3 : evE C bz (.var 3) env6 s5 = .ok (.ref 0) s5 := ev_var rfl
    have v2 : evE C bz (.var 2) env6 s5 = .ok nm s5 := ev_var rfl
    have hx0 : ixV s5 nm (.int 0) = .ok (.str z0) s5 := ix_lst (j := 0) (by rw [List.getElem?_map, hz0]; rfl)
    have L2 : ∀ {a b : D}, decide (([a, b] : List D).length ≤ LIM) = true := by intros; exact decide_eq_true (p := _ ≤ LIM) (show (2 : Nat) ≤ LIM by decide)
    have ht : evE C bz (.tup [(.str "cut"), (.ix (.var 2) (.int 0))]) env6 s5 = .ok (.tup [.str "cut", .str z0]) s5 := by
      simp only [evE.eq_def C bz (.tup ..), evE.eq_def C bz (.ix ..), evE.eq_def C bz (.str ..), evE.eq_def C bz (.int ..), evEs, v2, bind_ok, hx0, L2, if_true]
    have h5 : evE C bz (.int 5) env6 s5 = .ok (.int 5) s5 := by rw [evE]
    have : evE C bz (.meth (.var 3) 20 true [(.int 5), (.tup [(.str "cut"), (.ix (.var 2) (.int 0))])]) env6 s5 = .ok (.int coming5) s6 := by
      simp only [evE.eq_def C bz (.meth ..), v3, bind_ok, hI5.dia.self, evEs, h5, ht, if_true]
      exact hc6
    rw [exS, this, of_ok]
  have hdat : DatsOk 60 (eld5 ++ [stateD rows5 coming5]) := .of fun x hx => (dat_snoc hI5.dat (fun r hr => (hI5.all r hr).e.deed) _ x hx).mono (by decide)
  obtain ⟨s7, hc7, hd7, hf7, hl7⟩ := m_back 10 s6 hd6 hdat (by decide)
  have p9 : exS C bz (.expr (.meth (.var 3) 23 true [])) env6 s6 = .ok (.nx env6) s7 := by
    have v3 : evE C bz (.var 3) env6 s6 = .ok (.ref 0) s6 := ev_var rfl
    have : evE C bz (.meth (.var 3) 23 true []) env6 s6 = .ok .non s7 := by
      simp only [evE.eq_def C bz (.meth ..), v3, bind_ok, hd6.self, evEs, if_true]
      exact hc7
    rw [exS, this, of_ok]
  have hlaw7 : s7[3]? = some (.lst (rows5.map rowD)) := hf7 3 _ (hf6 3 _ hI5.law (by decide) (by decide)) (by decide) (by decide) (by have := lt_of_get hI5.law; omega)
  have hI7 : Inv s7 frs.length rows5 coming5 s5.length eld5 _ := ⟨hd7, hlaw7, Or.inl (lt_of_get hI5.law), hI5.few, hI5.elen, hI5.com, hI5.ord, hI5.all, hI5.dat⟩
  have p10 : exS C bz (.ret (.and [(.call 50 false [(.call 92 false [(.var 3)]), (.call 102 false [(.var 4), (.var 5)])]), (.call 50 false [(.meth (.var 3) 19 false []), (.var 4)])])) env6 s7 = .ok (.rt (.bl true)) s7 := by
    have hp : evE C bz (.call 50 false [(.call 92 false [(.var 3)]), (.call 102 false [(.var 4), (.var 5)])]) env6 s7 = .ok (.bl true) s7 := pages_same 5 bz env6 s7 hI7 (by omega) rfl rfl rfl
    have v4 : evE C bz (.var 4) env6 s7 = .ok (.ref 3) s7 := ev_var rfl
    have v3 : evE C bz (.var 3) env6 s7 = .ok (.ref 0) s7 := ev_var rfl
    have hr : evE C bz (.meth (.var 3) 19 false []) env6 s7 = .ok (.lst (rows5.map rowD)) s7 := by
      have := m_rows_shut 10 s7 hI7.dia.diaR (hI7.ok (by omega))
      simp only [evE.eq_def C bz (.meth ..), v3, bind_ok, hd7.self, evEs, Bool.false_eq_true, if_false]
      exact this
    have hs : call txt 11 50 (shutBar s7) [.lst (rows5.map rowD), .ref 3] s7 = .ok (.bl true) s7 := same_list 9 (shutBar s7) s7 3 _ hlaw7 (fun x hx bar => by
      obtain ⟨r, hr, rfl⟩ := List.mem_map.mp hx
      exact row_same 5 bar s7 (hI7.ok (by omega) r hr)) (by rw [List.length_map]; omega)
    have h2 : evE C bz (.call 50 false [(.meth (.var 3) 19 false []), (.var 4)]) env6 s7 = .ok (.bl true) s7 := by
      rw [evE, evEs, hr, bind_ok, evEs, v4, bind_ok, evEs, bind_ok, bind_ok, bind_ok]
      exact congrArg (shut s7) hs
    rw [exS, evE, evAnd, hp, bind_ok]
    · show SR.of env6 (evAnd _ _ _ _ _) _ = _
      rw [evAnd, h2, bind_ok]; rfl
    · exact nofun
  refine ⟨s7, ?_⟩
  show fin (exSs C bz f105.body [some v0, none, none, none, none, none, none, none, none, none] []) = _
  unfold f105
  rw [exSs, p1, seq_nx, exSs, p2, seq_nx, exSs, p3, seq_nx, exSs, p4, seq_nx, exSs, p5, seq_nx, exSs, p6, seq_nx, exSs]
  rw [show lawEnv v0 fd nm coming5 e6 e7 e8 none = env5 none from rfl, p7, seq_nx, exSs]
  rw [show env5 (some (.int 1)) = env6 from rfl, p8, seq_nx, exSs, p9, seq_nx, exSs, p10, seq_rt, fin_rt]

end MP.k45
namespace MP.k45
open PySem PySem.Spec PyProof.Rows L2 MP

theorem runF (w : World) : HandSHeadRun.RunEq R (PySem.W.view R.prog [64]) hk ob 100000 loose (w.withFollow "special-get-raises" false) := by
  intro os
  kernel_rfl
theorem runT (w : World) : HandSHeadRun.RunEq R (PySem.W.view R.prog [64]) hk ob 100000 loose (w.withFollow "special-get-raises" true) := by
  intro os
  kernel_rfl
theorem run (w : World) : HandSHeadRun.RunEq R (PySem.W.view R.prog [64]) hk ob 100000 loose w :=
  PySem.W.byRow2 "special-get-raises" (P := fun w => HandSHeadRun.RunEq R (PySem.W.view R.prog [64]) hk ob 100000 loose w) (fun w => runF w) (fun w => runT w) w
open PySem PySem.W PySem.Calls PyProof.Rows in
theorem holds (hm : ∀ ns : List Int, ns.length ≤ 63 → ∃ st, MP.call txt 12 lawId ⟨0, []⟩ [.scr (ns.map D.int)] [] = .ok (.bl true) st) : PySem.Challenge.rw_dunnage_k45_pages_written.Holds := by
  w_on; o_law
  refine HandSHeadRun.head_any (r := OpenLaw.row PySem.Challenge.rw_dunnage_k45_pages_written) (q := view (OpenLaw.row PySem.Challenge.rw_dunnage_k45_pages_written).prog [64]) (H := hk) (ob := ob) (M := 100000) (loose := loose) (kwd := []) (d := HandSHeadRun.topDef (OpenLaw.row PySem.Challenge.rw_dunnage_k45_pages_written).prog 64)
    ob_eq (by kernel_rfl) (fun s => by kernel_rfl) run (by kernel_rfl) (by kernel_rfl) (by kernel_rfl) (by rfl) (by first | assumption | decide +kernel) (by decide +kernel) ⟨rfl, rfl, rfl, rfl, rfl, by decide +kernel⟩ ?hw ?hc
  case hw => w_witness2
  case hc =>
    refine L2.walk_ofE (l := PySem.Challenge.rw_dunnage_k45_pages_written) (n := 63) (k := 2 * 12 + 1) (x := "_law_script") (CX := MP.CXA) rfl (by decide) (by kernel_rfl) ⟨rfl, by decide, by decide⟩ ?F (fun H s e s' ⟨_, _, _, _, _, _, _, _, _, _, _, _, _, _, z⟩ => z)
    intro w mg fa h Y G hmg0
    obtain ⟨K, KX, c⟩ := Y
    have hmg : mg ("law" : PySem.Str) = some (.ref fa) := by
      have e : (HandSHeadRun.topDef (OpenLaw.row PySem.Challenge.rw_dunnage_k45_pages_written).prog 64).name = ("law" : PySem.Str) := by kernel_rfl
      rw [← e]
      exact hmg0
    have e := hmg.symm.trans (He.glo_ok KX G (c.t.d.fact 15 (f := .glo "law") rfl))
    cases e
    have b := FunD.bindsA (ps := ["_law_script"]) (F105 c) fun _ _ _ _ _ _ us hl => match us, hl with | [_], _ => rfl
    exact ⟨K, fdOf K (faS K lawId), spF (LL (PySem.Challenge.rw_dunnage_k45_pages_written).prog w K mg) txt 12 lawId, KX, fun s v => b s [v] rfl, fun H a ns hl _ hs => law_sp (L := LL (PySem.Challenge.rw_dunnage_k45_pages_written).prog w K mg) rfl hm H a ns hl hs, fun base _ _ => MP.FnOk.all (okAll (P := (PySem.Challenge.rw_dunnage_k45_pages_written).prog) (base := base) KX G c 12 lawId f105 rfl)⟩
end MP.k45
theorem PySem.Challenge.cw_dunnage_k45_pages_written_holds : PySem.Challenge.rw_dunnage_k45_pages_written.Holds := by
  exact MP.k45.holds MP.k45.hm
