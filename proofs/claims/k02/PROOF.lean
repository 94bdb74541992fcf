import PyProof.Rows.All
import HandS.ForExc
import HandS.Wide
import HandS.IsInst
import HandS.Gcd
import HandS.Lambda
import HandS.Dict
import HandS.ExcField
import HandS.Style
import KE.KExcSuper
import HandS.ExcOwn
import HandS.Star
import HandS.HeadHook4
import HandS.EndTab
import HandS.Words
import KE.KStateDown
import HandS.Head0
import HandS.Head1
import HandS.Head2
import HandS.Head3
import PySem.Challenge.RW_deepcounts_k02_errors_of_numbers
import KE.DataEq
set_option Elab.async false
set_option linter.all false
/-! The small evaluator: values as trees, own addresses for lists and dicts. -/
namespace Mn
open PySem

inductive Ty where
  | int | bool | str | tuple | list | dict
  deriving DecidableEq
def Ty.nm : Ty → String
  | .int => "int" | .bool => "bool" | .str => "str" | .tuple => "tuple" | .list => "list" | .dict => "dict"
inductive D where
  | non | bl (b : Bool) | int (i : Int) | str (x : Str) | tup (xs : List D) | ref (n : Nat) | glo (k : Nat) | ty (t : Ty)
inductive O where
  | lst (xs : List D) | rol (xs : List D) | dK (kvs : List (L2.Key × D)) | xd (f : Str) (d : D)
abbrev Hh := List O
abbrev st (l : List Nat) : Str := ⟨l.toArray⟩
/-- a slot: nothing known, a value, a thing that stands aside (by its tag) -/
inductive SV where
  | no | d (x : D) | raw (t : Nat)
abbrev Sl := List SV
inductive R where
  | ok (d : D) (h : Hh) | ex (c : Nat) (f : Option (Str × D)) (h : Hh) | no
inductive RL where
  | ok (ds : List D) (h : Hh) | ex (c : Nat) (f : Option (Str × D)) (h : Hh) | no
inductive RS where
  | nx (σ : Sl) (h : Hh) | rt (d : D) (h : Hh) | bk (σ : Sl) (h : Hh) | ct (σ : Sl) (h : Hh)
  | ex (c : Nat) (f : Option (Str × D)) (σ : Sl) (h : Hh) | no

inductive Bop where
  | add | sub | mul | fdiv | mod | pow
inductive Cop where
  | eq | ne | lt | le | gt | ge | isIn | notIn | is | isNot
inductive Bl where
  | len | all | abs | max | min | int | repr | isi | gcd | any
inductive Me where
  | append
mutual
inductive E where
  | no | var (i : Nat) | non | bl (b : Bool) | int (i : Int) | str (x : Str)
  | gv (k : Nat) | gc (k : Nat) | ty (t : Ty)
  | bin (op : Bop) (a b : E) | neg (a : E)
  | cmp (op : Cop) (a b : E) | chain (o1 o2 : Cop) (a b c : E)
  | and (a b : E) | or (a b : E) | last (a : E) | not (a : E) | ite (c a b : E)
  | tup (es : Es) | lst (es : Es) | dnew
  | call (k : Nat) (es : Es) | callB (b : Bl) (es : Es) | callV (i : Nat) (es : Es)
  | callT (k : Nat) (e : E) | thk (i : Nat)
  | meth (o : E) (m : Me) (es : Es) | ix (a b : E)
  | lc (elt : E) (g : G) (it : It) (own : List Nat)
  | xattr (i : Nat) (f : Str)
inductive Es where
  | nil | cons (e : E) (r : Es)
inductive It where
  | no | seq (e : E) | rng (e : E)
inductive G where
  | no | nm (i : Nat) | tup (gs : Gs) | sub (a b : E)
inductive Gs where
  | nil | cons (g : G) (r : Gs)
end
mutual
inductive S where
  | no | asg (g : G) (e : E) | par (is : List Nat) (es : Es) | aug (i : Nat) (op : Bop) (e : E)
  | expr (e : E) | ret (e : E) | retN | iff (c : E) (a b : Ss) | while (c : E) (b : Ss)
  | for (k : Bool) (g : G) (it : It) (b : Ss) | raise (c : Nat) (es : Es)
  | try (b : Ss) (hs : Hds) | pass | brk | cont
inductive Ss where
  | nil | cons (s : S) (r : Ss)
inductive Hds where
  | nil | cons (c : Nat) (slot : Option Nat) (b : Ss) (r : Hds)
end

def gsLen : Gs → Nat
  | .nil => 0
  | .cons _ r => gsLen r + 1

/-! ### what the operators do -/
def bop : Bop → D → D → Hh → Option (D × Hh)
  | .add, .int i, .int j, h => some (.int (i + j), h)
  | .add, .str x, .str y, h => if x.length + y.length ≤ 1000000 then some (.str (x ++ y), h) else none
  | .add, .ref a, .ref b, h => (match h[a]?, h[b]? with
    | some (.lst xs), some (.lst ys) => if xs.length + ys.length ≤ 1000000 then some (.ref h.length, h ++ [.lst (xs ++ ys)]) else none
    | _, _ => none)
  | .sub, .int i, .int j, h => some (.int (i - j), h)
  | .mul, .int i, .int j, h => if i.natAbs.log2 + j.natAbs.log2 < 1000000 then some (.int (i * j), h) else none
  | .mul, .ref a, .int j, h => (match h[a]? with
    | some (.lst xs) => if 0 ≤ j ∧ j ≤ 1000 ∧ xs.length ≤ 1000 then some (.ref h.length, h ++ [.lst (List.replicate j.toNat xs).flatten]) else none
    | _ => none)
  | .fdiv, .int i, .int j, h => if j ≠ 0 ∧ j.natAbs.log2 < 9000 then some (.int (i.fdiv j), h) else none
  | .mod, .int i, .int j, h => if j ≠ 0 then some (.int (i.fmod j), h) else none
  | .pow, .int i, .int j, h => if 0 ≤ j ∧ j ≤ 1000000 ∧ i.natAbs < 2 ^ 64 then some (.int (i ^ j.toNat), h) else none
  | _, _, _, _ => none

/-- no dict within; or the empty dict alone -/
def dictOk : PyData → Bool
  | .dict [] => true
  | p => !p.hasDict
/-- a value as plain data, where it is such -/
def toP (h : Hh) : Nat → D → Option PyData
  | 0, _ => none
  | n + 1, d => match d with
    | .non => some .none
    | .bl b => some (.bool b)
    | .int i => some (.int i)
    | .str x => some (.str x)
    | .tup xs => (xs.mapM (toP h n)).map .tuple
    | .ref a => (match h[a]? with
      | some (.lst xs) => (xs.mapM (toP h n)).map .list
      | some (.rol xs) => (xs.mapM (toP h n)).map .list
      | some (.dK []) => some (.dict [])
      | _ => none)
    | _ => none
def flat : D → Bool
  | .non => true | .bl _ => true | .int _ => true | .str _ => true | _ => false
def eqF : D → D → Bool
  | .non, .non => true
  | .bl a, .bl b => a == b
  | .bl a, .int b => (if a then 1 else 0) == b
  | .int a, .bl b => a == (if b then 1 else 0)
  | .int a, .int b => a == b
  | .str a, .str b => a == b
  | _, _ => false
def seqOf (h : Hh) : D → Option (List D)
  | .tup xs => some xs
  | .ref a => (match h[a]? with
    | some (.lst xs) => some xs
    | some (.rol xs) => some xs
    | _ => none)
  | _ => none
def deq (h : Hh) (x y : D) : Option Bool := match toP h 60 x, toP h 60 y with
  | some p, some q => if SeqAt.shaped p && SeqAt.shaped q then some (PyData.eqv p q) else none
  | _, _ => none
def din (h : Hh) (x y : D) : Option Bool := match seqOf h y with
  | some xs => if flat x && xs.all flat then some (xs.any fun z => eqF z x) else none
  | none => none
def cop : Cop → D → D → Hh → Option Bool
  | .lt, .int i, .int j, _ => some (decide (i < j))
  | .le, .int i, .int j, _ => some (decide (i ≤ j))
  | .gt, .int i, .int j, _ => some (decide (j < i))
  | .ge, .int i, .int j, _ => some (decide (j ≤ i))
  | .eq, .int i, .int j, _ => some (decide (i = j))
  | .ne, .int i, .int j, _ => some (!decide (i = j))
  | .eq, x, y, h => deq h x y
  | .ne, x, y, h => (deq h x y).map (!·)
  | .isIn, x, y, h => din h x y
  | .notIn, x, y, h => (din h x y).map (!·)
  | .is, x, .non, _ => (match x with | .non => some true | .glo _ => none | .ty _ => none | _ => some false)
  | .isNot, x, .non, _ => (match x with | .non => some false | .glo _ => none | .ty _ => none | _ => some true)
  | _, _, _, _ => none
def ixOf (n : Nat) (i : Int) : Option Nat := if 0 ≤ i then (if i < n then some i.toNat else none) else (if 0 ≤ i + n then some (i + n).toNat else none)
def dix (x y : D) (h : Hh) : Option D := match seqOf h x, y with
  | some xs, .int i => (ixOf xs.length i).bind (xs[·]?)
  | _, _ => none
def truth (h : Hh) : D → Option Bool
  | .non => some false
  | .bl b => some b
  | .int i => some (i != 0)
  | .tup xs => some (!xs.isEmpty)
  | .ref a => (match h[a]? with
    | some (.lst xs) => some (!xs.isEmpty)
    | some (.rol xs) => some (!xs.isEmpty)
    | _ => none)
  | _ => none
def tyOf (h : Hh) : D → Option Ty
  | .bl _ => some .bool
  | .int _ => some .int
  | .str _ => some .str
  | .tup _ => some .tuple
  | .ref a => (match h[a]? with
    | some (.lst _) => some .list
    | some (.dK _) => some .dict
    | _ => none)
  | _ => none
def isiT (a b : Ty) : Bool := decide (a = b) || (decide (a = .bool) && decide (b = .int))
def allB : List D → Option (List Bool)
  | [] => some []
  | .bl b :: r => (allB r).map (b :: ·)
  | _ => none
def bltn : Bl → List D → Hh → Option (D × Hh)
  | .len, [x], h => (seqOf h x).map fun xs => (.int xs.length, h)
  | .all, [.ref a], h => (match h[a]? with
    | some (.lst xs) => (allB xs).map fun bs => (.bl (bs.all id), h)
    | _ => none)
  | .any, [.ref a], h => (match h[a]? with
    | some (.lst xs) => (allB xs).map fun bs => (.bl (bs.any id), h)
    | _ => none)
  | .abs, [.int i], h => some (.int (if i < 0 then -i else i), h)
  | .max, [.int i, .int j], h => some (.int (if j > i then j else i), h)
  | .min, [.int i, .int j], h => some (.int (if j < i then j else i), h)
  | .int, [.int i], h => some (.int i, h)
  | .int, [.bl b], h => some (.int (if b then 1 else 0), h)
  | .repr, [x], h => (match toP h 60 x with
    | some p => if p.showable && decide (p.depth ≤ 60) && decide (p.shown.length ≤ 1000000) && dictOk p then some (.str p.shown, h) else none
    | none => none)
  | .isi, [x, .ty t], h => (match x with
    | .non => some (.bl false, h)
    | _ => (tyOf h x).map fun s => (.bl (isiT s t), h))
  | .gcd, [.int i, .int j], h => some (.int ((Nat.gcd i.natAbs j.natAbs : Nat) : Int), h)
  | _, _, _ => none

def isRepr : Bl → Bool
  | .repr => true
  | _ => false
def bltG (gd : Bool) (b : Bl) (ds : List D) (h : Hh) : Option (D × Hh) := if isRepr b && !gd then none else bltn b ds h

def isLst (h : Hh) : D → Bool
  | .ref a => (match h[a]? with
    | some (.lst _) => true
    | _ => false)
  | _ => false
def apd (x : D) (ds : List D) (h : Hh) : Option (D × Hh) := match x, ds with
  | .ref a, [d] => (match h[a]? with
    | some (.lst xs) => if xs.length < 1000000 then some (.non, h.set a (.lst (xs ++ [d]))) else none
    | _ => none)
  | _, _ => none

def noRef (n0 : Nat) : Nat → D → Bool
  | 0, _ => false
  | n + 1, d => match d with
    | .tup xs => xs.all (noRef n0 n)
    | .ref a => decide (a < n0)
    | _ => true
def noRefO (n0 : Nat) : O → Bool
  | .lst xs => xs.all (noRef n0 60)
  | .rol _ => true
  | .dK kvs => kvs.all fun p => noRef n0 60 p.2
  | .xd _ d => noRef n0 60 d
def noRefS (n0 : Nat) : SV → Bool
  | .d x => noRef n0 60 x
  | _ => true
/-- a turn's end: what nothing names any more is forgotten -/
def cutS (n0 : Nat) (σ : Sl) (h : Hh) : Hh := if σ.all (noRefS n0) && (h.take n0).all (noRefO n0) then h.take n0 else h
def cutK (k : Bool) (n0 : Nat) (σ : Sl) (h : Hh) : Hh := if k then cutS n0 σ h else h
/-! ### the evaluator -/
inductive Args where
  | vs (ds : List D) | th
structure Lv where
  call : Nat → List D → Hh → R
  callT : Nat → (Hh → R) → Hh → R
  pe : E → Sl → Hh → R
  low : E → Sl → Hh → R
def Lv.no : Lv := ⟨fun _ _ _ => .no, fun _ _ _ => .no, fun _ _ _ => .no, fun _ _ _ => .no⟩
/-- what stands around a body: its thunk, its caught exception -/
structure Ar where
  th : Hh → R
  xc : Option (Str × D)
  gd : Bool
structure Ev where
  e : E → Sl → Hh → R
  t : E → Sl → Hh → R
  es : Es → Sl → Hh → RL
  s : S → Sl → Hh → RS
  ss : Ss → Sl → Hh → RS
  g : G → D → Sl → Hh → RS
  gs : Gs → List D → Sl → Hh → RS
  loop : Bool → G → Ss → D → Nat → Sl → Hh → RS
  lcl : E → G → List Nat → D → Nat → Nat → Sl → Hh → R
def Ev.no : Ev := ⟨fun _ _ _ => .no, fun _ _ _ => .no, fun _ _ _ => .no, fun _ _ _ => .no, fun _ _ _ => .no, fun _ _ _ _ => .no, fun _ _ _ _ => .no, fun _ _ _ _ _ _ _ => .no, fun _ _ _ _ _ _ _ _ => .no⟩
def R.bind (r : R) (k : D → Hh → R) : R := match r with
  | .ok d h => k d h
  | .ex c f h => .ex c f h
  | .no => .no
def R.bindS (r : R) (σ : Sl) (k : D → Hh → RS) : RS := match r with
  | .ok d h => k d h
  | .ex c f h => .ex c f σ h
  | .no => .no
def RL.bind (r : RL) (k : List D → Hh → R) : R := match r with
  | .ok d h => k d h
  | .ex c f h => .ex c f h
  | .no => .no
def R.bindL (r : R) (k : D → Hh → RL) : RL := match r with
  | .ok d h => k d h
  | .ex c f h => .ex c f h
  | .no => .no
def RL.bindL (r : RL) (k : List D → Hh → RL) : RL := match r with
  | .ok d h => k d h
  | .ex c f h => .ex c f h
  | .no => .no
def RL.bindS (r : RL) (σ : Sl) (k : List D → Hh → RS) : RS := match r with
  | .ok d h => k d h
  | .ex c f h => .ex c f σ h
  | .no => .no
def RS.bind (r : RS) (k : Sl → Hh → RS) : RS := match r with
  | .nx σ h => k σ h
  | r => r
def ofO : Option (D × Hh) → R
  | some (d, h) => .ok d h
  | none => .no
def ofB (h : Hh) : Option Bool → R
  | some b => .ok (.bl b) h
  | none => .no
/-- the item of a walk at the i-th turn: over a sequence's value, over a number of turns -/
inductive Nxt where
  | item (d : D) | stop | no
def nextOf (h : Hh) (w : D) (i : Nat) : Nxt := match w with
  | .int n => if i < n.toNat then .item (.int i) else .stop
  | w => (match seqOf h w with
    | some xs => (match xs[i]? with
      | some d => .item d
      | none => .stop)
    | none => .no)
def wipeS (σ : Sl) : List Nat → Sl
  | [] => σ
  | v :: vs => (wipeS σ vs).set v .no
def setAll (σ : Sl) : List Nat → List D → Sl
  | i :: is, d :: ds => setAll (σ.set i (.d d)) is ds
  | _, _ => σ
/-- classes: which is derived from which; a class with a field of its own (its name) or without -/
structure CT where
  n : Nat
  sub : Nat → Nat → Bool
  fld : Nat → Option Str
abbrev Xc := Option (Str × D)
abbrev HdR := Xc → Ss → Sl → Hh → RS
/-- no caught exception is known -/
def clr1 : SV → SV
  | .raw 1 => .no
  | x => x
def clr (σ : Sl) : Sl := σ.map clr1
def xcOk (ct : CT) (c : Nat) : Xc → Bool
  | none => true
  | some (n, _) => decide (ct.fld c = some n)
/-- an except suite that a caught exception comes to -/
def suiteR (hd : HdR) (f : Xc) (b : Ss) (slot : Option Nat) (σ : Sl) (h : Hh) : RS := match slot with
  | none => (match hd f b (clr σ) h with
    | .rt d h1 => .rt d h1
    | .nx σ1 h1 => .nx (clr σ1) h1
    | _ => .no)
  | some i => (match hd f b ((clr σ).set i (.raw 1)) h with
    | .rt d h1 => .rt d h1
    | .nx σ1 h1 => .nx (clr (σ1.set i .no)) h1
    | _ => .no)
def handle (ct : CT) (hd : HdR) (c : Nat) (f : Xc) (σ : Sl) (h : Hh) : Hds → RS
  | .nil => .ex c f σ h
  | .cons k slot b hs => if c < ct.n ∧ k < ct.n ∧ xcOk ct c f = true then (if ct.sub c k then suiteR hd f b slot σ h else handle ct hd c f σ h hs) else .no
def evStep (ct : CT) (cst : Nat → Option D) (L : Lv) (A : Ar) (hd : HdR) (r : Ev) : Ev where
  e := fun e σ h => match e with
    | .no => .no
    | .var i => (match σ[i]? with
      | some (.d d) => .ok d h
      | _ => .no)
    | .non => .ok .non h
    | .bl b => .ok (.bl b) h
    | .int i => .ok (.int i) h
    | .str x => .ok (.str x) h
    | .gv k => .ok (.glo k) h
    | .gc k => (match cst k with
      | some d => .ok d h
      | none => .no)
    | .ty t => .ok (.ty t) h
    | .bin op a b => (r.e a σ h).bind fun x h1 => (r.e b σ h1).bind fun y h2 => ofO (bop op x y h2)
    | .neg a => (r.e a σ h).bind fun x h1 => (match x with
      | .int i => .ok (.int (-i)) h1
      | _ => .no)
    | .cmp op a b => (r.e a σ h).bind fun x h1 => (r.e b σ h1).bind fun y h2 => ofB h2 (cop op x y h2)
    | .chain o1 o2 a b c => (r.e a σ h).bind fun x h1 => (r.e b σ h1).bind fun y h2 => (match cop o1 x y h2 with
      | some true => (r.e c σ h2).bind fun z h3 => ofB h3 (cop o2 y z h3)
      | some false => .ok (.bl false) h2
      | none => .no)
    | .and a b => (r.e a σ h).bind fun x h1 => (match x with
      | .bl true => r.e b σ h1
      | .bl false => .ok (.bl false) h1
      | _ => .no)
    | .or a b => (r.e a σ h).bind fun x h1 => (match x with
      | .bl false => r.e b σ h1
      | .bl true => .ok (.bl true) h1
      | _ => .no)
    | .last a => r.e a σ h
    | .not a => (r.e a σ h).bind fun x h1 => (match x with
      | .bl b => .ok (.bl !b) h1
      | _ => .no)
    | .ite c a b => (r.t c σ h).bind fun x h1 => (match x with
      | .bl true => r.e a σ h1
      | .bl false => r.e b σ h1
      | _ => .no)
    | .tup es => (r.es es σ h).bind fun ds h1 => if ds.length ≤ 1000000 then .ok (.tup ds) h1 else .no
    | .lst es => (r.es es σ h).bind fun ds h1 => if ds.length ≤ 1000000 then .ok (.ref h1.length) (h1 ++ [.lst ds]) else .no
    | .dnew => .ok (.ref h.length) (h ++ [.dK []])
    | .call k es => (r.es es σ h).bind fun ds h1 => L.call k ds h1
    | .callB b es => (r.es es σ h).bind fun ds h1 => ofO (bltG A.gd b ds h1)
    | .callV i es => (match σ[i]? with
      | some (.d (.glo k)) => (r.es es σ h).bind fun ds h1 => L.call k ds h1
      | _ => .no)
    | .callT k e => (match L.callT k (fun h1 => L.low e σ h1) h with
      | .ok d h1 => .ok d h1
      | _ => .no)
    | .thk i => (match σ[i]? with
      | some (.raw 0) => A.th h
      | _ => .no)
    | .meth o _ es => (r.e o σ h).bind fun x h1 => if isLst h1 x then (r.es es σ h1).bind fun ds h2 => ofO (apd x ds h2) else .no
    | .ix a b => (r.e a σ h).bind fun x h1 => (r.e b σ h1).bind fun y h2 => (match dix x y h2 with
      | some d => .ok d h2
      | none => .no)
    | .lc elt g it own => (match it with
      | .no => .no
      | .seq e => (r.e e σ h).bind fun w h1 => if (seqOf h1 w).isSome then r.lcl elt g own w 0 h1.length (wipeS σ own) (h1 ++ [.lst []]) else .no
      | .rng e => (r.e e σ h).bind fun w h1 => (match w with
        | .int n => if -1000000 < n ∧ n < 1000000 then r.lcl elt g own (.int n) 0 h1.length (wipeS σ own) (h1 ++ [.lst []]) else .no
        | _ => .no))
    | .xattr i f => (match σ[i]?, A.xc with
      | some (.raw 1), some (f', d) => if f' = f then .ok d h else .no
      | _, _ => .no)
  t := fun e σ h => match e with
    | .no => .no
    | .and a b => (r.t a σ h).bind fun x h1 => (match x with
      | .bl true => r.t b σ h1
      | .bl false => .ok (.bl false) h1
      | _ => .no)
    | .or a b => (r.t a σ h).bind fun x h1 => (match x with
      | .bl false => r.t b σ h1
      | .bl true => .ok (.bl true) h1
      | _ => .no)
    | .last a => r.t a σ h
    | .not a => (r.t a σ h).bind fun x h1 => (match x with
      | .bl b => .ok (.bl !b) h1
      | _ => .no)
    | .ite _ _ _ => .no
    | .cmp op a b => (r.e a σ h).bind fun x h1 => (r.e b σ h1).bind fun y h2 => ofB h2 (cop op x y h2)
    | .chain o1 o2 a b c => (r.e a σ h).bind fun x h1 => (r.e b σ h1).bind fun y h2 => (match cop o1 x y h2 with
      | some true => (r.e c σ h2).bind fun z h3 => ofB h3 (cop o2 y z h3)
      | some false => .ok (.bl false) h2
      | none => .no)
    | e => (r.e e σ h).bind fun x h1 => ofB h1 (truth h1 x)
  es := fun es σ h => match es with
    | .nil => .ok [] h
    | .cons e es => (r.e e σ h).bindL fun x h1 => (r.es es σ h1).bindL fun ds h2 => .ok (x :: ds) h2
  g := fun g d σ h => match g with
    | .no => .no
    | .nm i => .nx (σ.set i (.d d)) h
    | .tup gs => (match d with
      | .tup ds => if ds.length = gsLen gs then r.gs gs ds σ h else .no
      | _ => .no)
    | .sub a b => (r.e a σ h).bindS σ fun x h1 => (r.e b σ h1).bindS σ fun y h2 => (match x, y with
      | .ref n, .int i => (match h2[n]? with
        | some (.lst xs) => (match ixOf xs.length i with
          | some j => .nx σ (h2.set n (.lst (xs.set j d)))
          | none => .no)
        | _ => .no)
      | _, _ => .no)
  gs := fun gs ds σ h => match gs, ds with
    | .nil, [] => .nx σ h
    | .cons g gs, d :: ds => (r.g g d σ h).bind fun σ1 h1 => r.gs gs ds σ1 h1
    | _, _ => .no
  s := fun s σ h => match s with
    | .no => .no
    | .asg g e => (r.e e σ h).bindS σ fun d h1 => r.g g d σ h1
    | .par is es => (r.es es σ h).bindS σ fun ds h1 => if ds.length = is.length then .nx (setAll σ is ds) h1 else .no
    | .aug i op e => (match σ[i]? with
      | some (.d x) => (r.e e σ h).bindS σ fun y h1 => (match x, y with
        | .int _, .int _ => (match bop op x y h1 with
          | some (d, h2) => .nx (σ.set i (.d d)) h2
          | none => .no)
        | _, _ => .no)
      | _ => .no)
    | .expr e => (r.e e σ h).bindS σ fun _ h1 => .nx σ h1
    | .ret e => (r.e e σ h).bindS σ fun d h1 => .rt d h1
    | .retN => .rt .non h
    | .iff c a b => (r.t c σ h).bindS σ fun x h1 => (match x with
      | .bl true => r.ss a σ h1
      | .bl false => r.ss b σ h1
      | _ => .no)
    | .while c b => (r.t c σ h).bindS σ fun x h1 => (match x with
      | .bl true => (match r.ss b σ h1 with
        | .nx σ2 h2 => r.s s σ2 h2
        | .ct σ2 h2 => r.s s σ2 h2
        | .bk σ2 h2 => .nx σ2 h2
        | q => q)
      | .bl false => .nx σ h1
      | _ => .no)
    | .for k g it b => (match it with
      | .no => .no
      | .seq e => (r.e e σ h).bindS σ fun w h1 => if (seqOf h1 w).isSome then r.loop k g b w 0 σ h1 else .no
      | .rng e => (r.e e σ h).bindS σ fun w h1 => (match w with
        | .int n => if -1000000 < n ∧ n < 1000000 then r.loop k g b (.int n) 0 σ h1 else .no
        | _ => .no))
    | .raise c es => (r.es es σ h).bindS σ fun ds h1 => (match ct.fld c, ds with
      | some f, [d] => .ex c (some (f, d)) σ h1
      | none, [.str _] => .ex c none σ h1
      | _, _ => .no)
    | .try b hs => (match r.ss b σ h with
      | .ex c f σ1 h1 => handle ct hd c f σ1 h1 hs
      | q => q)
    | .pass => .nx σ h
    | .brk => .bk σ h
    | .cont => .ct σ h
  ss := fun ss σ h => match ss with
    | .nil => .nx σ h
    | .cons s ss => (r.s s σ h).bind fun σ1 h1 => r.ss ss σ1 h1
  loop := fun k g b w i σ h => match nextOf h w i with
    | .no => .no
    | .stop => .nx σ h
    | .item d => (r.g g d σ h).bind fun σ1 h1 => (match r.ss b σ1 h1 with
      | .nx σ2 h2 => r.loop k g b w (i + 1) σ2 (cutK k h.length σ2 h2)
      | .ct σ2 h2 => r.loop k g b w (i + 1) σ2 (cutK k h.length σ2 h2)
      | .bk σ2 h2 => .nx σ2 h2
      | q => q)
  lcl := fun elt g own w i n σ h => match nextOf h w i with
    | .no => .no
    | .stop => .ok (.ref n) h
    | .item d => (match r.g g d σ h with
      | .nx σ1 h1 => (match r.e elt σ1 h1 with
        | .ok y h2 => (match h2[n]? with
          | some (.lst acc) => if acc.length < 1000000 then r.lcl elt g own w (i + 1) n σ (h2.set n (.lst (acc ++ [y]))) else .no
          | _ => .no)
        | _ => .no)
      | _ => .no)
def evF (ct : CT) (cst : Nat → Option D) (L : Lv) (A : Ar) (hd : HdR) (n : Nat) : Ev := Nat.rec Ev.no (fun _ r => evStep ct cst L A hd r) n
/-- an except suite: no calls of own defs -/
def suite (ct : CT) (cst : Nat → Option D) (gd : Bool) : HdR := fun xc b σ h => (evF ct cst Lv.no ⟨fun _ => .no, xc, gd⟩ (fun _ _ _ _ => .no) 40).ss b σ h

/-! ### defs -/
structure FnI where
  np : Nat
  nv : Nat
  star : Bool
  dfl : List D
  th : Bool
  body : Ss
def cut (n0 : Nat) (d : D) (h : Hh) : Hh := if noRef n0 60 d && (h.take n0).all (noRefO n0) then h.take n0 else h
def fin (n0 : Nat) : RS → R
  | .rt d h => .ok d (cut n0 d h)
  | .nx _ h => .ok .non (cut n0 .non h)
  | .ex c none _ h => .ex c none (cut n0 .non h)
  | .ex c (some (f, d)) _ h => .ex c (some (f, d)) (cut n0 d h)
  | _ => .no
def slots (f : FnI) (ds : List D) : Option Sl :=
  if f.star then (if f.np ≤ ds.length + 1 ∧ 0 < f.np ∧ ds.length ≤ 1000000 then some ((ds.take (f.np - 1)).map .d ++ [.d (.tup (ds.drop (f.np - 1)))] ++ List.replicate (f.nv - f.np) .no) else none)
  else (if ds.length ≤ f.np ∧ f.np ≤ ds.length + f.dfl.length then some ((ds ++ f.dfl.drop (f.dfl.length - (f.np - ds.length))).map .d ++ List.replicate (f.nv - f.np) .no) else none)
def Fuel : Nat := 20000
def body (ct : CT) (cst : Nat → Option D) (gd : Bool) (L : Lv) (th : Hh → R) (f : FnI) (σ : Sl) (h : Hh) : R := fin h.length ((evF ct cst L ⟨th, none, gd⟩ (suite ct cst gd) Fuel).ss f.body σ h)
def levStep (ct : CT) (cst : Nat → Option D) (fns : Nat → Option FnI) (gd : Bool) (low : E → Sl → Hh → R) (L : Lv) : Lv where
  call := fun k ds h => match fns k with
    | some f => (match slots f ds with
      | some σ => body ct cst gd L (fun _ => .no) f σ h
      | none => .no)
    | none => .no
  callT := fun k th h => match fns k with
    | some f => if f.np = 1 ∧ f.star = false ∧ f.th = true then body ct cst gd L th f (.raw 0 :: List.replicate (f.nv - 1) .no) h else .no
    | none => .no
  pe := (evF ct cst L ⟨fun _ => .no, none, gd⟩ (suite ct cst gd) Fuel).e
  low := low
def lev0 (ct : CT) (cst : Nat → Option D) (fns : Nat → Option FnI) (n : Nat) : Lv := Nat.rec Lv.no (fun _ L => levStep ct cst fns false L.pe L) n
def lev1 (ct : CT) (cst : Nat → Option D) (fns : Nat → Option FnI) (n : Nat) : Lv := Nat.rec Lv.no (fun m L => levStep ct cst fns true (lev0 ct cst fns m).pe L) n
end Mn


set_option Elab.async false
set_option linter.all false
set_option maxHeartbeats 1000000
/-! What a tree value stands for. -/
namespace Mn
open PySem PySem.Spec L2

structure BP where
  K : PySem.W.Frag
  adr : Nat → Addr
  cad : Nat → Addr
  T : List (Addr × Str)
mutual
inductive Be (B : BP) (ι : List Addr) (H : Hp) : V → D → Prop
  | non : Be B ι H .non .non
  | bl (b : Bool) : Be B ι H (.bl b) (.bl b)
  | int (i : Int) : Be B ι H (.int i) (.int i)
  | str (x : Str) : Be B ι H (.str x) (.str x)
  | tup {a : Addr} {vs : List V} {ds : List D} : SqT B.K H a vs → BeL B ι H vs ds → Be B ι H (.ref a) (.tup ds)
  | ref {n : Nat} {a : Addr} : ι[n]? = some a → Be B ι H (.ref a) (.ref n)
  | glo (k : Nat) : Be B ι H (.ref (B.adr k)) (.glo k)
  | ty (t : Ty) : Be B ι H (.ty t.nm) (.ty t)
inductive BeL (B : BP) (ι : List Addr) (H : Hp) : List V → List D → Prop
  | nil : BeL B ι H [] []
  | cons {v : V} {vs : List V} {d : D} {ds : List D} : Be B ι H v d → BeL B ι H vs ds → BeL B ι H (v :: vs) (d :: ds)
end
/-- what is never written -/
def Fix : HO → Prop
  | .tup _ => True
  | .frz _ _ => True
  | .ext _ => True
  | .xd _ => True
  | _ => False
structure Gr (ι : List Addr) (H : Hp) (ι' : List Addr) (H' : Hp) : Prop where
  pre : ι <+: ι'
  keep : ∀ b o, H b = some o → Fix o → H' b = some o
theorem Gr.refl {ι : List Addr} {H : Hp} : Gr ι H ι H := ⟨List.prefix_refl _, fun _ _ e _ => e⟩
theorem Gr.trans {ι ι1 ι2 : List Addr} {H H1 H2 : Hp} (a : Gr ι H ι1 H1) (b : Gr ι1 H1 ι2 H2) : Gr ι H ι2 H2 :=
  ⟨a.pre.trans b.pre, fun c o e f => b.keep c o (a.keep c o e f) f⟩
theorem Gr.at {ι ι' : List Addr} {H H' : Hp} (g : Gr ι H ι' H') {n : Nat} {a : Addr} (e : ι[n]? = some a) : ι'[n]? = some a := by
  obtain ⟨r, h⟩ := g.pre
  subst h
  rw [List.getElem?_append_left (List.getElem?_eq_some_iff.mp e).1]
  exact e
theorem Gr.sqt {ι ι' : List Addr} {H H' : Hp} {K : PySem.W.Frag} (g : Gr ι H ι' H') {a : Addr} {vs : List V} (h : SqT K H a vs) : SqT K H' a vs := by
  rcases h with h | h
  · rcases h with h | ⟨o, h⟩
    · exact .inl (.inl (g.keep _ _ h trivial))
    · exact .inl (.inr ⟨o, g.keep _ _ h trivial⟩)
  · exact .inr h
section
variable {B : BP} {ι ι' : List Addr} {H H' : Hp}
mutual
theorem Be.grow (g : Gr ι H ι' H') : ∀ {v : V} {d : D}, Be B ι H v d → Be B ι' H' v d
  | _, _, .non => .non
  | _, _, .bl b => .bl b
  | _, _, .int i => .int i
  | _, _, .str x => .str x
  | _, _, .tup h l => .tup (g.sqt h) (BeL.grow g l)
  | _, _, .ref e => .ref (g.at e)
  | _, _, .glo k => .glo k
  | _, _, .ty t => .ty t
theorem BeL.grow (g : Gr ι H ι' H') : ∀ {vs : List V} {ds : List D}, BeL B ι H vs ds → BeL B ι' H' vs ds
  | _, _, .nil => .nil
  | _, _, .cons h l => .cons (Be.grow g h) (BeL.grow g l)
end
theorem BeL.length : ∀ {vs : List V} {ds : List D}, BeL B ι H vs ds → vs.length = ds.length
  | _, _, .nil => rfl
  | _, _, .cons _ l => congrArg Nat.succ (BeL.length l)
theorem BeL.at : ∀ {vs : List V} {ds : List D} {i : Nat} {d : D}, BeL B ι H vs ds → ds[i]? = some d → ∃ v, vs[i]? = some v ∧ Be B ι H v d
  | _, _, _, _, .nil, e => by simp at e
  | _, _, 0, _, .cons h _, e => by simp at e; subst e; exact ⟨_, rfl, h⟩
  | _, _, i + 1, d, .cons _ l, e => by
    obtain ⟨v, h1, h2⟩ := BeL.at (i := i) (d := d) l (by simpa using e)
    exact ⟨v, by simpa using h1, h2⟩
theorem BeL.none : ∀ {vs : List V} {ds : List D} {i : Nat}, BeL B ι H vs ds → ds[i]? = none → vs.length ≤ i := fun l e => by
  rw [l.length]; exact List.getElem?_eq_none_iff.mp e
theorem BeL.app : ∀ {vs ws : List V} {ds es : List D}, BeL B ι H vs ds → BeL B ι H ws es → BeL B ι H (vs ++ ws) (ds ++ es)
  | _, _, _, _, .nil, s => s
  | _, _, _, _, .cons h l, s => .cons h (BeL.app l s)
theorem BeL.take : ∀ {vs : List V} {ds : List D} (n : Nat), BeL B ι H vs ds → BeL B ι H (vs.take n) (ds.take n)
  | _, _, 0, _ => by simpa using BeL.nil
  | _, _, _ + 1, .nil => by simpa using BeL.nil
  | _, _, n + 1, .cons h l => by simpa using BeL.cons h (BeL.take n l)
theorem BeL.drop : ∀ {vs : List V} {ds : List D} (n : Nat), BeL B ι H vs ds → BeL B ι H (vs.drop n) (ds.drop n)
  | _, _, 0, l => by simpa using l
  | _, _, _ + 1, .nil => by simpa using BeL.nil
  | _, _, n + 1, .cons _ l => by simpa using BeL.drop n l
theorem BeL.set {v : V} {d : D} (h : Be B ι H v d) : ∀ {vs : List V} {ds : List D} (i : Nat), BeL B ι H vs ds → BeL B ι H (vs.set i v) (ds.set i d)
  | _, _, _, .nil => .nil
  | _, _, 0, .cons _ l => .cons h l
  | _, _, i + 1, .cons q l => .cons q (BeL.set h i l)
theorem BeL.rep {vs : List V} {ds : List D} (l : BeL B ι H vs ds) : ∀ n : Nat, BeL B ι H (List.replicate n vs).flatten (List.replicate n ds).flatten
  | 0 => .nil
  | n + 1 => by
    rw [List.replicate_succ, List.replicate_succ, List.flatten_cons, List.flatten_cons]
    exact l.app (BeL.rep l n)
end
/-- an own object -/
def OB (B : BP) (ι : List Addr) (H : Hp) (a : Addr) : O → Prop
  | .lst ds => ∃ vs, H a = some (.lst vs) ∧ BeL B ι H vs ds
  | .rol ds => ∃ o vs, H a = some (.frz o (.lst vs)) ∧ BeL B ι H vs ds ∧ ds.all flat = true
  | .dK kvs => kvs = [] ∧ H a = some (.dK [])
  | .xd _ _ => False
structure Sim (B : BP) (ι : List Addr) (h : Hh) (H : Hp) : Prop where
  len : ι.length = h.length
  nd : ι.Nodup
  ob : ∀ (n : Nat) (a : Addr) (o : O), ι[n]? = some a → h[n]? = some o → OB B ι H a o
  tabs : LamX.Tabs B.T H
section
variable {B : BP} {ι ι' : List Addr} {H H' : Hp} {h : Hh}
theorem Sim.there (S : Sim B ι h H) {a : Addr} (m : a ∈ ι) : ∃ o, H a = some o := by
  obtain ⟨n, hn⟩ := List.mem_iff_getElem?.mp m
  have hl : n < h.length := by rw [← S.len]; exact (List.getElem?_eq_some_iff.mp hn).1
  have hob := S.ob n a h[n] hn (List.getElem?_eq_getElem hl)
  revert hob
  cases h[n] with
  | lst ds => exact fun ⟨vs, e, _⟩ => ⟨_, e⟩
  | rol ds => exact fun ⟨o, vs, e, _⟩ => ⟨_, e⟩
  | dK kvs => exact fun ⟨_, e⟩ => ⟨_, e⟩
  | xd f d => exact fun z => z.elim
/-- a new object -/
theorem gr_new {p : Addr} {u : HO} (hp : H p = none) : Gr ι H (ι ++ [p]) (upd H p u) :=
  ⟨List.prefix_append _ _, fun b o e _ => by rw [upd_ne (ne_of_none e hp)]; exact e⟩
theorem OB.grow {a : Addr} {o : O} (g : Gr ι H ι' H') (hk : H' a = H a) (x : OB B ι H a o) : OB B ι' H' a o := by
  cases o with
  | lst ds => obtain ⟨vs, e, l⟩ := x; exact ⟨vs, hk.trans e, l.grow g⟩
  | rol ds => obtain ⟨o, vs, e, l, fl⟩ := x; exact ⟨o, vs, hk.trans e, l.grow g, fl⟩
  | dK kvs => obtain ⟨e0, e⟩ := x; exact ⟨e0, hk.trans e⟩
  | xd f d => exact x
theorem tabs_upd {T : List (Addr × Str)} {p : Addr} {u : HO} (t : LamX.Tabs T H) (hp : ∀ o, H p = some o → ¬ Fix o ∧ ∀ ps, o ≠ .tbl ps) : LamX.Tabs T (upd H p u) := by
  have ne : ∀ b o, H b = some o → (Fix o ∨ ∃ ps, o = .tbl ps) → b ≠ p := fun b o e f z => by
    subst z
    obtain ⟨h1, h2⟩ := hp o e
    rcases f with f | ⟨ps, f⟩
    · exact h1 f
    · exact h2 ps f
  intro q hq
  obtain ⟨ps, h1, h2, h3⟩ := t q hq
  refine ⟨ps, ?_, h2, fun pos cv hc => ?_⟩
  · rw [upd_ne (ne _ _ h1 (.inr ⟨ps, rfl⟩))]; exact h1
  · obtain ⟨c, e1, e2⟩ := h3 pos cv hc
    exact ⟨c, e1, by rw [upd_ne (ne _ _ e2 (.inl trivial))]; exact e2⟩
theorem Sim.new {p : Addr} {u : HO} {o : O} (S : Sim B ι h H) (hp : H p = none) (x : OB B (ι ++ [p]) (upd H p u) p o) : Sim B (ι ++ [p]) (h ++ [o]) (upd H p u) := by
  have hm : p ∉ ι := fun m => by
    obtain ⟨o, e⟩ := S.there m
    rw [hp] at e; cases e
  refine ⟨by simp [S.len], List.nodup_append.mpr ⟨S.nd, by simp, fun a ha b hb => by simp at hb; subst hb; exact fun z => hm (z ▸ ha)⟩, fun n a ob e1 e2 => ?_, tabs_upd S.tabs fun o e => by rw [hp] at e; cases e⟩
  by_cases hn : n < ι.length
  · rw [List.getElem?_append_left hn] at e1
    rw [List.getElem?_append_left (by rw [← S.len]; exact hn)] at e2
    have ha : a ≠ p := fun z => hm (z ▸ List.mem_of_getElem? e1)
    exact (S.ob n a ob e1 e2).grow (gr_new hp) (upd_ne ha)
  · have hn1 : n = ι.length := by
      have := (List.getElem?_eq_some_iff.mp e1).1
      simp at this; omega
    subst hn1
    rw [List.getElem?_append_right (Nat.le_refl _)] at e1
    rw [S.len, List.getElem?_append_right (Nat.le_refl _)] at e2
    simp at e1 e2
    subst e1 e2
    exact x
/-- an object written -/
theorem gr_put {a : Addr} {u v : HO} (ha : H a = some v) (hf : ¬ Fix v) : Gr ι H ι (upd H a u) :=
  ⟨List.prefix_refl _, fun b o e f => by
    rw [upd_ne]
    · exact e
    · intro z
      subst z
      rw [ha] at e
      cases e
      exact hf f⟩
theorem Sim.put {a : Addr} {n : Nat} {u v : HO} {o : O} (S : Sim B ι h H) (hn : ι[n]? = some a) (ha : H a = some v) (hf : ¬ Fix v) (ht : ∀ ps, v ≠ .tbl ps) (x : OB B ι (upd H a u) a o) : Sim B ι (h.set n o) (upd H a u) := by
  refine ⟨by simpa using S.len, S.nd, fun m b ob e1 e2 => ?_, tabs_upd S.tabs fun o e => by rw [ha] at e; cases e; exact ⟨hf, ht⟩⟩
  by_cases hm : n = m
  · subst hm
    have hl : n < h.length := by rw [← S.len]; exact (List.getElem?_eq_some_iff.mp hn).1
    rw [List.getElem?_set_self hl] at e2
    cases e2
    rw [hn] at e1
    cases e1
    exact x
  · rw [List.getElem?_set_ne hm] at e2
    have hb : b ≠ a := fun z => by
      subst z
      obtain ⟨l1, q1⟩ := List.getElem?_eq_some_iff.mp hn
      obtain ⟨l2, q2⟩ := List.getElem?_eq_some_iff.mp e1
      exact hm ((List.getElem_inj S.nd).mp (q1.trans q2.symm))
    exact (S.ob m b ob e1 e2).grow (gr_put ha hf) (upd_ne hb)
theorem Sim.lst (S : Sim B ι h H) {n : Nat} {a : Addr} {ds : List D} (hn : ι[n]? = some a) (e : h[n]? = some (.lst ds)) : ∃ vs, H a = some (.lst vs) ∧ BeL B ι H vs ds := S.ob n a _ hn e
/-- the written part, other frames' wishes: forgetting the last own objects -/
theorem Sim.get (S : Sim B ι h H) {n : Nat} {o : O} (e : h[n]? = some o) : ∃ a, ι[n]? = some a := by
  have : n < ι.length := by rw [S.len]; exact (List.getElem?_eq_some_iff.mp e).1
  exact ⟨_, List.getElem?_eq_getElem this⟩
end
/-! ### slots -/
def SimS (B : BP) (xa : Nat → Addr) (ι : List Addr) (σd : Sl) (σ : St) (H : Hp) : Prop :=
  σd.length = σ.length ∧ ∀ i : Nat, (∀ x, σd[i]? = some (.d x) → ∃ v, σ[i]? = some (some v) ∧ Be B ι H v x) ∧ ∀ t, σd[i]? = some (.raw t) → σ[i]? = some (some (.ref (xa t)))
section
variable {B : BP} {xa : Nat → Addr} {ι ι' : List Addr} {H H' : Hp} {h : Hh} {σd : Sl} {σ : St}
theorem SimS.grow (g : Gr ι H ι' H') (s : SimS B xa ι σd σ H) : SimS B xa ι' σd σ H' := ⟨s.1, fun i => ⟨fun x e => by
  obtain ⟨v, e1, b⟩ := (s.2 i).1 x e
  exact ⟨v, e1, b.grow g⟩, (s.2 i).2⟩⟩
theorem SimS.set {i : Nat} {v : V} {d : D} (s : SimS B xa ι σd σ H) (b : Be B ι H v d) : SimS B xa ι (σd.set i (.d d)) (σ.set i (some v)) H := by
  refine ⟨by simpa using s.1, fun j => ?_⟩
  by_cases hj : i = j
  · subst hj
    by_cases hl : i < σd.length
    · rw [List.getElem?_set_self hl, List.getElem?_set_self (by rw [← s.1]; exact hl)]
      exact ⟨fun x e => (by cases e; exact ⟨v, rfl, b⟩), fun t e => (by cases e)⟩
    · rw [List.getElem?_eq_none (by simpa using hl)]
      exact ⟨fun x e => (by cases e), fun t e => (by cases e)⟩
  · rw [List.getElem?_set_ne hj, List.getElem?_set_ne hj]
    exact s.2 j
theorem SimS.wipe1 {i : Nat} {o : Option V} (s : SimS B xa ι σd σ H) : SimS B xa ι (σd.set i .no) (σ.set i o) H := by
  refine ⟨by simpa using s.1, fun j => ?_⟩
  by_cases hj : i = j
  · subst hj
    by_cases hl : i < σd.length
    · rw [List.getElem?_set_self hl]
      exact ⟨fun x e => (by cases e), fun t e => (by cases e)⟩
    · rw [List.getElem?_eq_none (by simpa using hl)]
      exact ⟨fun x e => (by cases e), fun t e => (by cases e)⟩
  · rw [List.getElem?_set_ne hj, List.getElem?_set_ne hj]
    exact s.2 j
theorem SimS.wipe (s : SimS B xa ι σd σ H) : ∀ vs : List Nat, SimS B xa ι (wipeS σd vs) (L2.wipe σ vs) H
  | [] => s
  | v :: vs => by
    unfold wipeS L2.wipe
    exact (SimS.wipe s vs).wipe1
end
/-! ### what an evaluation's end asks -/
def XcB (B : BP) (ι : List Addr) (H : Hp) (c : Nat) (f : Xc) (cls : Value) (dd : Option Addr) : Prop :=
  cls = .ref (B.cad c) ∧ match f with
  | none => True
  | some (n, d) => ∃ da v, dd = some da ∧ H da = some (.xd [(n, v)]) ∧ Be B ι H v d
def PR (B : BP) (ι : List Addr) (H : Hp) (W : XK) (r : R) (Q : VK) : Prop := match r with
  | .ok d h' => ∀ ι' H' v, Gr ι H ι' H' → Sim B ι' h' H' → Be B ι' H' v d → Q v H'
  | .ex c f h' => ∀ ι' H' cls dd, Gr ι H ι' H' → Sim B ι' h' H' → XcB B ι' H' c f cls dd → W cls dd H'
  | .no => False
def PRL (B : BP) (ι : List Addr) (H : Hp) (W : XK) (r : RL) (Q : List V → Hp → Prop) : Prop := match r with
  | .ok ds h' => ∀ ι' H' vs, Gr ι H ι' H' → Sim B ι' h' H' → BeL B ι' H' vs ds → Q vs H'
  | .ex c f h' => ∀ ι' H' cls dd, Gr ι H ι' H' → Sim B ι' h' H' → XcB B ι' H' c f cls dd → W cls dd H'
  | .no => False
def PRS (B : BP) (xa : Nat → Addr) (ι : List Addr) (H : Hp) (W : WX) (r : RS) (Z : Ends) : Prop := match r with
  | .nx σd h' => ∀ ι' H' σ, Gr ι H ι' H' → Sim B ι' h' H' → SimS B xa ι' σd σ H' → Z.nx σ H'
  | .bk σd h' => ∀ ι' H' σ, Gr ι H ι' H' → Sim B ι' h' H' → SimS B xa ι' σd σ H' → Z.bk σ H'
  | .ct σd h' => ∀ ι' H' σ, Gr ι H ι' H' → Sim B ι' h' H' → SimS B xa ι' σd σ H' → Z.ct σ H'
  | .rt d h' => ∀ ι' H' v, Gr ι H ι' H' → Sim B ι' h' H' → Be B ι' H' v d → Z.rt v H'
  | .ex c f σd h' => ∀ ι' H' σ cls dd, Gr ι H ι' H' → Sim B ι' h' H' → SimS B xa ι' σd σ H' → XcB B ι' H' c f cls dd → W cls dd σ H'
  | .no => False
section
variable {B : BP} {xa : Nat → Addr} {ι ι1 : List Addr} {H H1 : Hp} {W : XK} {Q Q' : VK}
theorem PR.step {r : R} (g : Gr ι H ι1 H1) (p : PR B ι H W r Q) : PR B ι1 H1 W r Q := by
  cases r with
  | ok d h => exact fun ι' H' v g' => p ι' H' v (g.trans g')
  | ex c f h => exact fun ι' H' cls dd g' => p ι' H' cls dd (g.trans g')
  | no => exact p
theorem PR.imp {r : R} (p : PR B ι H W r Q) (hq : ∀ v H', Q v H' → Q' v H') : PR B ι H W r Q' := by
  cases r with
  | ok d h => exact fun ι' H' v g' s b => hq _ _ (p ι' H' v g' s b)
  | ex c f h => exact p
  | no => exact p
theorem PRL.step {Q : List V → Hp → Prop} {r : RL} (g : Gr ι H ι1 H1) (p : PRL B ι H W r Q) : PRL B ι1 H1 W r Q := by
  cases r with
  | ok d h => exact fun ι' H' v g' => p ι' H' v (g.trans g')
  | ex c f h => exact fun ι' H' cls dd g' => p ι' H' cls dd (g.trans g')
  | no => exact p
theorem PRS.step {W : WX} {Z : Ends} {r : RS} (g : Gr ι H ι1 H1) (p : PRS B xa ι H W r Z) : PRS B xa ι1 H1 W r Z := by
  cases r with
  | nx σ h => exact fun ι' H' v g' => p ι' H' v (g.trans g')
  | bk σ h => exact fun ι' H' v g' => p ι' H' v (g.trans g')
  | ct σ h => exact fun ι' H' v g' => p ι' H' v (g.trans g')
  | rt d h => exact fun ι' H' v g' => p ι' H' v (g.trans g')
  | ex c f σ h => exact fun ι' H' σ cls dd g' => p ι' H' σ cls dd (g.trans g')
  | no => exact p
/-- one after the other -/
theorem PR.bind {r : R} {k : D → Hh → R} (p : PR B ι H W (r.bind k) Q) : PR B ι H W r fun v H1 => ∃ d h1 ι1, Gr ι H ι1 H1 ∧ Sim B ι1 h1 H1 ∧ Be B ι1 H1 v d ∧ PR B ι1 H1 W (k d h1) Q := by
  cases r with
  | ok d h => exact fun ι' H' v g s b => ⟨d, h, ι', g, s, b, p.step g⟩
  | ex c f h => exact p
  | no => exact p
theorem PR.bindS {W : WX} {σ : St} {σd : Sl} {Z : Ends} {r : R} {k : D → Hh → RS} (ss : SimS B xa ι σd σ H) (p : PRS B xa ι H W (r.bindS σd k) Z) : PR B ι H (fun c d H' => W c d σ H') r fun v H1 => ∃ d h1 ι1, Gr ι H ι1 H1 ∧ Sim B ι1 h1 H1 ∧ Be B ι1 H1 v d ∧ SimS B xa ι1 σd σ H1 ∧ PRS B xa ι1 H1 W (k d h1) Z := by
  cases r with
  | ok d h => exact fun ι' H' v g s b => ⟨d, h, ι', g, s, b, ss.grow g, p.step g⟩
  | ex c f h => exact fun ι' H' cls dd g s x => p ι' H' σ cls dd g s (ss.grow g) x
  | no => exact p
theorem PRL.bind {r : RL} {k : List D → Hh → R} (p : PR B ι H W (r.bind k) Q) : PRL B ι H W r fun vs H1 => ∃ ds h1 ι1, Gr ι H ι1 H1 ∧ Sim B ι1 h1 H1 ∧ BeL B ι1 H1 vs ds ∧ PR B ι1 H1 W (k ds h1) Q := by
  cases r with
  | ok d h => exact fun ι' H' v g s b => ⟨d, h, ι', g, s, b, p.step g⟩
  | ex c f h => exact p
  | no => exact p
theorem PR.bindL {Q : List V → Hp → Prop} {r : R} {k : D → Hh → RL} (p : PRL B ι H W (r.bindL k) Q) : PR B ι H W r fun v H1 => ∃ d h1 ι1, Gr ι H ι1 H1 ∧ Sim B ι1 h1 H1 ∧ Be B ι1 H1 v d ∧ PRL B ι1 H1 W (k d h1) Q := by
  cases r with
  | ok d h => exact fun ι' H' v g s b => ⟨d, h, ι', g, s, b, p.step g⟩
  | ex c f h => exact p
  | no => exact p
theorem PRL.bindL {Q : List V → Hp → Prop} {r : RL} {k : List D → Hh → RL} (p : PRL B ι H W (r.bindL k) Q) : PRL B ι H W r fun vs H1 => ∃ ds h1 ι1, Gr ι H ι1 H1 ∧ Sim B ι1 h1 H1 ∧ BeL B ι1 H1 vs ds ∧ PRL B ι1 H1 W (k ds h1) Q := by
  cases r with
  | ok d h => exact fun ι' H' v g s b => ⟨d, h, ι', g, s, b, p.step g⟩
  | ex c f h => exact p
  | no => exact p
theorem PRL.bindS {W : WX} {σ : St} {σd : Sl} {Z : Ends} {r : RL} {k : List D → Hh → RS} (ss : SimS B xa ι σd σ H) (p : PRS B xa ι H W (r.bindS σd k) Z) : PRL B ι H (fun c d H' => W c d σ H') r fun vs H1 => ∃ ds h1 ι1, Gr ι H ι1 H1 ∧ Sim B ι1 h1 H1 ∧ BeL B ι1 H1 vs ds ∧ SimS B xa ι1 σd σ H1 ∧ PRS B xa ι1 H1 W (k ds h1) Z := by
  cases r with
  | ok d h => exact fun ι' H' v g s b => ⟨d, h, ι', g, s, b, ss.grow g, p.step g⟩
  | ex c f h => exact fun ι' H' cls dd g s x => p ι' H' σ cls dd g s (ss.grow g) x
  | no => exact p
theorem PRS.bind {W : WX} {Z : Ends} {r : RS} {k : Sl → Hh → RS} (p : PRS B xa ι H W (r.bind k) Z) : PRS B xa ι H W r { Z with nx := fun σ H1 => ∃ σd h1 ι1, Gr ι H ι1 H1 ∧ Sim B ι1 h1 H1 ∧ SimS B xa ι1 σd σ H1 ∧ PRS B xa ι1 H1 W (k σd h1) Z } := by
  cases r with
  | nx σ h => exact fun ι' H' σ' g s b => ⟨σ, h, ι', g, s, b, p.step g⟩
  | bk σ h => exact p
  | ct σ h => exact p
  | rt d h => exact p
  | ex c f σ h => exact p
  | no => exact p
end
/-! ### what is forgotten -/
section
variable {B : BP} {ι ι' : List Addr} {h h' : Hh} {H H' : Hp}
theorem take_at {n0 n : Nat} {a : Addr} (e : ι'[n]? = some a) (hn : n < n0) : (ι'.take n0)[n]? = some a := by
  rw [List.getElem?_take_of_lt hn]
  exact e
mutual
theorem Be.cut {n0 : Nat} : ∀ {v : V} {d : D}, Be B ι' H' v d → ∀ n, noRef n0 n d = true → Be B (ι'.take n0) H' v d
  | _, _, .non, _, _ => .non
  | _, _, .bl b, _, _ => .bl b
  | _, _, .int i, _, _ => .int i
  | _, _, .str x, _, _ => .str x
  | _, _, .glo k, _, _ => .glo k
  | _, _, .ty t, _, _ => .ty t
  | _, _, .ref e, 0, hn => by cases hn
  | _, _, .ref e, _ + 1, hn => .ref (take_at e (of_decide_eq_true hn))
  | _, _, .tup hs l, 0, hn => by cases hn
  | _, _, .tup hs l, n + 1, hn => .tup hs (BeL.cut l n hn)
theorem BeL.cut {n0 : Nat} : ∀ {vs : List V} {ds : List D}, BeL B ι' H' vs ds → ∀ n, ds.all (noRef n0 n) = true → BeL B (ι'.take n0) H' vs ds
  | _, _, .nil, _, _ => .nil
  | _, _, .cons b l, n, hn => by
    rw [List.all_cons, Bool.and_eq_true] at hn
    exact .cons (Be.cut b n hn.1) (BeL.cut l n hn.2)
end
theorem Be.cutF {n0 : Nat} {v : V} {d : D} (b : Be B ι' H' v d) (f : flat d = true) : Be B (ι'.take n0) H' v d := by
  cases b with
  | non => exact .non
  | bl b => exact .bl b
  | int i => exact .int i
  | str x => exact .str x
  | _ => cases f
theorem BeL.cutF {n0 : Nat} : ∀ {vs : List V} {ds : List D}, BeL B ι' H' vs ds → ds.all flat = true → BeL B (ι'.take n0) H' vs ds
  | _, _, .nil, _ => .nil
  | _, _, .cons b l, hn => by
    rw [List.all_cons, Bool.and_eq_true] at hn
    exact .cons (b.cutF hn.1) (BeL.cutF l hn.2)
theorem OB.cut {n0 : Nat} {a : Addr} {o : O} (x : OB B ι' H' a o) (hn : noRefO n0 o = true) : OB B (ι'.take n0) H' a o := by
  cases o with
  | lst ds => obtain ⟨vs, e, l⟩ := x; exact ⟨vs, e, l.cut 60 hn⟩
  | rol ds => obtain ⟨oo, vs, e, l, fl⟩ := x; exact ⟨oo, vs, e, l.cutF fl, fl⟩
  | dK kvs => exact x
  | xd f d => exact x
theorem Sim.cut {n0 : Nat} (S : Sim B ι' h' H') (hn : (h'.take n0).all (noRefO n0) = true) : Sim B (ι'.take n0) (h'.take n0) H' := by
  refine ⟨by rw [List.length_take, List.length_take, S.len], (List.take_sublist _ _).nodup S.nd, fun n a o e1 e2 => ?_, S.tabs⟩
  have hl : n < n0 := by
    have := (List.getElem?_eq_some_iff.mp e1).1
    rw [List.length_take] at this
    omega
  rw [List.getElem?_take_of_lt hl] at e1
  have ho : noRefO n0 o = true := List.all_eq_true.mp hn o (List.mem_of_getElem? e2)
  rw [List.getElem?_take_of_lt hl] at e2
  exact (S.ob n a o e1 e2).cut ho
theorem Gr.cut (g : Gr ι H ι' H') : Gr ι H (ι'.take ι.length) H' := by
  refine ⟨?_, g.keep⟩
  obtain ⟨r, e⟩ := g.pre
  subst e
  rw [List.take_left]
  exact List.prefix_refl _
theorem cutS_ok {xa : Nat → Addr} {σd : Sl} {σ : St} (hl : ι.length = h.length) (g : Gr ι H ι' H') (S : Sim B ι' h' H') (s : SimS B xa ι' σd σ H') : ∃ ι2, Gr ι H ι2 H' ∧ Sim B ι2 (cutS h.length σd h') H' ∧ SimS B xa ι2 σd σ H' := by
  unfold cutS
  split
  · rename_i hz
    rw [Bool.and_eq_true] at hz
    refine ⟨ι'.take ι.length, g.cut, by rw [hl]; exact S.cut hz.2, s.1, fun i => ⟨fun x e => ?_, (s.2 i).2⟩⟩
    obtain ⟨v, e1, b⟩ := (s.2 i).1 x e
    refine ⟨v, e1, ?_⟩
    have hz1 : noRef h.length 60 x = true := List.all_eq_true.mp hz.1 _ (List.mem_of_getElem? e)
    rw [hl]
    exact b.cut 60 hz1
  · exact ⟨ι', g, S, s⟩
theorem cutK_ok {k : Bool} {xa : Nat → Addr} {σd : Sl} {σ : St} (hl : ι.length = h.length) (g : Gr ι H ι' H') (S : Sim B ι' h' H') (s : SimS B xa ι' σd σ H') : ∃ ι2, Gr ι H ι2 H' ∧ Sim B ι2 (cutK k h.length σd h') H' ∧ SimS B xa ι2 σd σ H' := by
  cases k with
  | true => exact cutS_ok hl g S s
  | false => exact ⟨ι', g, S, s⟩
end
end Mn


set_option Elab.async false
set_option linter.all false
set_option maxHeartbeats 4000000
set_option maxRecDepth 20000
/-! The operators are what the evaluator says. -/
namespace Mn
open PySem PySem.Spec PyProof.Rows L2
abbrev noX : XK := fun _ _ _ => False
def Bop.op : Bop → Operator
  | .add => .Add | .sub => .Sub | .mul => .Mult | .fdiv => .FloorDiv | .mod => .Mod | .pow => .Pow
def Cop.op : Cop → CmpOp
  | .eq => .Eq | .ne => .NotEq | .lt => .Lt | .le => .LtE | .gt => .Gt | .ge => .GtE | .isIn => .In | .notIn => .NotIn | .is => .Is | .isNot => .IsNot
section
variable {X : Cx} {B : BP}
def rB (B : BP) (op : Bop) : R2 := fun x y H Q => ∃ ι h d1 d2, Sim B ι h H ∧ Be B ι H x d1 ∧ Be B ι H y d2 ∧ PR B ι H noX (ofO (bop op d1 d2 h)) Q
theorem size_ok {n : Nat} (h : n ≤ 1000000) : n ≤ sizeLine := Nat.le_trans h (by rw [sizeLine_eq]; decide)
theorem size_lt {n : Nat} (h : n < 1000000) : n < sizeLine := Nat.lt_of_lt_of_le h (by rw [sizeLine_eq]; decide)
theorem op_fdivA : OpR X (binaryOp .FloorDiv) (rI (fun _ j => j ≠ 0 ∧ j.natAbs.log2 < 9000) fun i j => .int (i.fdiv j)) :=
  opI fun _ _ _ _ _ _ _ hc q => floordiv_int hc.1 q (.inl (PyProof.noPylong_of_log2 hc.2))
theorem new_lst {ι : List Addr} {h : Hh} {H : Hp} {ys : List V} {ds : List D} {Q : VK} {W : XK} (S : Sim B ι h H) (l : BeL B ι H ys ds) (p : PR B ι H W (.ok (.ref h.length) (h ++ [.lst ds])) Q) (b : Addr) (hb : H b = none) : Q (.ref b) (upd H b (.lst ys)) := by
  have g : Gr ι H (ι ++ [b]) (upd H b (.lst ys)) := gr_new hb
  refine p _ _ _ g (S.new hb ⟨ys, upd_same, l.grow g⟩) (.ref ?_)
  rw [← S.len, List.getElem?_append_right (Nat.le_refl _)]
  simp
theorem op_bop (op : Bop) : OpR X (binaryOp op.op) (rB B op) := by
  intro pins s σ H x y v u Q I rx ry ⟨ι, h, d1, d2, S, b1, b2, p⟩
  cases op with
  | add =>
    cases b1 <;> cases b2 <;> first | exact (show False from p).elim | skip
    · exact op_add pins s σ H _ _ v u Q I rx ry ⟨_, _, rfl, rfl, p ι H _ Gr.refl S (.int _)⟩
    · rename_i a b
      by_cases hz : a.length + b.length ≤ 1000000
      · have p' : PR B ι H noX (ofO (if a.length + b.length ≤ 1000000 then some (.str (a ++ b), h) else none)) Q := p
        rw [if_pos hz] at p'
        exact op_add_str pins s σ H _ _ v u Q I rx ry ⟨_, _, rfl, rfl, size_ok hz, p' ι H _ Gr.refl S (.str _)⟩
      · have p' : PR B ι H noX (ofO (if a.length + b.length ≤ 1000000 then some (.str (a ++ b), h) else none)) Q := p
        rw [if_neg hz] at p'
        exact p'.elim
    · rename_i n a h1 m b h2
      have p' : PR B ι H noX (ofO (match h[n]?, h[m]? with
        | some (.lst xs), some (.lst ys) => if xs.length + ys.length ≤ 1000000 then some (.ref h.length, h ++ [.lst (xs ++ ys)]) else none
        | _, _ => none)) Q := p
      split at p'
      · rename_i xs ys e1 e2
        obtain ⟨vs, q1, l1⟩ := S.lst h1 e1
        obtain ⟨ws, q2, l2⟩ := S.lst h2 e2
        by_cases hz : xs.length + ys.length ≤ 1000000
        · rw [if_pos hz] at p'
          exact op_cat pins s σ H _ _ v u Q I rx ry ⟨_, _, _, _, rfl, rfl, q1, q2, size_ok (by rw [l1.length, l2.length]; exact hz), fun b hb => new_lst S (l1.app l2) p' b hb⟩
        · rw [if_neg hz] at p'
          exact p'.elim
      · exact p'.elim
  | sub =>
    cases b1 <;> cases b2 <;> first | exact (show False from p).elim | skip
    exact op_sub pins s σ H _ _ v u Q I rx ry ⟨_, _, rfl, rfl, p ι H _ Gr.refl S (.int _)⟩
  | mul =>
    cases b1 <;> cases b2 <;> first | exact (show False from p).elim | skip
    · rename_i i j
      have p' : PR B ι H noX (ofO (if i.natAbs.log2 + j.natAbs.log2 < 1000000 then some (.int (i * j), h) else none)) Q := p
      by_cases hz : i.natAbs.log2 + j.natAbs.log2 < 1000000
      · rw [if_pos hz] at p'
        exact op_mulW pins s σ H _ _ v u Q I rx ry ⟨_, _, rfl, rfl, hz, p' ι H _ Gr.refl S (.int _)⟩
      · rw [if_neg hz] at p'
        exact p'.elim
    · rename_i n a h1 j
      have p' : PR B ι H noX (ofO (match h[n]? with
        | some (.lst xs) => if 0 ≤ j ∧ j ≤ 1000 ∧ xs.length ≤ 1000 then some (.ref h.length, h ++ [.lst (List.replicate j.toNat xs).flatten]) else none
        | _ => none)) Q := p
      split at p'
      · rename_i xs e1
        obtain ⟨vs, q1, l1⟩ := S.lst h1 e1
        by_cases hz : 0 ≤ j ∧ j ≤ 1000 ∧ xs.length ≤ 1000
        · rw [if_pos hz] at p'
          have hm : vs.length * j.toNat ≤ 1000000 := by
            have e1 : vs.length ≤ 1000 := by rw [l1.length]; exact hz.2.2
            have e2 : j.toNat ≤ 1000 := by omega
            exact Nat.le_trans (Nat.mul_le_mul e1 e2) (by decide)
          exact op_rep pins s σ H _ _ v u Q I rx ry ⟨_, _, _, rfl, rfl, q1, by omega, by omega, size_ok hm, fun b hb => new_lst S (l1.rep _) p' b hb⟩
        · rw [if_neg hz] at p'
          exact p'.elim
      · exact p'.elim
  | fdiv =>
    cases b1 <;> cases b2 <;> first | exact (show False from p).elim | skip
    rename_i i j
    have p' : PR B ι H noX (ofO (if j ≠ 0 ∧ j.natAbs.log2 < 9000 then some (.int (i.fdiv j), h) else none)) Q := p
    by_cases hz : j ≠ 0 ∧ j.natAbs.log2 < 9000
    · rw [if_pos hz] at p'
      exact op_fdivA pins s σ H _ _ v u Q I rx ry ⟨_, _, rfl, rfl, hz, p' ι H _ Gr.refl S (.int _)⟩
    · rw [if_neg hz] at p'
      exact p'.elim
  | mod =>
    cases b1 <;> cases b2 <;> first | exact (show False from p).elim | skip
    rename_i i j
    have p' : PR B ι H noX (ofO (if j ≠ 0 then some (.int (i.fmod j), h) else none)) Q := p
    by_cases hz : j ≠ 0
    · rw [if_pos hz] at p'
      exact op_modN pins s σ H _ _ v u Q I rx ry ⟨_, _, rfl, rfl, hz, p' ι H _ Gr.refl S (.int _)⟩
    · rw [if_neg hz] at p'
      exact p'.elim
  | pow =>
    cases b1 <;> cases b2 <;> first | exact (show False from p).elim | skip
    rename_i i j
    have p' : PR B ι H noX (ofO (if 0 ≤ j ∧ j ≤ 1000000 ∧ i.natAbs < 2 ^ 64 then some (.int (i ^ j.toNat), h) else none)) Q := p
    by_cases hz : 0 ≤ j ∧ j ≤ 1000000 ∧ i.natAbs < 2 ^ 64
    · rw [if_pos hz] at p'
      exact op_pow pins s σ H _ _ v u Q I rx ry ⟨_, _, rfl, rfl, hz, p' ι H _ Gr.refl S (.int _)⟩
    · rw [if_neg hz] at p'
      exact p'.elim
end
/-! ### deep data -/
section
variable {X : Cx} {B : BP} {ι : List Addr} {h : Hh} {H : Hp} {pins : List (Addr × Obj)} {σ : L2.St} {s : Shared}
theorem toP_reads (I : Inv X pins σ H s) (hK : X.K = B.K) (S : Sim B ι h H) : ∀ n : Nat, ∀ (d : D) (v : V) (u : Value) (p : PyData), toP h n d = some p → Be B ι H v d → L2.RelV v u → ∃ as, Reads s.heap u p as
  | 0, _, _, _, _, e, _, _ => by cases e
  | n + 1, d, v, u, p, e, b, r => by
    have all : ∀ (ds : List D) (vs : List V) (us : List Value) (ps : List PyData), ds.mapM (toP h n) = some ps → BeL B ι H vs ds → Vals vs us → ∃ as, ReadsAll s.heap us ps as := by
      intro ds
      induction ds with
      | nil =>
        intro vs us ps e l rv
        cases l
        cases rv
        rw [List.mapM_nil] at e
        cases e
        exact ⟨_, ReadsAll.nil⟩
      | cons d ds ih =>
        intro vs us ps e l rv
        cases l with
        | cons b1 l1 =>
          cases rv with
          | cons r1 r2 =>
            rw [List.mapM_cons] at e
            cases e1 : toP h n d with
            | none => rw [e1] at e; cases e
            | some p1 =>
              cases e2 : ds.mapM (toP h n) with
              | none => rw [e1, e2] at e; cases e
              | some p2 =>
                rw [e1, e2] at e
                cases e
                obtain ⟨as, q1⟩ := toP_reads I hK S n d _ _ p1 e1 b1 r1
                obtain ⟨bs, q2⟩ := ih _ _ p2 e2 l1 r2
                exact ⟨_, ReadsAll.cons q1 q2⟩
    cases b with
    | non => cases e; cases r; exact ⟨_, Reads.none⟩
    | bl x => cases e; cases r; exact ⟨_, Reads.bool x⟩
    | int i => cases e; obtain ⟨t, rfl⟩ := r; exact ⟨_, Reads.int i t⟩
    | str x => cases e; obtain ⟨t, rfl⟩ := r; exact ⟨_, Reads.str x t⟩
    | glo k => cases e
    | ty t => cases e
    | @tup a vs ds hs l =>
      have e' : (ds.mapM (toP h n)).map PyData.tuple = some p := e
      cases r
      obtain ⟨ps, e1, rfl⟩ := Option.map_eq_some_iff.mp e'
      rw [← hK] at hs
      obtain ⟨its, rv, ⟨o, ho, hc, m, hd⟩, _⟩ := I.tuple hs
      obtain ⟨as, q1⟩ := all ds vs its ps e1 l rv
      exact ⟨as, Reads.tuple ho hc hd q1⟩
    | @ref m a hm =>
      cases r
      have e' : (match h[m]? with
        | some (.lst xs) => (xs.mapM (toP h n)).map .list
        | some (.rol xs) => (xs.mapM (toP h n)).map .list
        | some (.dK []) => some (.dict [])
        | _ => none) = some p := e
      split at e'
      · rename_i xs ex
        obtain ⟨vs, q1, l⟩ := S.lst hm ex
        obtain ⟨ps, e1, rfl⟩ := Option.map_eq_some_iff.mp e'
        obtain ⟨z, its, k, rv, ho⟩ := (show ObjOk X.prog X.w H s.heap a (.lst vs) from I.hok a _ q1)
        obtain ⟨as, r1⟩ := all xs vs its ps e1 l rv
        exact ⟨_, Reads.list ho rfl rfl r1⟩
      · rename_i xs ex
        obtain ⟨ob, vs, q1, l, _⟩ := S.ob m a _ hm ex
        obtain ⟨ps, e1, rfl⟩ := Option.map_eq_some_iff.mp e'
        obtain ⟨_, z, its, k, rv, ho⟩ := (show ObjOk X.prog X.w H s.heap a (.frz ob (.lst vs)) from I.hok a _ q1)
        obtain ⟨as, r1⟩ := all xs vs its ps e1 l rv
        exact ⟨_, Reads.list ho rfl rfl r1⟩
      · rename_i ex
        obtain ⟨_, q1⟩ := S.ob m a _ hm ex
        cases e'
        obtain ⟨z, y, vs, rv, ob, es, ep, ho, hx, hd, _, he, _⟩ := (show ObjOk X.prog X.w H s.heap a (.dK []) from I.hok a _ q1)
        cases rv
        have hes : es.toList = [] := List.eq_nil_of_length_eq_zero he.length
        exact ⟨_, Reads.dict (kvs := []) ho hx.1 hd (by rw [hes]; exact ReadsAll.nil) (by rw [hes]; exact ReadsAll.nil)⟩
      · cases e'
theorem lst_sq {a : Addr} {n : Nat} {xs : List D} (S : Sim B ι h H) (hK : X.K = B.K) (hn : ι[n]? = some a) (e : seqOf h (.ref n) = some xs) : ∃ vs, SqL X.K H a vs ∧ BeL B ι H vs xs := by
  have e' : (match h[n]? with
    | some (.lst xs) => some xs
    | some (.rol xs) => some xs
    | _ => none) = some xs := e
  split at e'
  · rename_i ys ex
    cases e'
    obtain ⟨vs, q, l⟩ := S.lst hn ex
    exact ⟨vs, SqL.of q, l⟩
  · rename_i ys ex
    cases e'
    obtain ⟨o, vs, q, l, _⟩ := S.ob n a _ hn ex
    exact ⟨vs, .inl (.inr ⟨o, q⟩), l⟩
  · cases e'
theorem seq_sq {d : D} {v : V} {xs : List D} (S : Sim B ι h H) (hK : X.K = B.K) (b : Be B ι H v d) (e : seqOf h d = some xs) : ∃ a vs, v = .ref a ∧ (SqL X.K H a vs ∨ SqT X.K H a vs) ∧ BeL B ι H vs xs := by
  cases b with
  | tup hs l => cases e; exact ⟨_, _, rfl, .inr (by rw [hK]; exact hs), l⟩
  | ref hn =>
    obtain ⟨vs, q, l⟩ := lst_sq S hK hn e
    exact ⟨_, vs, rfl, .inl q, l⟩
  | _ => cases e
end
section
variable {X : Cx} {B : BP}
theorem Be.flat {ι : List Addr} {H : Hp} {v : V} {d : D} (b : Be B ι H v d) (f : Mn.flat d = true) : flatV v = true := by
  cases b <;> first | rfl | cases f
theorem Be.flats {ι : List Addr} {H : Hp} : ∀ {vs : List V} {ds : List D}, BeL B ι H vs ds → ds.all Mn.flat = true → vs.all flatV = true
  | _, _, .nil, _ => rfl
  | _, _, .cons b l, f => by
    rw [List.all_cons, Bool.and_eq_true] at f ⊢
    exact ⟨b.flat f.1, Be.flats l f.2⟩
theorem Be.eqF {ι : List Addr} {H : Hp} {v w : V} {d e : D} (b : Be B ι H v d) (b' : Be B ι H w e) (f : Mn.flat d = true) (f' : Mn.flat e = true) : eqV v w = Mn.eqF d e := by
  cases b <;> cases b' <;> first | rfl | cases f | cases f'
theorem Be.anyF {ι : List Addr} {H : Hp} {w : V} {e : D} (b' : Be B ι H w e) (f' : Mn.flat e = true) : ∀ {vs : List V} {ds : List D}, BeL B ι H vs ds → ds.all Mn.flat = true → inV w vs = ds.any fun z => Mn.eqF z e
  | _, _, .nil, _ => rfl
  | _, _, .cons b l, f => by
    rw [List.all_cons, Bool.and_eq_true] at f
    show (eqV _ w || inV w _) = _
    rw [List.any_cons, b.eqF b' f.1 f', Be.anyF b' f' l f.2]
def rC (B : BP) (op : Cop) : R2 := fun x y H Q => ∃ ι h d1 d2, Sim B ι h H ∧ Be B ι H x d1 ∧ Be B ι H y d2 ∧ PR B ι H noX (ofB h (cop op d1 d2 h)) Q
theorem PR_ofB {ι : List Addr} {H : Hp} {h : Hh} {o : Option Bool} {W : XK} {Q : VK} (S : Sim B ι h H) (p : PR B ι H W (ofB h o) Q) : ∃ b, o = some b ∧ Q (.bl b) H := by
  cases o with
  | none => exact (show False from p).elim
  | some b => exact ⟨b, rfl, p ι H _ Gr.refl S (.bl b)⟩
theorem deq_run {pins : List (Addr × Obj)} {s : Shared} {σ : L2.St} {H : Hp} {x y : V} {v u : Value} {ι : List Addr} {h : Hh} {d1 d2 : D} {b : Bool} (I : Inv X pins σ H s) (hK : X.K = B.K) (S : Sim B ι h H) (b1 : Be B ι H x d1) (b2 : Be B ι H y d2) (rx : L2.RelV x v) (ry : L2.RelV y u)
    (e : deq h d1 d2 = some b) : ∃ p q as bs, Reads s.heap v p as ∧ Reads s.heap u q bs ∧ SeqAt.shaped p = true ∧ SeqAt.shaped q = true ∧ PyData.eqv p q = b := by
  unfold deq at e
  split at e
  · rename_i p q e1 e2
    split at e
    · rename_i hz
      cases e
      rw [Bool.and_eq_true] at hz
      obtain ⟨as, r1⟩ := toP_reads I hK S 60 d1 x v p e1 b1 rx
      obtain ⟨bs, r2⟩ := toP_reads I hK S 60 d2 y u q e2 b2 ry
      exact ⟨p, q, as, bs, r1, r2, hz.1, hz.2, rfl⟩
    · cases e
  · cases e
theorem op_cop (hK : X.K = B.K) (hu : X.A.units + 64 < cLine) (op : Cop) : OpR X (compareOp op.op) (rC B op) := by
  intro pins s σ H x y v u Q I rx ry ⟨ι, h, d1, d2, S, b1, b2, p⟩
  obtain ⟨b, e, q⟩ := PR_ofB S p
  have eqd : deq h d1 d2 = some b → wpAny (model X.prog X.w) X.A (compareOp .Eq v u) (EP X pins σ Q) X.xe s := fun e => by
    obtain ⟨p, p', as, bs, r1, r2, s1, s2, rfl⟩ := deq_run I hK S b1 b2 rx ry e
    exact SeqAt.compareEq_shaped r1 r2 s1 s2 hu ⟨.bl _, H, I, rfl, q⟩
  have ned : (deq h d1 d2).map (!·) = some b → wpAny (model X.prog X.w) X.A (compareOp .NotEq v u) (EP X pins σ Q) X.xe s := fun e => by
    obtain ⟨c, e1, rfl⟩ := Option.map_eq_some_iff.mp e
    obtain ⟨p, p', as, bs, r1, r2, s1, s2, rfl⟩ := deq_run I hK S b1 b2 rx ry e1
    exact SeqAt.compareNe_shaped r1 r2 s1 s2 hu ⟨.bl _, H, I, rfl, q⟩
  have ind : ∀ (neg : Bool) (c : Bool), din h d1 d2 = some c → (b = if neg then !c else c) → rIn X.K neg x y H Q := fun neg c e eb => by
    unfold din at e
    split at e
    · rename_i xs ex
      split at e
      · rename_i hz
        cases e
        rw [Bool.and_eq_true] at hz
        obtain ⟨a, vs, rfl, hs, l⟩ := seq_sq (X := X) S hK b2 ex
        refine ⟨a, vs, rfl, hs, b1.flat hz.1, Be.flats l hz.2, ?_⟩
        have e3 := Be.anyF b1 hz.1 l hz.2
        rw [e3, ← eb]
        exact q
      · cases e
    · cases e
  cases op with
  | lt =>
    cases b1 <;> cases b2 <;> first | cases e; done | skip
    cases e
    exact op_lt pins s σ H _ _ v u Q I rx ry ⟨_, _, rfl, rfl, q⟩
  | le =>
    cases b1 <;> cases b2 <;> first | cases e; done | skip
    cases e
    exact op_le pins s σ H _ _ v u Q I rx ry ⟨_, _, rfl, rfl, q⟩
  | gt =>
    cases b1 <;> cases b2 <;> first | cases e; done | skip
    cases e
    exact op_gt pins s σ H _ _ v u Q I rx ry ⟨_, _, rfl, rfl, q⟩
  | ge =>
    cases b1 <;> cases b2 <;> first | cases e; done | skip
    cases e
    exact op_ge pins s σ H _ _ v u Q I rx ry ⟨_, _, rfl, rfl, q⟩
  | eq =>
    cases b1 <;> cases b2 <;> first | exact eqd e | (cases e; exact op_eq pins s σ H _ _ v u Q I rx ry ⟨rfl, by rw [L2.dec_int, Bool.beq_eq_decide_eq]; exact q⟩)
  | ne =>
    cases b1 <;> cases b2 <;> first | exact ned e | (cases e; exact op_ne pins s σ H _ _ v u Q I rx ry ⟨rfl, by rw [L2.dec_int, Bool.beq_eq_decide_eq]; exact q⟩)
  | isIn =>
    exact op_in_seq pins s σ H x y v u Q I rx ry (ind false b e rfl)
  | notIn =>
    obtain ⟨c, e1, rfl⟩ := Option.map_eq_some_iff.mp e
    exact op_notIn_seq pins s σ H x y v u Q I rx ry (ind true c e1 rfl)
  | is =>
    cases b2 <;> cases b1 <;> cases e <;> exact op_isN pins s σ H _ _ v u Q I rx ry ⟨rfl, q⟩
  | isNot =>
    cases b2 <;> cases b1 <;> cases e <;> exact op_notN pins s σ H _ _ v u Q I rx ry ⟨rfl, q⟩
end
end Mn


set_option Elab.async false
set_option linter.all false
set_option maxHeartbeats 4000000
set_option maxRecDepth 20000
/-! Items, built-in functions, truth. -/
namespace Mn
open PySem PySem.Spec PyProof.Rows L2
def Bl.val : Bl → Value
  | .len => .builtin "len" | .all => .builtin "all" | .any => .builtin "any" | .abs => .builtin "abs" | .max => .builtin "max" | .min => .builtin "min" | .int => .type "int"
  | .repr => .builtin "repr" | .isi => .builtin "isinstance" | .gcd => .builtin "math.gcd"
section
variable {X : Cx} {B : BP}
theorem ix_eq {n : Nat} {i : Int} : ixOf n i = ixN n i := by
  unfold ixOf ixN
  by_cases h : 0 ≤ i
  · simp only [h, if_true]
  · simp only [h, if_false]
    by_cases h2 : 0 ≤ i + n
    · rw [if_pos h2, if_pos (by omega)]
    · rw [if_neg h2, if_neg (by omega)]
def rIxM (B : BP) : R2 := fun x y H Q => ∃ ι h d1 d2, Sim B ι h H ∧ Be B ι H x d1 ∧ Be B ι H y d2 ∧ PR B ι H noX (match dix d1 d2 h with
  | some d => .ok d h
  | none => .no) Q
theorem ix_m (hK : X.K = B.K) : IxR X (rIxM B) := by
  intro value slice pins s σ H x y v u Q I rx ry ⟨ι, h, d1, d2, S, b1, b2, p⟩ hs
  cases e : dix d1 d2 h with
  | none => rw [e] at p; exact (show False from p).elim
  | some d =>
    rw [e] at p
    cases d2 with
    | int i =>
      cases b2
      cases e1 : seqOf h d1 with
      | none => simp only [dix, e1] at e; cases e
      | some xs =>
        simp only [dix, e1] at e
        obtain ⟨a, vs, rfl, hq, l⟩ := seq_sq (X := X) S hK b1 e1
        obtain ⟨j, e2, e3⟩ := Option.bind_eq_some_iff.mp e
        obtain ⟨w, q1, q2⟩ := l.at e3
        have hat : atI vs i = some w := by
          unfold atI
          rw [← ix_eq, l.length, e2]
          exact q1
        have q := p ι H w Gr.refl S q2
        rcases hq with hq | hq
        · exact ix_list value slice pins s σ H _ _ v u Q I rx ry ⟨_, _, _, _, rfl, rfl, hq, hat, q⟩ hs
        · exact ix_tup value slice pins s σ H _ _ v u Q I rx ry ⟨_, _, _, _, rfl, rfl, hq, hat, q⟩ hs
    | _ => cases e1 : seqOf h d1 <;> simp only [dix, e1] at e <;> cases e
theorem allB_be {ι : List Addr} {H : Hp} : ∀ {vs : List V} {xs : List D} {bs : List Bool}, BeL B ι H vs xs → allB xs = some bs → vs = bs.map V.bl
  | _, _, _, .nil, e => by cases e; rfl
  | _, _, _, .cons b l, e => by
    cases b with
    | bl c =>
      obtain ⟨cs, e1, rfl⟩ := Option.map_eq_some_iff.mp (show (allB _).map (c :: ·) = some _ from e)
      rw [allB_be l e1]
      rfl
    | _ => cases e
theorem ty_of {ι : List Addr} {h : Hh} {H : Hp} {v : V} {d : D} {t : Ty} (S : Sim B ι h H) (b : Be B ι H v d) (e : tyOf h d = some t) : TyX B.K H v (.type t.nm) := by
  cases b with
  | bl c => cases e; exact .base (.bl c)
  | int i => cases e; exact .base (.int i)
  | str x => cases e; exact .base (.str x)
  | tup hs l =>
    cases e
    rcases hs with hs | ⟨o, its, n, h1, h2, _⟩
    · rcases hs with hs | ⟨o, hs⟩
      · exact .base (.tup hs)
      · exact .fTuple hs
    · exact .kTuple h1 h2
  | @ref n a hn =>
    have e' : (match h[n]? with
      | some (.lst _) => some Ty.list
      | some (.dK _) => some Ty.dict
      | _ => none) = some t := e
    split at e'
    · rename_i xs ex
      cases e'
      obtain ⟨vs, q, _⟩ := S.lst hn ex
      exact .base (.lst q)
    · rename_i kvs ex
      cases e'
      obtain ⟨_, q⟩ := S.ob n a _ hn ex
      exact .base (.dK q)
    · cases e'
  | _ => cases e
theorem kit_tt (a b : Ty) : kitB a.nm b.nm = some (isiT a b) := by cases a <;> cases b <;> decide +kernel
theorem kit_nt (b : Ty) : kitB "NoneType" b.nm = some false := by cases b <;> decide +kernel
def rBl (B : BP) (b : Bl) : List V → Hp → VK → Prop := fun vs H Q => ∃ ι h ds, Sim B ι h H ∧ BeL B ι H vs ds ∧ PR B ι H noX (ofO (bltn b ds h)) Q
theorem PR_ofO {ι : List Addr} {H : Hp} {h : Hh} {o : Option (D × Hh)} {W : XK} {Q : VK} (p : PR B ι H W (ofO o) Q) : ∃ d h', o = some (d, h') ∧ PR B ι H W (.ok d h') Q := by
  cases o with
  | none => exact (show False from p).elim
  | some x => exact ⟨x.1, x.2, rfl, p⟩
theorem bel1 {ι : List Addr} {H : Hp} {vs : List V} {d : D} (l : BeL B ι H vs [d]) : ∃ v, vs = [v] ∧ Be B ι H v d := by
  cases l with
  | cons b l => cases l; exact ⟨_, rfl, b⟩
theorem bel2 {ι : List Addr} {H : Hp} {vs : List V} {d e : D} (l : BeL B ι H vs [d, e]) : ∃ v w, vs = [v, w] ∧ Be B ι H v d ∧ Be B ι H w e := by
  cases l with
  | cons b l =>
    obtain ⟨w, rfl, b'⟩ := bel1 l
    exact ⟨_, w, rfl, b, b'⟩
theorem repr_run {pins : List (Addr × Obj)} {σ : L2.St} {s : Shared} {ι : List Addr} {h : Hh} {H : Hp} {v : V} {u : Value} {d : D} {p : PyData} {Q : VK} (I : Inv X pins σ H s) (hK : X.K = B.K) (hu : X.A.units + 100 < cLine) (hg : X.A.guards = some []) (S : Sim B ι h H) (b : Be B ι H v d) (r : L2.RelV v u)
    (e : toP h 60 d = some p) (hs : p.showable = true) (hd : p.depth ≤ 60) (hz : p.shown.length ≤ 1000000) (hx : dictOk p = true) (q : Q (.str p.shown) H) : wpAny (model X.prog X.w) X.A (call (.builtin "repr") [u]) (EP X pins σ Q) X.xe s := by
  obtain ⟨as, rd⟩ := toP_reads I hK S 60 d v u p e b r
  have fin : ∀ t, EP X pins σ Q (.str p.shown t) { s with toks := s.toks + 1 } := fun t => ⟨.str _, H, I.tok _, ⟨_, rfl⟩, q⟩
  have big : ∀ {a : Addr}, Reads s.heap (.ref a) p as → (p.hasDict = true → sysModules ∉ as) → wpAny (model X.prog X.w) X.A (call (.builtin "repr") [.ref a]) (EP X pins σ Q) X.xe s := fun {a} rd hm =>
    repr_of_reads' rd hs hm hg (by omega) (fun _ _ z => z) (fun h' u tk k => ⟨.str _, H, I.kept k, ⟨_, rfl⟩, q⟩) (size_ok hz)
  cases rd with
  | none => exact PySem.P.repr_of_none ⟨.str _, H, I.tok _, ⟨_, rfl⟩, q⟩
  | bool c => exact PySem.P.repr_of_bool ⟨.str _, H, I.tok _, ⟨_, rfl⟩, q⟩
  | int i t => exact PySem.P.repr_of_int (of_decide_eq_true hs) ⟨.str _, H, I.tok _, ⟨_, rfl⟩, q⟩
  | str x t => exact PySem.P.repr_of_str ⟨.str _, H, I.tok _, ⟨_, rfl⟩, q⟩ (size_ok hz)
  | list h1 h2 h3 h4 =>
    refine big (.list h1 h2 h3 h4) fun hd => ?_
    have hx' : (!(PyData.hasDict _)) = true := hx
    rw [hd] at hx'
    cases hx'
  | tuple h1 h2 h3 h4 =>
    refine big (.tuple h1 h2 h3 h4) fun hd => ?_
    have hx' : (!(PyData.hasDict _)) = true := hx
    rw [hd] at hx'
    cases hx'
  | @dict a o es n kvs as1 bs h1 h2 h3 h4 h5 =>
    refine big (.dict h1 h2 h3 h4 h5) fun hd => ?_
    have hk : kvs = [] := by
      cases kvs with
      | nil => rfl
      | cons _ _ =>
        simp [dictOk, PyData.hasDict] at hx
    subst hk
    have e1 : as1 = [] := by
      cases h4e : (es.toList.map (·.key)) with
      | nil => rw [h4e] at h4; cases h4; rfl
      | cons _ _ => rw [h4e] at h4; cases h4
    have e2 : bs = [] := by
      cases h5e : (es.toList.map (·.val)) with
      | nil => rw [h5e] at h5; cases h5; rfl
      | cons _ _ => rw [h5e] at h5; cases h5
    subst e1 e2
    have ha : a ≠ sysModules := by
      cases b with
      | tup _ _ =>
        have e' : (List.mapM (toP h 59) _).map PyData.tuple = some (.dict []) := e
        obtain ⟨_, _, z⟩ := Option.map_eq_some_iff.mp e'
        cases z
      | @ref m c hm =>
        cases r
        have e' : (match h[m]? with
          | some (.lst xs) => (xs.mapM (toP h 59)).map PyData.list
          | some (.rol xs) => (xs.mapM (toP h 59)).map .list
          | some (.dK []) => some (.dict [])
          | _ => none) = some (.dict []) := e
        split at e'
        · obtain ⟨_, _, z⟩ := Option.map_eq_some_iff.mp e'; cases z
        · obtain ⟨_, _, z⟩ := Option.map_eq_some_iff.mp e'; cases z
        · rename_i ex
          obtain ⟨_, q1⟩ := S.ob m a _ hm ex
          obtain ⟨_, y, _⟩ := (show ObjOk X.prog X.w H s.heap a (.dK []) from I.hok a _ q1)
          exact fun z => by rw [z] at y; simp at y
        · cases e'
      | glo k => cases e
      | ty t => cases e
      | non => cases r
      | bl c => cases r
      | int i => obtain ⟨_, z⟩ := r; cases z
      | str i => obtain ⟨_, z⟩ := r; cases z
    simpa using fun z => ha z.symm
theorem call_bl (hK : X.K = B.K) (hu : X.A.units + 100 < cLine) (hc : X.calm = true) (b : Bl) (hb : b ≠ .repr) : CallR X b.val (rBl B b) := by
  intro pins s σ H vs us Q I r ⟨ι, h, ds, S, l, p⟩
  obtain ⟨d', h', e, p⟩ := PR_ofO (h := h) p
  cases b with
  | repr => exact absurd rfl hb
  | len =>
    match ds, e with
    | [x], e =>
      obtain ⟨v, rfl, b1⟩ := bel1 l
      obtain ⟨xs, e1, e2⟩ := Option.map_eq_some_iff.mp (show (seqOf h x).map (fun xs => (D.int xs.length, h)) = some (d', h') from e)
      cases e2
      obtain ⟨a, ws, rfl, hq, l2⟩ := seq_sq (X := X) S hK b1 e1
      refine call_len_seq pins s σ H _ us Q I r ⟨_, _, rfl, hq, ?_⟩
      rw [l2.length]
      exact p ι H _ Gr.refl S (.int _)
  | all =>
    match ds, e with
    | [.ref n], e =>
      obtain ⟨v, rfl, b1⟩ := bel1 l
      cases b1 with
      | @ref _ a hn =>
        have e' : (match h[n]? with
          | some (.lst xs) => (allB xs).map fun bs => (D.bl (bs.all id), h)
          | _ => none) = some (d', h') := e
        split at e'
        · rename_i xs ex
          obtain ⟨ws, q, l2⟩ := S.lst hn ex
          obtain ⟨bs, e1, e2⟩ := Option.map_eq_some_iff.mp e'
          cases e2
          refine cr_all hc pins s σ H _ us Q I r ⟨a, bs, rfl, SqL.of (by rw [q, allB_be l2 e1]), p ι H _ Gr.refl S (.bl _)⟩
        · cases e'
  | any =>
    match ds, e with
    | [.ref n], e =>
      obtain ⟨v, rfl, b1⟩ := bel1 l
      cases b1 with
      | @ref _ a hn =>
        have e' : (match h[n]? with
          | some (.lst xs) => (allB xs).map fun bs => (D.bl (bs.any id), h)
          | _ => none) = some (d', h') := e
        split at e'
        · rename_i xs ex
          obtain ⟨ws, q, l2⟩ := S.lst hn ex
          obtain ⟨bs, e1, e2⟩ := Option.map_eq_some_iff.mp e'
          cases e2
          refine cr_any hc pins s σ H _ us Q I r ⟨a, bs, rfl, SqL.of (by rw [q, allB_be l2 e1]), p ι H _ Gr.refl S (.bl _)⟩
        · cases e'
  | abs =>
    match ds, e with
    | [.int i], e =>
      cases e
      obtain ⟨v, rfl, b1⟩ := bel1 l
      cases b1
      exact call_abs pins s σ H _ us Q I r ⟨_, rfl, p ι H _ Gr.refl S (.int _)⟩
  | max =>
    match ds, e with
    | [.int i, .int j], e =>
      cases e
      obtain ⟨v, w, rfl, b1, b2⟩ := bel2 l
      cases b1
      cases b2
      exact call_max2 hc pins s σ H _ us Q I r ⟨_, _, rfl, p ι H _ Gr.refl S (.int _)⟩
  | min =>
    match ds, e with
    | [.int i, .int j], e =>
      cases e
      obtain ⟨v, w, rfl, b1, b2⟩ := bel2 l
      cases b1
      cases b2
      exact call_min2 hc pins s σ H _ us Q I r ⟨_, _, rfl, p ι H _ Gr.refl S (.int _)⟩
  | int =>
    match ds, e with
    | [.int i], e =>
      cases e
      obtain ⟨v, rfl, b1⟩ := bel1 l
      cases b1
      exact call_int1 pins s σ H _ us Q I r (.inl ⟨_, rfl, p ι H _ Gr.refl S (.int _)⟩)
    | [.bl i], e =>
      cases e
      obtain ⟨v, rfl, b1⟩ := bel1 l
      cases b1
      exact call_int1 pins s σ H _ us Q I r (.inr ⟨_, rfl, p ι H _ Gr.refl S (.int _)⟩)
  | gcd =>
    match ds, e with
    | [.int i, .int j], e =>
      cases e
      obtain ⟨v, w, rfl, b1, b2⟩ := bel2 l
      cases b1
      cases b2
      exact cr_gcd pins s σ H _ us Q I r ⟨_, _, rfl, p ι H _ Gr.refl S (.int _)⟩
  | isi =>
    match ds, e with
    | [x, .ty t], e =>
      obtain ⟨v, w, rfl, b1, b2⟩ := bel2 l
      cases b2
      by_cases hx : x = .non
      · subst hx
        cases e
        cases b1
        exact call_isi pins s σ H _ us Q I r ⟨_, _, _, _, _, rfl, .ty _, .base .non, kit_ty (kit_nt t), p ι H _ Gr.refl S (.bl _)⟩
      · have e' : (tyOf h x).map (fun s => (D.bl (isiT s t), h)) = some (d', h') := by
          cases x <;> first | exact absurd rfl hx | exact e
        obtain ⟨s1, e1, e2⟩ := Option.map_eq_some_iff.mp e'
        cases e2
        exact call_isi pins s σ H _ us Q I r ⟨_, _, _, _, _, rfl, .ty _, by rw [hK]; exact ty_of S b1 e1, kit_ty (kit_tt s1 t), p ι H _ Gr.refl S (.bl _)⟩
theorem call_repr (hK : X.K = B.K) (hu : X.A.units + 100 < cLine) (hg : X.A.guards = some []) : CallR X (.builtin "repr") (rBl B .repr) := by
  intro pins s σ H vs us Q I r ⟨ι, h, ds, S, l, p⟩
  obtain ⟨d', h', e, p⟩ := PR_ofO (h := h) p
  match ds, e with
  | [x], e =>
    obtain ⟨v, rfl, b1⟩ := bel1 l
    obtain ⟨u, rfl, r1⟩ := vals1 r
    have e' : (match toP h 60 x with
      | some p => if p.showable && decide (p.depth ≤ 60) && decide (p.shown.length ≤ 1000000) && dictOk p then some (D.str p.shown, h) else none
      | none => none) = some (d', h') := e
    split at e'
    · rename_i pd e1
      split at e'
      · rename_i hz
        cases e'
        simp only [Bool.and_eq_true, decide_eq_true_eq] at hz
        obtain ⟨⟨⟨z1, z2⟩, z3⟩, z4⟩ := hz
        exact repr_run I hK hu hg S b1 r1 e1 z1 z2 z3 z4 (p ι H _ Gr.refl S (.str _))
      · cases e'
    · cases e'
/-- a value's truth -/
theorem tru_of {ι : List Addr} {h : Hh} {H : Hp} {v : V} {d : D} {b : Bool} (hK : X.K = B.K) (S : Sim B ι h H) (b1 : Be B ι H v d) (e : truth h d = some b) : TruV X.K v H b := by
  have hl : ∀ {vs : List V} {ds : List D}, BeL B ι H vs ds → (!vs.isEmpty) = !ds.isEmpty := fun l => by cases l <;> rfl
  cases b1 with
  | non => cases e; rfl
  | bl c => cases e; rfl
  | int i => cases e; rfl
  | tup hs l => cases e; exact .inr (.inl ⟨_, by rw [hK]; exact hs, (hl l).symm⟩)
  | @ref n a hn =>
    have e' : (match h[n]? with
      | some (.lst xs) => some (!xs.isEmpty)
      | some (.rol xs) => some (!xs.isEmpty)
      | _ => none) = some b := e
    split at e'
    · rename_i xs ex
      cases e'
      obtain ⟨vs, q, l⟩ := S.lst hn ex
      exact .inl ⟨_, SqL.of q, (hl l).symm⟩
    · rename_i xs ex
      cases e'
      obtain ⟨o, vs, q, l, _⟩ := S.ob n a _ hn ex
      exact .inl ⟨_, .inl (.inr ⟨o, q⟩), (hl l).symm⟩
    · cases e'
  | _ => cases e
end
end Mn


set_option Elab.async false
set_option linter.all false
set_option maxHeartbeats 4000000
set_option maxRecDepth 20000
/-! The check of a text against its form; the readings. -/
namespace Mn
open PySem PySem.Spec PyProof.Rows L2
/-! ### the check -/
structure Cc where
  N : List Str
  sc : Scope
  fnm : List Str
  cnm : List Str
  knm : List Str
  free : List Str
  gcd : Bool
  st : Bool
  cm : Bool
  fnB : Bool
  thk : Option Str
  xc : Bool
  lam : Scope → Bool
def Cc.blk (c : Cc) (scope : Scope) : Cc := { c with sc := relS scope c.sc, st := false, fnB := false, thk := none, xc := false, lam := fun _ => false }
/-- a lambda's body -/
def Cc.lm (c : Cc) (scope : Scope) : Cc := { c with sc := scope, st := true, fnB := false, thk := none, xc := false, cm := true, lam := fun _ => false }
def nmB (x : Str) : Bool := !(x == ("__debug__" : Str)) && !(x == ("__classdict__" : Str))
def visB (sc : Scope) (x : Str) : Bool := match sc.names.lookup x with
  | some .local => true
  | some .cell => true
  | some .free => true
  | _ => false
def glB (sc : Scope) (x : Str) : Bool := nmB x && (match sc.names.lookup x with
  | some .globalImplicit => true
  | _ => false)
/-- where a name is stored -/
def locB (c : Cc) (x : Str) : Bool := match c.sc.names.lookup x with
  | some .local => true
  | some .cell => c.fnB
  | _ => false
def locO (c : Cc) (x : Str) : Bool := match c.sc.names.lookup x with
  | some .local => true
  | _ => false
def noStar : Expr → Bool
  | .Starred _ _ => false
  | _ => true
def plainIx : Expr → Bool
  | .Slice _ _ _ _ => false
  | _ => true
def noSet : Expr → Bool
  | .Set _ _ _ => false
  | _ => true
def noComp : Expr → Bool
  | .ListComp _ _ _ _ => false
  | .SetComp _ _ _ _ => false
  | .DictComp _ _ _ _ _ => false
  | _ => true
/-- an expression whose test is its value's truth -/
def plainT : Expr → Bool
  | .UnaryOp .Not _ _ => false
  | .BoolOp _ _ _ => false
  | .IfExp _ _ _ _ => false
  | .Compare _ _ _ _ => false
  | _ => true
def Bl.nm : Bl → Str
  | .len => "len" | .all => "all" | .any => "any" | .abs => "abs" | .max => "max" | .min => "min" | .int => "int" | .repr => "repr" | .isi => "isinstance" | .gcd => "gcd"
def blB (c : Cc) : Bl → Bool
  | .gcd => c.gcd
  | .all => c.cm && decide (Bl.nm .all ∈ c.free)
  | .any => c.cm && decide (Bl.nm .any ∈ c.free)
  | .max => c.cm && decide (Bl.nm .max ∈ c.free)
  | .min => c.cm && decide (Bl.nm .min ∈ c.free)
  | .repr => decide (Bl.nm .repr ∈ c.free)
  | b => c.cm && decide (b.nm ∈ c.free)
def opIs : Bop → Operator → Bool
  | .add, .Add => true | .sub, .Sub => true | .mul, .Mult => true | .fdiv, .FloorDiv => true | .mod, .Mod => true | .pow, .Pow => true
  | _, _ => false
def copIs : Cop → CmpOp → Bool
  | .eq, .Eq => true | .ne, .NotEq => true | .lt, .Lt => true | .le, .LtE => true | .gt, .Gt => true | .ge, .GtE => true | .isIn, .In => true | .notIn, .NotIn => true | .is, .Is => true | .isNot, .IsNot => true
  | _, _ => false
theorem opIs_eq {b : Bop} {o : Operator} (h : opIs b o = true) : o = b.op := by
  cases b <;> cases o <;> first | rfl | cases h
theorem copIs_eq {b : Cop} {o : CmpOp} (h : copIs b o = true) : o = b.op := by
  cases b <;> cases o <;> first | rfl | cases h
def atB (l : List Str) (i : Nat) (x : Str) : Bool := decide (l[i]? = some x)
def kwNil : List Keyword → Bool
  | [] => true
  | _ => false
mutual
def gIn (own : List Nat) : G → Bool
  | .nm i => decide (i ∈ own)
  | .tup gs => gsIn own gs
  | _ => false
def gsIn (own : List Nat) : Gs → Bool
  | .nil => true
  | .cons g gs => gIn own g && gsIn own gs
end
mutual
def mE (c : Cc) : E → Expr → Bool
  | .no, _ => true
  | .var i, x => (match x with | .Name n _ => atB c.N i n && visB c.sc n && nmB n | _ => false)
  | .non, x => (match x with | .Constant .none _ _ => true | _ => false)
  | .bl b, x => (match x with | .Constant (.bool b') _ _ => b == b' | _ => false)
  | .int i, x => (match x with | .Constant (.int i') _ _ => decide (i = i') | _ => false)
  | .str s, x => (match x with | .Constant (.str s') _ _ => decide (s = s') | _ => false)
  | .gv k, x => (match x with | .Name n _ => atB c.fnm k n && glB c.sc n | _ => false)
  | .gc k, x => (match x with | .Name n _ => atB c.cnm k n && glB c.sc n | _ => false)
  | .ty t, x => (match x with | .Name n _ => decide (n = Str.ofString t.nm) && decide (n ∈ c.free) && glB c.sc n | _ => false)
  | .bin op a b, x => (match x with | .BinOp l o r _ => opIs op o && mE c a l && mE c b r | _ => false)
  | .neg a, x => (match x with | .UnaryOp .USub l _ => mE c a l | _ => false)
  | .cmp op a b, x => (match x with | .Compare l [o] [r] _ => copIs op o && !(behindInMarks o r) && mE c a l && mE c b r | _ => false)
  | .chain o1 o2 a b d, x => (match x with | .Compare l [p1, p2] [r, t] _ => copIs o1 p1 && copIs o2 p2 && !(behindInMarks p2 t) && noSet r && noSet t && mE c a l && mE c b r && mE c d t | _ => false)
  | .and a b, x => (match x with | .BoolOp .And (l :: r :: rs) p => mE c a l && mE c b (.BoolOp .And (r :: rs) p) | _ => false)
  | .or a b, x => (match x with | .BoolOp .Or (l :: r :: rs) p => mE c a l && mE c b (.BoolOp .Or (r :: rs) p) | _ => false)
  | .last a, x => (match x with | .BoolOp _ [l] _ => mE c a l | _ => false)
  | .not a, x => (match x with | .UnaryOp .Not l _ => mE c a l | _ => false)
  | .ite d a b, x => (match x with | .IfExp t l r _ => mE c d t && mE c a l && mE c b r | _ => false)
  | .tup es, x => (match x with | .Tuple xs _ _ => mEs c es xs | _ => false)
  | .lst es, x => (match x with | .List xs _ => mEs c es xs | _ => false)
  | .dnew, x => (match x with | .Dict [] [] _ => true | _ => false)
  | .call k es, x => (match x with | .Call (.Name n _) (y :: ys) [] _ => c.cm && atB c.fnm k n && glB c.sc n && mEs c es (y :: ys) | _ => false)
  | .callB b es, x => (match x with | .Call (.Name n _) (y :: ys) [] _ => decide (n = b.nm) && blB c b && glB c.sc n && mEs c es (y :: ys) | _ => false)
  | .callV i es, x => (match x with | .Call (.Name n _) (y :: ys) [] _ => c.cm && atB c.N i n && visB c.sc n && nmB n && mEs c es (y :: ys) | _ => false)
  | .callT k e, x => (match x with | .Call (.Name n _) [.Lambda ⟨[], [], none, [], [], none, []⟩ y scope _] [] _ => c.cm && atB c.fnm k n && glB c.sc n && c.lam scope && mE (c.lm scope) e y | _ => false)
  | .thk i, x => (match x with | .Call (.Name n _) [] [] _ => atB c.N i n && decide (c.thk = some n) | _ => false)
  | .meth o m es, x => (match m, x with | .append, .Call (.Attribute (.Name y yp) n ap) [z] [] cp => decide (n = ("append" : Str)) && (ap.endLine == cp.line) && mE c o (.Name y yp) && mEs c es [z] | _, _ => false)
  | .ix a b, x => (match x with | .Subscript l r _ => plainIx r && mE c a l && mE c b r | _ => false)
  | .lc e g it own, x => (match x with | .ListComp y [⟨tg, iter, [], 0⟩] scope _ => c.cm && blkC c.N c.sc scope (own.map fun i => (c.N.getD i Str.empty, i)) && noSet iter && gIn own g && mIt c it iter && mG (c.blk scope) g tg && mE (c.blk scope) e y | _ => false)
  | .xattr i f, x => (match x with | .Attribute (.Name n _) m _ => c.xc && decide (f = m) && atB c.N i n && visB c.sc n && nmB n | _ => false)
def mEs (c : Cc) : Es → List Expr → Bool
  | .nil, xs => (match xs with | [] => true | _ => false)
  | .cons e es, xs => (match xs with | y :: ys => noStar y && mE c e y && mEs c es ys | _ => false)
def mIt (c : Cc) : It → Expr → Bool
  | .no, _ => true
  | .seq e, x => mE c e x
  | .rng e, x => (match x with | .Call (.Name n _) [y] [] _ => decide (n = ("range" : Str)) && decide (n ∈ c.free) && glB c.sc n && noStar y && mE c e y | _ => false)
def mG (c : Cc) : G → Expr → Bool
  | .no, _ => true
  | .nm i, x => (match x with | .Name n _ => atB c.N i n && locB c n | _ => false)
  | .tup gs, x => (match x with | .Tuple xs _ _ => c.cm && mGs c gs xs | _ => false)
  | .sub a b, x => (match x with | .Subscript l r _ => plainIx r && mE c a l && mE c b r | _ => false)
def mGs (c : Cc) : Gs → List Expr → Bool
  | .nil, xs => (match xs with | [] => true | _ => false)
  | .cons g gs, xs => (match xs with | y :: ys => noStar y && mG c g y && mGs c gs ys | _ => false)
end
/-! ### readings -/
structure Q0 where
  B : BP
  xa : Nat → Addr
  px : List Addr → Hp → Prop
  W : WX
def Q0.at (q : Q0) (ι : List Addr) (h : Hh) (σd : Sl) (σ : L2.St) (H : Hp) : Prop := Sim q.B ι h H ∧ q.px ι H ∧ SimS q.B q.xa ι σd σ H
def tE (q : Q0) (f : Sl → Hh → R) : TE := fun σ H Q => ∃ ι h σd, q.at ι h σd σ H ∧ PR q.B ι H (fun c d H' => q.W c d σ H') (f σd h) Q
def tT (q : Q0) (f : Sl → Hh → R) : TT := fun σ H Q => ∃ ι h σd, q.at ι h σd σ H ∧ PR q.B ι H (fun c d H' => q.W c d σ H') (f σd h) fun v H' => ∃ b, v = .bl b ∧ Q b H'
def tA (q : Q0) (f : Sl → Hh → RL) : TA := fun σ H Q => ∃ ι h σd, q.at ι h σd σ H ∧ PRL q.B ι H (fun c d H' => q.W c d σ H') (f σd h) Q
def tSt (q : Q0) (f : Sl → Hh → RS) : TS := fun Z σ H => ∃ ι h σd, q.at ι h σd σ H ∧ PRS q.B q.xa ι H q.W (f σd h) Z
def tGt (q : Q0) (f : D → Sl → Hh → RS) : TG := fun v σ H Q => ∃ ι h σd d, q.at ι h σd σ H ∧ Be q.B ι H v d ∧ PRS q.B q.xa ι H q.W (f d σd h) { nx := Q, rt := fun _ _ => False }
def tGts (q : Q0) (f : List D → Sl → Hh → RS) : TGs := fun vs σ H Q => ∃ ι h σd ds, q.at ι h σd σ H ∧ BeL q.B ι H vs ds ∧ PRS q.B q.xa ι H q.W (f ds σd h) { nx := Q, rt := fun _ _ => False }
/-! ### what a context gives -/
def thkR (A : Ar) (i : Nat) (σ : Sl) (h : Hh) : R := match σ[i]? with
  | some (.raw 0) => A.th h
  | _ => .no
def xatR (A : Ar) (i : Nat) (f : Str) (σ : Sl) (h : Hh) : R := match σ[i]?, A.xc with
  | some (.raw 1), some (f', d) => if f' = f then .ok d h else .no
  | _, _ => .no
def lamR (L : Lv) (k : Nat) (e : E) (σ : Sl) (h : Hh) : R := match L.callT k (fun h1 => L.low e σ h1) h with
  | .ok d h1 => .ok d h1
  | _ => .no
/-- a def's promise by the evaluator; at a level -/
def spF (B : BP) (L : Lv) (k : Nat) : Sp := fun vs H Q E => ∃ ι h ds, Sim B ι h H ∧ BeL B ι H vs ds ∧ PR B ι H E (L.call k ds h) Q
def FnG (gd : Bool) (P : Program) (w : World) (K : PySem.W.Frag) (mg : Str → Option Value) (base : Heap) (j : Nat) (f : Addr) (sp : Sp) : Prop :=
  ∀ (A : Around) (outer : List Env) (s : Shared) (H : Hp) (us : List Value) (vs : List V) (Q : VK) (E : XK), Room j A → (gd = true → A.guards = some []) → Env0 P w K mg base A outer s H → Vals vs us → sp vs H Q E →
    codeAny (model P w) A (.call (.ref f) ⟨us, []⟩) (CR (L2.CX P w) outer P w H s Q E) s
def raiR (fld : Nat → Option Str) (f : Sl → Hh → RL) (k : Nat) (σ : Sl) (h : Hh) : RS := (f σ h).bindS σ fun ds h1 => (match fld k, ds with
  | some f, [d] => .ex k (some (f, d)) σ h1
  | none, [.str _] => .ex k none σ h1
  | _, _ => .no)
structure Gd (ct : CT) (cst : Nat → Option D) (L : Lv) (A : Ar) (c : Cc) (q : Q0) (X : Cx) : Prop where
  hN : X.N = c.N
  nd : c.N.Nodup
  hsc : X.env.scope = c.sc
  hK : X.K = q.B.K
  un : X.A.units + 200 < cLine
  gu : A.gd = true → X.A.guards = some []
  cm : c.cm = true → X.calm = true
  pxm : ∀ ι H ι' H', Gr ι H ι' H' → q.px ι H → q.px ι' H'
  fnv : ∀ (k : Nat) (x : Str), c.fnm[k]? = some x → X.mg x = some (.ref (q.B.adr k))
  kp : ∀ k : Nat, PySem.W.keepIn X.K (.ref (q.B.adr k)) = true
  cnv : ∀ (k : Nat) (x : Str) (d : D), c.cnm[k]? = some x → cst k = some d → ∃ u v, X.mg x = some u ∧ L2.RelV v u ∧ ∀ ι H, Be q.B ι H v d
  fre : ∀ x ∈ c.free, X.mg x = none
  knv : ∀ (k : Nat) (x : Str), c.knm[k]? = some x → X.mg x = some (.ref (q.B.cad k))
  exm : ∀ k1 k2, k1 < ct.n → k2 < ct.n → PySem.W.exmOne X.K (.ref (q.B.cad k1)) (.ref (q.B.cad k2)) = some (ct.sub k1 k2)
  xf : ∀ k n, ct.fld k = some n → XfC X.K (q.B.cad k) ∧ PySem.W.findIn X.K (.ref (q.B.cad k)) n = some none
  gcd : c.gcd = true → X.mg "gcd" = some (.builtin "math.gcd")
  call : c.cm = true → ∃ j, Room j X.A ∧ ∀ k : Nat, FnG A.gd X.prog X.w X.K X.mg X.base j (q.B.adr k) (spF q.B L k)
  thk : ∀ x, c.thk = some x → ∀ (pn : List (Addr × Obj)) (xe : Value → Shared → Prop) (W : WX), Takes (X.tr pn xe) W → ∀ p1 p2 i, c.N[i]? = some x → PE (X.tr pn xe) (.Call (.Name x p1) [] [] p2) (tE { q with W := W } (thkR A i))
  xat : c.xc = true → ∀ i x f p pos, c.N[i]? = some x → visB c.sc x = true → nmB x = true → PE X (.Attribute (.Name x p) f pos) (tE q (xatR A i f))
  lam : c.cm = true → ∀ (pn : List (Addr × Obj)) (xe : Value → Shared → Prop) (W : WX), Takes (X.tr pn xe) W → ∀ k x e y scope p lp pos, c.fnm[k]? = some x → glB c.sc x = true → c.lam scope = true → mE (c.lm scope) e y = true →
    PE (X.tr pn xe) (.Call (.Name x p) [.Lambda ⟨[], [], none, [], [], none, []⟩ y scope lp] [] pos) (tE { q with W := W } (lamR L k e))
  rai : c.st = true → c.cm = true → ∀ (pn : List (Addr × Obj)) (xe : Value → Shared → Prop) (W : WX), Takes (X.tr pn xe) W → ∀ k n z p pos pos2 (f : Sl → Hh → RL), c.knm[k]? = some n → glB c.sc n = true → noStar z = true → PA (X.tr pn xe) [z] (tA { q with W := W } f) →
    PS (X.tr pn xe) (.Raise (some (.Call (.Name n p) [z] [] pos)) none pos2) (tSt { q with W := W } (raiR ct.fld f k))
  st : c.st = true → PassesOwn (model X.prog X.w) X.A X.env X.xe ∧ X.stack = X.env :: X.outer ∧ X.env.frame = some X.env.locals
  fnB : c.fnB = true → ∀ x, X.fn x = true
  tk : Takes X q.W
end Mn


set_option Elab.async false
set_option linter.all false
set_option maxHeartbeats 4000000
set_option maxRecDepth 20000
/-! Expressions. -/
namespace Mn
open PySem PySem.Spec PyProof.Rows L2
structure Snd (c : Cc) (q : Q0) (X : Cx) (r : Ev) : Prop where
  e : ∀ e x, mE c e x = true → PE X x (tE q (r.e e))
  t : ∀ e x, mE c e x = true → PT X x (tT q (r.t e))
  w : ∀ e op xs p, mE c e (.BoolOp op xs p) = true → PW X (.BoolOp op xs p) (tT q (r.t e))
  es : ∀ es xs, mEs c es xs = true → PA X xs (tA q (r.es es))
  g : ∀ g x, mG c g x = true → PG X x (tGt q (r.g g))
  gs : ∀ gs xs, mGs c gs xs = true → PGs X xs (tGts q (r.gs gs))
theorem andB {a b : Bool} (h : (a && b) = true) : a = true ∧ b = true := Bool.and_eq_true_iff.mp h
section
variable {ct : CT} {cst : Nat → Option D} {L : Lv} {A : Ar} {c : Cc} {q : Q0} {X : Cx} {r : Ev}
theorem Q0.at.grow {ι ι' : List Addr} {h h' : Hh} {σd : Sl} {σ : L2.St} {H H' : Hp} (G : Gd ct cst L A c q X) (a : q.at ι h σd σ H) (g : Gr ι H ι' H') (S : Sim q.B ι' h' H') : q.at ι' h' σd σ H' := ⟨S, G.pxm _ _ _ _ g a.2.1, a.2.2.grow g⟩
theorem PR.noW {B : BP} {ι : List Addr} {H : Hp} {W W' : XK} {o : Option (D × Hh)} {Q : VK} (p : PR B ι H W (ofO o) Q) : PR B ι H W' (ofO o) Q := by
  cases o with
  | none => exact p
  | some x => exact p
theorem PR.noB {B : BP} {ι : List Addr} {H : Hp} {W W' : XK} {h : Hh} {o : Option Bool} {Q : VK} (p : PR B ι H W (ofB h o) Q) : PR B ι H W' (ofB h o) Q := by
  cases o with
  | none => exact p
  | some x => exact p
theorem vis_of {sc : Scope} {x : Str} (h : visB sc x = true) : Vis sc x := by
  unfold visB at h
  split at h
  · rename_i e; exact .inl e
  · rename_i e; exact .inr (.inl e)
  · rename_i e; exact .inr (.inr e)
  · cases h
theorem nm_of {x : Str} (h : nmB x = true) : (x == ("__debug__" : Str)) = false ∧ (x == ("__classdict__" : Str)) = false := by
  unfold nmB at h
  rw [Bool.and_eq_true, Bool.not_eq_true', Bool.not_eq_true'] at h
  exact h
theorem gl_of (G : Gd ct cst L A c q X) {x : Str} (h : glB c.sc x = true) : Gl X x ∧ (x == ("__debug__" : Str)) = false := by
  obtain ⟨h1, h2⟩ := andB h
  refine ⟨?_, (nm_of h1).1⟩
  split at h2
  · rename_i e
    show X.env.scope.names.lookup x = _
    rw [G.hsc]
    exact e
  · cases h2
theorem at_of {l : List Str} {i : Nat} {x : Str} (h : atB l i x = true) : l[i]? = some x := of_decide_eq_true h
theorem star_of {env : Env} : ∀ {xs : List Expr}, xs.all noStar = true → starEach xs env = xs.map fun e => (false, eval e env)
  | [], _ => by simp [starEach]
  | e :: xs, h => by
    rw [List.all_cons] at h
    obtain ⟨h1, h2⟩ := andB h
    have ih := star_of (env := env) h2
    cases e <;> first | (cases h1; done) | (rw [List.map_cons, ← ih]; simp [starEach])
theorem star_cons {env : Env} {e : Expr} {xs : List Expr} (h : noStar e = true) : starEach (e :: xs) env = (false, eval e env) :: starEach xs env := by
  cases e <;> first | (cases h; done) | simp [starEach]
theorem back_of {env : Env} {pos : Pos} {xs : List Expr} (h : xs.all noStar = true) : (backTo pos (starEach xs env)).any (·.1) = false := by
  rw [star_of h]
  unfold backTo
  rw [List.map_map]
  induction xs with
  | nil => rfl
  | cons e xs ih =>
    rw [List.all_cons] at h
    rw [List.map_cons, List.any_cons, ih (andB h).2]
    rfl
theorem mEs_star {c : Cc} : ∀ {es : Es} {xs : List Expr}, mEs c es xs = true → xs.all noStar = true
  | .nil, [], _ => rfl
  | .nil, _ :: _, h => by simp [mEs] at h
  | .cons _ _, [], h => by simp [mEs] at h
  | .cons e es, y :: ys, h => by
    simp only [mEs] at h
    obtain ⟨h1, h2⟩ := andB h
    rw [List.all_cons, (andB h1).1, mEs_star h2]
    rfl
/-- f(e, ..) by what follows the arguments, f a global name; a local one -/
theorem pe_callG {x : Str} {f : Addr} {p pos : Pos} {e : Expr} {es : List Expr} {t : TA} {rr : L2.St → List V → Hp → VK → Prop} (hg : Gl X x) (hm : X.mg x = some (.ref f)) (hk : PySem.W.keepIn X.K (.ref f) = true) (ha : PA X (e :: es) t) (hd : (x == ("__debug__" : Str)) = false)
    (hs : (e :: es).all noStar = true) (run : ∀ (pins : List (Addr × Obj)) (s : Shared) (σ : L2.St) (H : Hp) (us : List Value) (vs : List V) (Q : VK), Inv X pins σ H s → Vals vs us → rr σ vs H Q → wpAny (model X.prog X.w) X.A (call (.ref f) us) (EP X pins σ Q) X.xe s) :
    PE X (.Call (.Name x p) (e :: es) [] pos) (fun σ H Q => t σ H fun vs H1 => rr σ vs H1 Q) := by
  refine ⟨fun pins s σ H Q I h => ?_⟩
  refine wpAny_Call_Name_kw (ld_glob I hg hm ?_ hd)
  rw [List.all_cons] at hs
  refine PySem.W.callWith_K (h₀ := X.base) I.ok.mod.kin hk (thn (ha.run pos pins s σ H _ I h) fun us s1 ⟨vs, H1, I1, r1, q1⟩ => ⟨I1.kIn, run pins s1 σ H1 us vs Q I1 r1 q1⟩) (star_cons (andB hs).1) (back_of (andB hs).2)
theorem pe_callLoc {x : Str} {i : Nat} {p pos : Pos} {e : Expr} {es : List Expr} {t : TA} {rr : L2.St → Addr → List V → Hp → VK → Prop} (hN : X.N[i]? = some x) (hv : Vis X.env.scope x) (hd : (x == ("__debug__" : Str)) = false) (hcd : (x == ("__classdict__" : Str)) = false) (ha : PA X (e :: es) t)
    (hs : (e :: es).all noStar = true) (run : ∀ (f : Addr) (pins : List (Addr × Obj)) (s : Shared) (σ : L2.St) (H : Hp) (us : List Value) (vs : List V) (Q : VK), Inv X pins σ H s → Vals vs us → rr σ f vs H Q → wpAny (model X.prog X.w) X.A (call (.ref f) us) (EP X pins σ Q) X.xe s) :
    PE X (.Call (.Name x p) (e :: es) [] pos) (fun σ H Q => ∃ f, σ[i]? = some (some (.ref f)) ∧ PySem.W.keepIn X.K (.ref f) = true ∧ t σ H fun vs H1 => rr σ f vs H1 Q) := by
  refine ⟨fun pins s σ H Q I ⟨f, hf, hk, h⟩ => ?_⟩
  refine wpAny_Call_Name_kw (thn ((pe_var (pos := p) hN hv hd hcd).run pins s σ H (fun v H1 => v = .ref f ∧ H1 = H) I ⟨.ref f, hf, rfl, rfl⟩) fun u s1 ⟨v, H1, I1, r1, q1⟩ => ?_)
  obtain ⟨ev, eH⟩ := q1
  subst ev eH
  cases r1
  rw [List.all_cons] at hs
  refine PySem.W.callWith_K (h₀ := X.base) I.ok.mod.kin hk (thn (ha.run pos pins s1 σ _ _ I1 h) fun us s2 ⟨vs, H2, I2, r2, q2⟩ => ⟨I2.kIn, run f pins s2 σ H2 us vs Q I2 r2 q2⟩) (star_cons (andB hs).1) (back_of (andB hs).2)
end
section
variable {ct : CT} {cst : Nat → Option D} {L : Lv} {A : Ar} {hd : HdR} {c : Cc} {q : Q0} {X : Cx} {r : Ev}
/-- two values, one after the other, then an operator -/
theorem two_of {a b : E} {k : D → D → Hh → R} {σ : L2.St} {H : Hp} {Q : VK} {R2' : V → V → Hp → VK → Prop} (G : Gd ct cst L A c q X) (W' : XK)
    (h : tE q (fun σ h => (r.e a σ h).bind fun x h1 => (r.e b σ h1).bind fun y h2 => k x y h2) σ H Q)
    (fin : ∀ ι h x y d1 d2 H2, Sim q.B ι h H2 → Be q.B ι H2 x d1 → Be q.B ι H2 y d2 → q.px ι H2 → PR q.B ι H2 (fun c d H' => q.W c d σ H') (k d1 d2 h) Q → R2' x y H2 Q) :
    tE q (r.e a) σ H fun x H1 => tE q (r.e b) σ H1 fun y H2 => R2' x y H2 Q := by
  obtain ⟨ι, h, σd, a0, p⟩ := h
  exact ⟨ι, h, σd, a0, p.bind.imp fun x H1 ⟨d1, h1, ι1, g1, S1, b1, p1⟩ => ⟨ι1, h1, σd, a0.grow G g1 S1, p1.bind.imp fun y H2 ⟨d2, h2, ι2, g2, S2, b2, p2⟩ =>
    fin ι2 h2 x y d1 d2 H2 S2 (b1.grow g2) b2 ((a0.grow G g1 S1).grow G g2 S2).2.1 p2⟩⟩
/-- the reading at a state -/
abbrev stepE (ct : CT) (cst : Nat → Option D) (L : Lv) (A : Ar) (hd : HdR) (r : Ev) : E → Sl → Hh → R := (evStep ct cst L A hd r).e
theorem e_var (G : Gd ct cst L A c q X) {i : Nat} {x : Expr} (m : mE c (.var i) x = true) : PE X x (tE q (stepE ct cst L A hd r (.var i))) := by
  cases x with
  | Name n pos =>
    simp only [mE, Bool.and_eq_true] at m
    refine ⟨fun pins s σ H Q I ⟨ι, h, σd, a, p⟩ => ?_⟩
    have p' : PR q.B ι H (fun c d H' => q.W c d σ H') (match σd[i]? with
      | some (.d d) => .ok d h
      | _ => .no) Q := p
    split at p'
    · rename_i d e
      obtain ⟨v, e1, b⟩ := (a.2.2.2 i).1 d e
      exact (pe_var (by rw [G.hN]; exact at_of m.1.1) (by rw [G.hsc]; exact vis_of m.1.2) (nm_of m.2).1 (nm_of m.2).2).run pins s σ H Q I ⟨v, e1, p' ι H v Gr.refl a.1 b⟩
    · exact p'.elim
  | _ => simp [mE] at m
theorem pe_ok {x : Expr} {f : Sl → Hh → R} {v : V} {d : D} (hx : PE X x (tC v)) (hb : ∀ ι H, Be q.B ι H v d) (hf : ∀ σ h, f σ h = .ok d h) : PE X x (tE q f) :=
  ⟨fun pins s σ H Q I ⟨ι, h, σd, a, p⟩ => hx.run pins s σ H Q I (by rw [hf] at p; exact p ι H v Gr.refl a.1 (hb ι H))⟩
theorem e_non {x : Expr} (m : mE c .non x = true) : PE X x (tE q (stepE ct cst L A hd r .non)) := by
  cases x with
  | Constant k _ _ =>
    cases k with
    | none => exact pe_ok pe_non (fun _ _ => .non) fun _ _ => rfl
    | _ => simp [mE] at m
  | _ => simp [mE] at m
theorem e_bl {b : Bool} {x : Expr} (m : mE c (.bl b) x = true) : PE X x (tE q (stepE ct cst L A hd r (.bl b))) := by
  cases x with
  | Constant k _ _ =>
    cases k with
    | bool b' =>
      simp only [mE, beq_iff_eq] at m
      subst m
      exact pe_ok pe_bl (fun _ _ => .bl b) fun _ _ => rfl
    | _ => simp [mE] at m
  | _ => simp [mE] at m
theorem e_int {b : Int} {x : Expr} (m : mE c (.int b) x = true) : PE X x (tE q (stepE ct cst L A hd r (.int b))) := by
  cases x with
  | Constant k _ _ =>
    cases k with
    | int b' =>
      simp only [mE, decide_eq_true_eq] at m
      subst m
      exact pe_ok pe_int (fun _ _ => .int b) fun _ _ => rfl
    | _ => simp [mE] at m
  | _ => simp [mE] at m
theorem e_str {b : Str} {x : Expr} (m : mE c (.str b) x = true) : PE X x (tE q (stepE ct cst L A hd r (.str b))) := by
  cases x with
  | Constant k _ _ =>
    cases k with
    | str b' =>
      simp only [mE, decide_eq_true_eq] at m
      subst m
      exact pe_ok pe_str (fun _ _ => .str b) fun _ _ => rfl
    | _ => simp [mE] at m
  | _ => simp [mE] at m
theorem e_gv (G : Gd ct cst L A c q X) {k : Nat} {x : Expr} (m : mE c (.gv k) x = true) : PE X x (tE q (stepE ct cst L A hd r (.gv k))) := by
  cases x with
  | Name n pos =>
    simp only [mE, Bool.and_eq_true] at m
    obtain ⟨g1, g2⟩ := gl_of G m.2
    exact pe_ok (v := .ref (q.B.adr k)) (pe_glob g1 (G.fnv k n (at_of m.1)) rfl g2) (fun _ _ => .glo k) fun _ _ => rfl
  | _ => simp [mE] at m
theorem e_gc (G : Gd ct cst L A c q X) {k : Nat} {x : Expr} (m : mE c (.gc k) x = true) : PE X x (tE q (stepE ct cst L A hd r (.gc k))) := by
  cases x with
  | Name n pos =>
    simp only [mE, Bool.and_eq_true] at m
    obtain ⟨g1, g2⟩ := gl_of G m.2
    cases e : cst k with
    | none =>
      refine ⟨fun pins s σ H Q I ⟨ι, h, σd, a, p⟩ => ?_⟩
      have p' : PR q.B ι H (fun c d H' => q.W c d σ H') (match cst k with
        | some d => .ok d h
        | none => .no) Q := p
      rw [e] at p'
      exact p'.elim
    | some d =>
      obtain ⟨u, v, h1, h2, h3⟩ := G.cnv k n d (at_of m.1) e
      refine pe_ok (d := d) (pe_glob g1 h1 h2 g2) h3 fun σ h => ?_
      show (match cst k with
        | some d => R.ok d h
        | none => .no) = _
      rw [e]
  | _ => simp [mE] at m
theorem boot_ty (t : Ty) : bootBuiltins (Str.ofString t.nm) = some (.type t.nm) := by cases t <;> decide +kernel
theorem ty_nn (t : Ty) : Str.ofString t.nm ≠ "__name__" := by cases t <;> decide +kernel
theorem e_ty (G : Gd ct cst L A c q X) {t : Ty} {x : Expr} (m : mE c (.ty t) x = true) : PE X x (tE q (stepE ct cst L A hd r (.ty t))) := by
  cases x with
  | Name n pos =>
    simp only [mE, Bool.and_eq_true, decide_eq_true_eq] at m
    obtain ⟨⟨rfl, m2⟩, m3⟩ := m
    obtain ⟨g1, g2⟩ := gl_of G m3
    exact pe_ok (v := .ty t.nm) (pe_bltn g1 (G.fre _ m2) (boot_ty t) rfl (ty_nn t) g2) (fun _ _ => .ty t) fun _ _ => rfl
  | _ => simp [mE] at m
theorem e_bin (G : Gd ct cst L A c q X) (S : Snd c q X r) {op : Bop} {a b : E} {x : Expr} (m : mE c (.bin op a b) x = true) : PE X x (tE q (stepE ct cst L A hd r (.bin op a b))) := by
  cases x with
  | BinOp l o rr pos =>
    simp only [mE, Bool.and_eq_true] at m
    obtain ⟨⟨m1, m2⟩, m3⟩ := m
    rw [opIs_eq m1]
    exact ⟨fun pins s σ H Q I h => (pe_op (op_bop op) (S.e a l m2) (S.e b rr m3)).run pins s σ H Q I (two_of G noX h fun ι h x y d1 d2 H2 S2 b1 b2 _ p => ⟨ι, h, d1, d2, S2, b1, b2, p.noW⟩)⟩
  | _ => simp [mE] at m
theorem e_cmp (G : Gd ct cst L A c q X) (S : Snd c q X r) {op : Cop} {a b : E} {x : Expr} (m : mE c (.cmp op a b) x = true) : PE X x (tE q (stepE ct cst L A hd r (.cmp op a b))) := by
  have hu : X.A.units + 64 < cLine := by have := G.un; omega
  cases x with
  | Compare l os rs pos =>
    match os, rs, m with
    | [o], [rr], m =>
      simp only [mE, Bool.and_eq_true, Bool.not_eq_true'] at m
      obtain ⟨⟨⟨m1, m0⟩, m2⟩, m3⟩ := m
      rw [copIs_eq m1] at m0 ⊢
      exact ⟨fun pins s σ H Q I h => (pe_cmpR (op_cop G.hK hu op) (S.e a l m2) (S.e b rr m3) m0).run pins s σ H Q I (two_of G noX h fun ι h x y d1 d2 H2 S2 b1 b2 _ p => ⟨ι, h, d1, d2, S2, b1, b2, p.noB⟩)⟩
    | [], _, m => simp [mE] at m
    | _ :: _ :: _, _, m => simp [mE] at m
    | [_], [], m => simp [mE] at m
    | [_], _ :: _ :: _, m => simp [mE] at m
  | _ => simp [mE] at m
theorem e_neg (G : Gd ct cst L A c q X) (S : Snd c q X r) {a : E} {x : Expr} (m : mE c (.neg a) x = true) : PE X x (tE q (stepE ct cst L A hd r (.neg a))) := by
  cases x with
  | UnaryOp o l pos =>
    cases o with
    | USub =>
      simp only [mE] at m
      refine ⟨fun pins s σ H Q I ⟨ι, h, σd, a0, p⟩ => (pe_un un_neg (S.e a l m)).run pins s σ H Q I ⟨ι, h, σd, a0, (PR.bind p).imp fun x H1 ⟨d1, h1, ι1, g1, S1, b1, p1⟩ => ?_⟩⟩
      cases b1 with
      | int i => exact ⟨i, rfl, p1 ι1 H1 _ Gr.refl S1 (.int _)⟩
      | _ => exact (show False from p1).elim
    | _ => simp [mE] at m
  | _ => simp [mE] at m
theorem e_ix (G : Gd ct cst L A c q X) (S : Snd c q X r) {a b : E} {x : Expr} (m : mE c (.ix a b) x = true) : PE X x (tE q (stepE ct cst L A hd r (.ix a b))) := by
  cases x with
  | Subscript l rr pos =>
    simp only [mE, Bool.and_eq_true] at m
    obtain ⟨⟨m1, m2⟩, m3⟩ := m
    have hp : PlainIx rr := fun o i => by cases rr <;> first | (cases m1; done) | rfl
    refine ⟨fun pins s σ H Q I h => (pe_ix (ix_m G.hK) (S.e a l m2) (S.e b rr m3) hp).run pins s σ H Q I (two_of G noX h fun ι h x y d1 d2 H2 S2 b1 b2 _ p => ⟨ι, h, d1, d2, S2, b1, b2, ?_⟩)⟩
    revert p
    cases dix d1 d2 h with
    | none => exact fun p => p
    | some d => exact fun p => p
  | _ => simp [mE] at m
end
end Mn


set_option Elab.async false
set_option linter.all false
set_option maxHeartbeats 4000000
set_option maxRecDepth 20000
/-! Expressions, further. -/
namespace Mn
open PySem PySem.Spec PyProof.Rows L2
section
variable {ct : CT} {cst : Nat → Option D} {L : Lv} {A : Ar} {hd : HdR} {c : Cc} {q : Q0} {X : Cx} {r : Ev}
theorem PR.no {B : BP} {ι : List Addr} {H : Hp} {W : XK} {Q : VK} (p : PR B ι H W .no Q) : False := p
theorem two_at {a b : E} {k : Sl → D → D → Hh → R} {σ : L2.St} {H : Hp} {Q : VK} {R2' : V → V → Hp → Prop} (G : Gd ct cst L A c q X)
    (h : tE q (fun σ h => (r.e a σ h).bind fun x h1 => (r.e b σ h1).bind fun y h2 => k σ x y h2) σ H Q)
    (fin : ∀ ι h σd x y d1 d2 H2, q.at ι h σd σ H2 → Be q.B ι H2 x d1 → Be q.B ι H2 y d2 → PR q.B ι H2 (fun c d H' => q.W c d σ H') (k σd d1 d2 h) Q → R2' x y H2) :
    tE q (r.e a) σ H fun x H1 => tE q (r.e b) σ H1 fun y H2 => R2' x y H2 := by
  obtain ⟨ι, h, σd, a0, p⟩ := h
  exact ⟨ι, h, σd, a0, p.bind.imp fun x H1 ⟨d1, h1, ι1, g1, S1, b1, p1⟩ => ⟨ι1, h1, σd, a0.grow G g1 S1, p1.bind.imp fun y H2 ⟨d2, h2, ι2, g2, S2, b2, p2⟩ =>
    fin ι2 h2 σd x y d1 d2 H2 ((a0.grow G g1 S1).grow G g2 S2) (b1.grow g2) b2 p2⟩⟩
theorem one_at {f : Sl → Hh → R} {k : Sl → D → Hh → R} {σ : L2.St} {H : Hp} {Q : VK} {R1 : V → Hp → Prop} (G : Gd ct cst L A c q X) (h : tE q (fun σ h => (f σ h).bind fun x h1 => k σ x h1) σ H Q)
    (fin : ∀ ι h σd x d1 H1, q.at ι h σd σ H1 → Be q.B ι H1 x d1 → PR q.B ι H1 (fun c d H' => q.W c d σ H') (k σd d1 h) Q → R1 x H1) : tE q f σ H R1 := by
  obtain ⟨ι, h, σd, a0, p⟩ := h
  exact ⟨ι, h, σd, a0, p.bind.imp fun x H1 ⟨d1, h1, ι1, g1, S1, b1, p1⟩ => fin ι1 h1 σd x d1 H1 (a0.grow G g1 S1) b1 p1⟩
/-- a test first -/
theorem tst_at {f : Sl → Hh → R} {k : Sl → D → Hh → R} {σ : L2.St} {H : Hp} {Q : VK} {R1 : Bool → Hp → Prop} (G : Gd ct cst L A c q X) (h : tE q (fun σ h => (f σ h).bind fun x h1 => k σ x h1) σ H Q)
    (fin : ∀ ι h σd b H1, q.at ι h σd σ H1 → PR q.B ι H1 (fun c d H' => q.W c d σ H') (k σd (.bl b) h) Q → R1 b H1) (bad : ∀ σd d h, (∀ b, d ≠ .bl b) → k σd d h = .no) : tT q f σ H R1 := by
  obtain ⟨ι, h, σd, a0, p⟩ := h
  refine ⟨ι, h, σd, a0, p.bind.imp fun x H1 ⟨d1, h1, ι1, g1, S1, b1, p1⟩ => ?_⟩
  cases b1 with
  | bl b => exact ⟨b, rfl, fin ι1 h1 σd b H1 (a0.grow G g1 S1) p1⟩
  | _ => rw [bad _ _ _ (by intro b z; cases z)] at p1; exact p1.elim
theorem e_chain (G : Gd ct cst L A c q X) (S : Snd c q X r) {o1 o2 : Cop} {a b d : E} {x : Expr} (m : mE c (.chain o1 o2 a b d) x = true) : PE X x (tE q (stepE ct cst L A hd r (.chain o1 o2 a b d))) := by
  have hu : X.A.units + 64 < cLine := by have := G.un; omega
  cases x with
  | Compare l os rs pos =>
    match os, rs, m with
    | [p1, p2], [rr, tt], m =>
      simp only [mE, Bool.and_eq_true, Bool.not_eq_true'] at m
      obtain ⟨⟨⟨⟨⟨⟨⟨m1, m2⟩, m3⟩, m4⟩, m5⟩, m6⟩, m7⟩, m8⟩ := m
      have hm : lastMarks [p1, p2] [rr, tt] = false := m3
      rw [copIs_eq m1, copIs_eq m2] at hm ⊢
      refine ⟨fun pins s σ H Q I h => (pe_chain (op_cop G.hK hu o1) (op_cop G.hK hu o2) (S.e a l m6) (S.e b rr m7) (S.e d tt m8) hm).run pins s σ H Q I ?_⟩
      refine two_at G h fun ι h σd x y d1 d2 H2 a0 b1 b2 p => ⟨ι, h, d1, d2, a0.1, b1, b2, ?_⟩
      cases e : cop o1 d1 d2 h with
      | none => rw [e] at p; exact p
      | some k =>
        rw [e] at p
        intro ι' H' v g S' bv
        cases bv
        refine ⟨k, rfl, ?_⟩
        cases k with
        | true =>
          rw [if_pos rfl]
          exact ⟨ι', h, σd, a0.grow G g S', (PR.bind (PR.step g p)).imp fun z H3 ⟨d3, h3, ι3, g3, S3, b3, p3⟩ => ⟨ι3, h3, d2, d3, S3, (b2.grow g).grow g3, b3, p3.noB⟩⟩
        | false =>
          rw [if_neg (by decide)]
          exact p ι' H' _ g S' (.bl false)
    | [], _, m => simp [mE] at m
    | [_], _, m => simp [mE] at m
    | _ :: _ :: _ :: _, _, m => simp [mE] at m
    | [_, _], [], m => simp [mE] at m
    | [_, _], [_], m => simp [mE] at m
    | [_, _], _ :: _ :: _ :: _, m => simp [mE] at m
  | _ => simp [mE] at m
theorem e_and (G : Gd ct cst L A c q X) (S : Snd c q X r) {a b : E} {x : Expr} (m : mE c (.and a b) x = true) : PE X x (tE q (stepE ct cst L A hd r (.and a b))) := by
  cases x with
  | BoolOp o xs pos =>
    match o, xs, m with
    | .And, l :: rr :: rs, m =>
      simp only [mE, Bool.and_eq_true] at m
      refine ⟨fun pins s σ H Q I h => (pe_and (S.e a l m.1) (S.e b _ m.2)).run pins s σ H Q I (one_at G h fun ι h σd x d1 H1 a0 b1 p => ?_)⟩
      cases b1 with
      | bl k =>
        refine ⟨k, rfl, ?_⟩
        cases k with
        | true => rw [if_pos rfl]; exact ⟨ι, h, σd, a0, p⟩
        | false => rw [if_neg (by decide)]; exact p ι H1 _ Gr.refl a0.1 (.bl false)
      | _ => exact (PR.no p).elim
    | .And, [], m => simp [mE] at m
    | .And, [_], m => simp [mE] at m
    | .Or, _, m => simp [mE] at m
  | _ => simp [mE] at m
theorem e_or (G : Gd ct cst L A c q X) (S : Snd c q X r) {a b : E} {x : Expr} (m : mE c (.or a b) x = true) : PE X x (tE q (stepE ct cst L A hd r (.or a b))) := by
  cases x with
  | BoolOp o xs pos =>
    match o, xs, m with
    | .Or, l :: rr :: rs, m =>
      simp only [mE, Bool.and_eq_true] at m
      refine ⟨fun pins s σ H Q I h => (pe_or (S.e a l m.1) (S.e b _ m.2)).run pins s σ H Q I (one_at G h fun ι h σd x d1 H1 a0 b1 p => ?_)⟩
      cases b1 with
      | bl k =>
        refine ⟨k, rfl, ?_⟩
        cases k with
        | true => rw [if_pos rfl]; exact p ι H1 _ Gr.refl a0.1 (.bl true)
        | false => rw [if_neg (by decide)]; exact ⟨ι, h, σd, a0, p⟩
      | _ => exact (PR.no p).elim
    | .Or, [], m => simp [mE] at m
    | .Or, [_], m => simp [mE] at m
    | .And, _, m => simp [mE] at m
  | _ => simp [mE] at m
theorem e_last (S : Snd c q X r) {a : E} {x : Expr} (m : mE c (.last a) x = true) : PE X x (tE q (stepE ct cst L A hd r (.last a))) := by
  cases x with
  | BoolOp o xs pos =>
    match xs, m with
    | [l], m =>
      simp only [mE] at m
      exact pe_one (S.e a l m)
    | [], m => simp [mE] at m
    | _ :: _ :: _, m => simp [mE] at m
  | _ => simp [mE] at m
theorem e_not (G : Gd ct cst L A c q X) (S : Snd c q X r) {a : E} {x : Expr} (m : mE c (.not a) x = true) : PE X x (tE q (stepE ct cst L A hd r (.not a))) := by
  cases x with
  | UnaryOp o l pos =>
    cases o with
    | Not =>
      simp only [mE] at m
      refine ⟨fun pins s σ H Q I h => (pe_not (S.e a l m)).run pins s σ H Q I (one_at G h fun ι h σd x d1 H1 a0 b1 p => ?_)⟩
      cases b1 with
      | bl k => exact ⟨k, rfl, p ι H1 _ Gr.refl a0.1 (.bl _)⟩
      | _ => exact (PR.no p).elim
    | _ => simp [mE] at m
  | _ => simp [mE] at m
theorem e_ite (G : Gd ct cst L A c q X) (S : Snd c q X r) {t a b : E} {x : Expr} (m : mE c (.ite t a b) x = true) : PE X x (tE q (stepE ct cst L A hd r (.ite t a b))) := by
  cases x with
  | IfExp y l rr pos =>
    simp only [mE, Bool.and_eq_true] at m
    obtain ⟨⟨m1, m2⟩, m3⟩ := m
    refine ⟨fun pins s σ H Q I h => (pe_ifExp (S.t t y m1) (S.e a l m2) (S.e b rr m3)).run pins s σ H Q I (tst_at G h (fun ι h σd k H1 a0 p => ?_) fun σd d h hb => ?_)⟩
    · cases k with
      | true => rw [if_pos rfl]; exact ⟨ι, h, σd, a0, p⟩
      | false => rw [if_neg (by decide)]; exact ⟨ι, h, σd, a0, p⟩
    · cases d with
      | bl b => exact absurd rfl (hb b)
      | _ => rfl
  | _ => simp [mE] at m
theorem args_at {es : Es} {k : Sl → List D → Hh → R} {σ : L2.St} {H : Hp} {Q : VK} {R1 : List V → Hp → Prop} (G : Gd ct cst L A c q X) (h : tE q (fun σ h => (r.es es σ h).bind fun x h1 => k σ x h1) σ H Q)
    (fin : ∀ ι h σd x d1 H1, q.at ι h σd σ H1 → BeL q.B ι H1 x d1 → PR q.B ι H1 (fun c d H' => q.W c d σ H') (k σd d1 h) Q → R1 x H1) : tA q (r.es es) σ H R1 := by
  obtain ⟨ι, h, σd, a0, p⟩ := h
  refine ⟨ι, h, σd, a0, ?_⟩
  have p1 := PRL.bind p
  revert p1
  cases r.es es σd h with
  | ok ds h1 =>
    intro p1 ι1 H1 v g S1 b1
    obtain ⟨d1, h1', ι1', g1, S1', b1', p1'⟩ := p1 ι1 H1 v g S1 b1
    exact fin ι1' h1' σd v d1 H1 ⟨S1', G.pxm _ _ _ _ g1 a0.2.1, a0.2.2.grow g1⟩ b1' p1'
  | ex cc f h1 => exact fun p1 => p1
  | no => exact fun p1 => p1
theorem e_tup (G : Gd ct cst L A c q X) (S : Snd c q X r) {es : Es} {x : Expr} (m : mE c (.tup es) x = true) : PE X x (tE q (stepE ct cst L A hd r (.tup es))) := by
  cases x with
  | Tuple xs k pos =>
    simp only [mE] at m
    refine ⟨fun pins s σ H Q I h => (pe_tup (S.es es xs m)).run pins s σ H Q I (args_at G h fun ι h σd vs ds H1 a0 b1 p => ?_)⟩
    by_cases hz : ds.length ≤ 1000000
    · rw [if_pos hz] at p
      refine ⟨size_ok (by rw [b1.length]; exact hz), fun b hb => ?_⟩
      have hm : b ∉ ι := fun m => by
        obtain ⟨o, e⟩ := a0.1.there m
        rw [hb] at e; cases e
      have g : Gr ι H1 ι (upd H1 b (.tup vs)) := ⟨List.prefix_refl _, fun a o e _ => by rw [upd_ne (ne_of_none e hb)]; exact e⟩
      refine p ι _ _ g ⟨a0.1.len, a0.1.nd, fun n a o e1 e2 => (a0.1.ob n a o e1 e2).grow g (upd_ne fun z => hm (z ▸ List.mem_of_getElem? e1)), tabs_upd a0.1.tabs fun o e => by rw [hb] at e; cases e⟩ (.tup (SqT.of upd_same) (b1.grow g))
    · rw [if_neg hz] at p
      exact (PR.no p).elim
  | _ => simp [mE] at m
theorem e_lst (G : Gd ct cst L A c q X) (S : Snd c q X r) {es : Es} {x : Expr} (m : mE c (.lst es) x = true) : PE X x (tE q (stepE ct cst L A hd r (.lst es))) := by
  cases x with
  | List xs pos =>
    simp only [mE] at m
    refine ⟨fun pins s σ H Q I h => (pe_lst (S.es es xs m)).run pins s σ H Q I (args_at G h fun ι h σd vs ds H1 a0 b1 p => ?_)⟩
    by_cases hz : ds.length ≤ 1000000
    · rw [if_pos hz] at p
      exact ⟨size_ok (by rw [b1.length]; exact hz), fun b hb => new_lst a0.1 b1 p b hb⟩
    · rw [if_neg hz] at p
      exact (PR.no p).elim
  | _ => simp [mE] at m
theorem e_dnew {x : Expr} (m : mE c .dnew x = true) : PE X x (tE q (stepE ct cst L A hd r .dnew)) := by
  cases x with
  | Dict ks vs pos =>
    match ks, vs, m with
    | [], [], m =>
      refine ⟨fun pins s σ H Q I ⟨ι, h, σd, a0, p⟩ => pe_dnewK.run pins s σ H Q I fun b hb => ?_⟩
      have g : Gr ι H (ι ++ [b]) (upd H b (.dK [])) := gr_new hb
      refine p _ _ _ g (a0.1.new hb ⟨rfl, upd_same⟩) (.ref ?_)
      rw [← a0.1.len, List.getElem?_append_right (Nat.le_refl _)]
      simp
    | _ :: _, _, m => simp [mE] at m
    | [], _ :: _, m => simp [mE] at m
  | _ => simp [mE] at m
/-- a call of an own def -/
theorem call_run (G : Gd ct cst L A c q X) (m0 : c.cm = true) (k : Nat) (pins : List (Addr × Obj)) (s : Shared) (σ : L2.St) (H : Hp) (us : List Value) (vs : List V) (Q : VK) (I : Inv X pins σ H s) (rv : Vals vs us)
    (h : ∃ ι h σd ds, q.at ι h σd σ H ∧ BeL q.B ι H vs ds ∧ PR q.B ι H (fun c d H' => q.W c d σ H') (L.call k ds h) Q) : wpAny (model X.prog X.w) X.A (call (.ref (q.B.adr k)) us) (EP X pins σ Q) X.xe s := by
  obtain ⟨ι, h, σd, ds, a0, bl, p⟩ := h
  obtain ⟨j, hr, F⟩ := G.call m0
  refine wpAny_call (codeAny_mono (F k X.A X.stack s H us vs Q (fun c d H' => q.W c d σ H') hr G.gu I.env0 rv ⟨ι, h, ds, a0.1, bl, p⟩) fun r s' hq => ?_)
  cases r with
  | error e => exact G.tk e s' (XE.of_call I (fun cls d H' h => h) hq)
  | ok fl =>
    cases fl with
    | ret u => exact I.after hq
    | next => exact False.elim hq
    | brk => exact False.elim hq
    | cont => exact False.elim hq
theorem e_call (G : Gd ct cst L A c q X) (S : Snd c q X r) {k : Nat} {es : Es} {x : Expr} (m : mE c (.call k es) x = true) : PE X x (tE q (stepE ct cst L A hd r (.call k es))) := by
  cases x with
  | Call f xs kw pos =>
    match f, xs, kw, m with
    | .Name n p, y :: ys, [], m =>
      simp only [mE, Bool.and_eq_true] at m
      obtain ⟨⟨⟨m0, m1⟩, m2⟩, m3⟩ := m
      obtain ⟨g1, g2⟩ := gl_of G m2
      exact ⟨fun pins s σ H Q I h => (pe_callG (t := tA q (r.es es)) (rr := fun σ vs H Q => ∃ ι h σd ds, q.at ι h σd σ H ∧ BeL q.B ι H vs ds ∧ PR q.B ι H (fun c d H' => q.W c d σ H') (L.call k ds h) Q) g1 (G.fnv k n (at_of m1)) (G.kp k) (S.es es _ m3) g2 (mEs_star m3)
        (call_run G m0 k)).run pins s σ H Q I (args_at G h fun ι h σd vs ds H1 a0 b1 p => ⟨ι, h, σd, ds, a0, b1, p⟩)⟩
    | .Name _ _, [], _, m => simp [mE] at m
    | .Name _ _, _ :: _, _ :: _, m => simp [mE] at m
    | .BoolOp .., _, _, m | .NamedExpr .., _, _, m | .BinOp .., _, _, m | .UnaryOp .., _, _, m | .Lambda .., _, _, m | .IfExp .., _, _, m | .Dict .., _, _, m | .Set .., _, _, m | .ListComp .., _, _, m | .SetComp .., _, _, m | .DictComp .., _, _, m | .GeneratorExp .., _, _, m | .Await .., _, _, m | .Yield .., _, _, m | .YieldFrom .., _, _, m | .Compare .., _, _, m | .Call .., _, _, m | .FormattedValue .., _, _, m | .JoinedStr .., _, _, m | .Constant .., _, _, m | .Attribute .., _, _, m | .Subscript .., _, _, m | .Starred .., _, _, m | .List .., _, _, m | .Tuple .., _, _, m | .Slice .., _, _, m => simp [mE] at m
  | _ => simp [mE] at m
theorem bl_boot (b : Bl) (hb : b ≠ .gcd) : bootBuiltins b.nm = some b.val := by cases b <;> first | exact absurd rfl hb | decide +kernel
theorem bl_nn (b : Bl) : b.nm ≠ "__name__" := by cases b <;> decide +kernel
theorem blB_free {b : Bl} (hb : b ≠ .gcd) (h : blB c b = true) : b.nm ∈ c.free := by
  cases b <;> first | exact absurd rfl hb | (simp only [blB, Bool.and_eq_true, decide_eq_true_eq] at h; first | exact h.2 | exact h)
theorem blB_cm {b : Bl} (h1 : b ≠ .gcd) (h2 : b ≠ .repr) (h : blB c b = true) : c.cm = true := by
  cases b <;> first | exact absurd rfl h1 | exact absurd rfl h2 | (simp only [blB, Bool.and_eq_true, decide_eq_true_eq] at h; exact h.1)
theorem gcd_run : CallR X (.builtin "math.gcd") (rBl q.B .gcd) := by
  intro pins s σ H vs us Q I rr ⟨ι, h, ds, S, l, p⟩
  obtain ⟨d', h', e, p⟩ := PR_ofO (h := h) p
  match ds, e with
  | [.int i, .int j], e =>
    cases e
    obtain ⟨v, w, rfl, b1, b2⟩ := bel2 l
    cases b1
    cases b2
    exact cr_gcd pins s σ H _ us Q I rr ⟨_, _, rfl, p ι H _ Gr.refl S (.int _)⟩
theorem e_callB (G : Gd ct cst L A c q X) (S : Snd c q X r) {b : Bl} {es : Es} {x : Expr} (m : mE c (.callB b es) x = true) : PE X x (tE q (stepE ct cst L A hd r (.callB b es))) := by
  have hu : X.A.units + 100 < cLine := by have := G.un; omega
  cases x with
  | Call f xs kw pos =>
    match f, xs, kw, m with
    | .Name n p, y :: ys, [], m =>
      simp only [mE, Bool.and_eq_true, decide_eq_true_eq] at m
      obtain ⟨⟨⟨rfl, m1⟩, m2⟩, m3⟩ := m
      obtain ⟨g1, g2⟩ := gl_of G m2
      have hst := mEs_star m3
      have hst' := hst
      rw [List.all_cons] at hst'
      have fin : ∀ (_ : isRepr b = false ∨ A.gd = true) (Q : VK) (σ : L2.St) (H : Hp), tE q (stepE ct cst L A hd r (.callB b es)) σ H Q → tA q (r.es es) σ H fun vs H1 => rBl q.B b vs H1 Q := fun hb Q σ H h => by
        refine args_at (k := fun _ ds h1 => ofO (bltG A.gd b ds h1)) G h fun ι h σd vs ds H1 a0 b1 p => ⟨ι, h, ds, a0.1, b1, PR.noW (W := fun c d H' => q.W c d σ H') ?_⟩
        have e : bltG A.gd b ds h = bltn b ds h := by
          unfold bltG
          rw [if_neg]
          rcases hb with hb | hb <;> rw [hb] <;> simp
        rw [e] at p
        exact p
      cases b with
      | gcd =>
        exact ⟨fun pins s σ H Q I h => (pe_callBfun gcd_run g1 (G.gcd m1) (S.es es _ m3) g2 (star_cons (andB hst').1) (back_of (andB hst').2)).run pins s σ H Q I (fin (.inl rfl) Q σ H h)⟩
      | repr =>
        cases hg : A.gd with
        | true => exact ⟨fun pins s σ H Q I h => (pe_callB (call_repr G.hK hu (G.gu hg)) g1 (G.fre _ (blB_free (by intro z; cases z) m1)) (bl_boot .repr (by intro z; cases z)) (S.es es _ m3) (bl_nn .repr) g2 (star_cons (andB hst').1) (back_of (andB hst').2)).run pins s σ H Q I (fin (.inr hg) Q σ H h)⟩
        | false =>
          have hf : CallR X (.builtin "repr") (fun _ _ _ => False) := fun _ _ _ _ _ _ _ _ _ z => z.elim
          refine ⟨fun pins s σ H Q I h => (pe_callB hf g1 (G.fre _ (blB_free (by intro z; cases z) m1)) (bl_boot .repr (by intro z; cases z)) (S.es es _ m3) (bl_nn .repr) g2 (star_cons (andB hst').1) (back_of (andB hst').2)).run pins s σ H Q I (args_at (k := fun _ ds h1 => ofO (bltG A.gd .repr ds h1)) G h fun ι h σd vs ds H1 a0 b1 p => ?_)⟩
          rw [hg] at p
          exact p
      | int =>
        exact ⟨fun pins s σ H Q I h => (pe_callTy (call_bl G.hK hu (G.cm (blB_cm (by intro z; cases z) (by intro z; cases z) m1)) .int (by intro z; cases z)) g1 (G.fre _ (blB_free (by intro z; cases z) m1)) (bl_boot .int (by intro z; cases z)) (S.es es _ m3) (bl_nn .int) g2 (star_cons (andB hst').1) (back_of (andB hst').2)).run pins s σ H Q I (fin (.inl rfl) Q σ H h)⟩
      | _ =>
        exact ⟨fun pins s σ H Q I h => (pe_callB (call_bl G.hK hu (G.cm (blB_cm (by intro z; cases z) (by intro z; cases z) m1)) _ (by intro z; cases z)) g1 (G.fre _ (blB_free (by intro z; cases z) m1)) (bl_boot _ (by intro z; cases z)) (S.es es _ m3) (bl_nn _) g2 (star_cons (andB hst').1) (back_of (andB hst').2)).run pins s σ H Q I (fin (.inl rfl) Q σ H h)⟩
    | .Name _ _, [], _, m => simp [mE] at m
    | .Name _ _, _ :: _, _ :: _, m => simp [mE] at m
    | .BoolOp .., _, _, m | .NamedExpr .., _, _, m | .BinOp .., _, _, m | .UnaryOp .., _, _, m | .Lambda .., _, _, m | .IfExp .., _, _, m | .Dict .., _, _, m | .Set .., _, _, m | .ListComp .., _, _, m | .SetComp .., _, _, m | .DictComp .., _, _, m | .GeneratorExp .., _, _, m | .Await .., _, _, m | .Yield .., _, _, m | .YieldFrom .., _, _, m | .Compare .., _, _, m | .Call .., _, _, m | .FormattedValue .., _, _, m | .JoinedStr .., _, _, m | .Constant .., _, _, m | .Attribute .., _, _, m | .Subscript .., _, _, m | .Starred .., _, _, m | .List .., _, _, m | .Tuple .., _, _, m | .Slice .., _, _, m => simp [mE] at m
  | _ => simp [mE] at m
end
end Mn


set_option Elab.async false
set_option linter.all false
set_option maxHeartbeats 4000000
set_option maxRecDepth 20000
/-! Local calls, append, targets, walks. -/
namespace Mn
open PySem PySem.Spec PyProof.Rows L2
section
variable {ct : CT} {cst : Nat → Option D} {L : Lv} {A : Ar} {hd : HdR} {c : Cc} {q : Q0} {X : Cx} {r : Ev}
theorem e_callV (G : Gd ct cst L A c q X) (S : Snd c q X r) {i : Nat} {es : Es} {x : Expr} (m : mE c (.callV i es) x = true) : PE X x (tE q (stepE ct cst L A hd r (.callV i es))) := by
  cases x with
  | Call f xs kw pos =>
    match f, xs, kw, m with
    | .Name n p, y :: ys, [], m =>
      simp only [mE, Bool.and_eq_true] at m
      obtain ⟨⟨⟨⟨m0, m1⟩, m2⟩, m3⟩, m4⟩ := m
      refine ⟨fun pins s σ H Q I ⟨ι, h, σd, a0, p⟩ => ?_⟩
      have p' : PR q.B ι H (fun c d H' => q.W c d σ H') (match σd[i]? with
        | some (.d (.glo k)) => (r.es es σd h).bind fun ds h1 => L.call k ds h1
        | _ => .no) Q := p
      split at p'
      · rename_i k e
        obtain ⟨v, e1, b⟩ := (a0.2.2.2 i).1 _ e
        cases b
        refine (pe_callLoc (i := i) (t := tA q (r.es es)) (rr := fun σ f vs H Q => f = q.B.adr k ∧ ∃ ι h σd ds, q.at ι h σd σ H ∧ BeL q.B ι H vs ds ∧ PR q.B ι H (fun c d H' => q.W c d σ H') (L.call k ds h) Q) (by rw [G.hN]; exact at_of m1) (by rw [G.hsc]; exact vis_of m2) (nm_of m3).1 (nm_of m3).2 (S.es es _ m4) (mEs_star m4)
          (fun f pins s σ H us vs Q I rv ⟨ef, hh⟩ => ef ▸ call_run G m0 k pins s σ H us vs Q I rv hh)).run pins s σ H Q I ⟨_, e1, G.kp k, args_at (k := fun _ ds h1 => L.call k ds h1) G ⟨ι, h, σd, a0, p'⟩ fun ι h σd vs ds H1 a0 b1 p => ⟨rfl, ι, h, σd, ds, a0, b1, p⟩⟩
      · exact p'.elim
    | .Name _ _, [], _, m => simp [mE] at m
    | .Name _ _, _ :: _, _ :: _, m => simp [mE] at m
    | .BoolOp .., _, _, m | .NamedExpr .., _, _, m | .BinOp .., _, _, m | .UnaryOp .., _, _, m | .Lambda .., _, _, m | .IfExp .., _, _, m | .Dict .., _, _, m | .Set .., _, _, m | .ListComp .., _, _, m | .SetComp .., _, _, m | .DictComp .., _, _, m | .GeneratorExp .., _, _, m | .Await .., _, _, m | .Yield .., _, _, m | .YieldFrom .., _, _, m | .Compare .., _, _, m | .Call .., _, _, m | .FormattedValue .., _, _, m | .JoinedStr .., _, _, m | .Constant .., _, _, m | .Attribute .., _, _, m | .Subscript .., _, _, m | .Starred .., _, _, m | .List .., _, _, m | .Tuple .., _, _, m | .Slice .., _, _, m => simp [mE] at m
  | _ => simp [mE] at m
theorem e_thk (G : Gd ct cst L A c q X) {i : Nat} {x : Expr} (m : mE c (.thk i) x = true) : PE X x (tE q (stepE ct cst L A hd r (.thk i))) := by
  cases x with
  | Call f xs kw pos =>
    match f, xs, kw, m with
    | .Name n p, [], [], m =>
      simp only [mE, Bool.and_eq_true, decide_eq_true_eq] at m
      exact G.thk n m.2 X.pn X.xe q.W G.tk p pos i (at_of m.1)
    | .Name _ _, [], _ :: _, m => simp [mE] at m
    | .Name _ _, _ :: _, _, m => simp [mE] at m
    | .BoolOp .., _, _, m | .NamedExpr .., _, _, m | .BinOp .., _, _, m | .UnaryOp .., _, _, m | .Lambda .., _, _, m | .IfExp .., _, _, m | .Dict .., _, _, m | .Set .., _, _, m | .ListComp .., _, _, m | .SetComp .., _, _, m | .DictComp .., _, _, m | .GeneratorExp .., _, _, m | .Await .., _, _, m | .Yield .., _, _, m | .YieldFrom .., _, _, m | .Compare .., _, _, m | .Call .., _, _, m | .FormattedValue .., _, _, m | .JoinedStr .., _, _, m | .Constant .., _, _, m | .Attribute .., _, _, m | .Subscript .., _, _, m | .Starred .., _, _, m | .List .., _, _, m | .Tuple .., _, _, m | .Slice .., _, _, m => simp [mE] at m
  | _ => simp [mE] at m
theorem e_xattr (G : Gd ct cst L A c q X) {i : Nat} {f : Str} {x : Expr} (m : mE c (.xattr i f) x = true) : PE X x (tE q (stepE ct cst L A hd r (.xattr i f))) := by
  cases x with
  | Attribute y n pos =>
    cases y with
    | Name z p =>
      simp only [mE, Bool.and_eq_true, decide_eq_true_eq] at m
      obtain ⟨⟨⟨⟨m0, rfl⟩, m1⟩, m2⟩, m3⟩ := m
      exact G.xat m0 i z f p pos (at_of m1) m2 m3
    | _ => simp [mE] at m
  | _ => simp [mE] at m
theorem e_callT (G : Gd ct cst L A c q X) {k : Nat} {e : E} {x : Expr} (m : mE c (.callT k e) x = true) : PE X x (tE q (stepE ct cst L A hd r (.callT k e))) := by
  unfold mE at m
  split at m
  · simp only [Bool.and_eq_true] at m
    obtain ⟨⟨⟨⟨m0, m1⟩, m2⟩, m3⟩, m4⟩ := m
    exact G.lam m0 X.pn X.xe q.W G.tk k _ e _ _ _ _ _ (at_of m1) m2 m3 m4
  · cases m
theorem args_gr {es : Es} {k : List D → Hh → R} {ι : List Addr} {h : Hh} {σd : Sl} {σ : L2.St} {H : Hp} {Q : VK} {R1 : List V → Hp → Prop} (G : Gd ct cst L A c q X) (a0 : q.at ι h σd σ H) (p : PR q.B ι H (fun c d H' => q.W c d σ H') ((r.es es σd h).bind k) Q)
    (fin : ∀ ι1 h1 x d1 H1, Gr ι H ι1 H1 → q.at ι1 h1 σd σ H1 → BeL q.B ι1 H1 x d1 → PR q.B ι1 H1 (fun c d H' => q.W c d σ H') (k d1 h1) Q → R1 x H1) : tA q (r.es es) σ H R1 := by
  refine ⟨ι, h, σd, a0, ?_⟩
  revert p
  cases r.es es σd h with
  | ok ds h1 => exact fun p ι1 H1 v g S1 b1 => fin ι1 h1 v ds H1 g (a0.grow G g S1) b1 (PR.step g p)
  | ex cc f h1 => exact fun p1 => p1
  | no => exact fun p1 => p1
theorem e_meth (G : Gd ct cst L A c q X) (S : Snd c q X r) {o : E} {mm : Me} {es : Es} {x : Expr} (m : mE c (.meth o mm es) x = true) : PE X x (tE q (stepE ct cst L A hd r (.meth o mm es))) := by
  unfold mE at m
  split at m
  · rename_i y yp n ap z cp
    simp only [Bool.and_eq_true, decide_eq_true_eq] at m
    obtain ⟨⟨⟨rfl, m1⟩, m2⟩, m3⟩ := m
    have hst := mEs_star m3
    rw [List.all_cons] at hst
    refine ⟨fun pins s σ H Q I h => (pe_bm PySem.F.plainAttrs_list PySem.F.slot_list_append PySem.F.type_list_append mt_append (S.e o _ m2) (S.es es _ m3) rfl ?_ m1 (star_cons (andB hst).1) (back_of (andB hst).2)).run pins s σ H Q I (one_at G h fun ι h σd x d1 H1 a0 b1 p => ?_)⟩
    · rw [star_cons (andB hst).1]
      rfl
    · by_cases hl : isLst h d1 = true
      · rw [if_pos hl] at p
        cases b1 with
        | @ref n a hn =>
          have hl' : (match h[n]? with
            | some (.lst _) => true
            | _ => false) = true := hl
          split at hl'
          · rename_i xs ex
            obtain ⟨vs, q1, l1⟩ := a0.1.lst hn ex
            refine ⟨.inl ⟨rfl, _, SqL.of q1⟩, args_gr G a0 p fun ι2 h2 ws ds H2 g2 a2 b2 p2 => ?_⟩
            obtain ⟨d', h', e, p3⟩ := PR_ofO (h := h2) p2
            match ds, e with
            | [d], e =>
              obtain ⟨w, rfl, bw⟩ := bel1 b2
              have e' : (match h2[n]? with
                | some (.lst xs) => if xs.length < 1000000 then some (D.non, h2.set n (.lst (xs ++ [d]))) else none
                | _ => none) = some (d', h') := e
              have hn2 := g2.at hn
              split at e'
              · rename_i ys ey
                obtain ⟨us, q2, l2⟩ := a2.1.lst hn2 ey
                split at e'
                · rename_i hz
                  cases e'
                  refine ⟨a, us, w, rfl, rfl, q2, size_lt (by rw [l2.length]; exact hz), ?_⟩
                  have g : Gr ι2 H2 ι2 (upd H2 a (.lst (us ++ [w]))) := gr_put q2 (fun z => z)
                  exact p3 ι2 _ _ g (a2.1.put hn2 q2 (fun z => z) (fun _ z => by cases z) ⟨_, upd_same, (l2.grow g).app (.cons (bw.grow g) .nil)⟩) .non
                · cases e'
              · cases e'
          · cases hl'
        | _ => cases hl
      · rw [if_neg hl] at p
        exact (PR.no p).elim
  · cases m
/-! ### tests -/
theorem plain_he {x : Expr} (h : plainT x = true) (env : Env) (whole : Sem Value) : isTrue x env whole = (do let v ← whole; standAt x.pos; holding [v] (truthy v)) := by
  cases x with
  | UnaryOp o l p => cases o <;> first | (cases h; done) | rfl
  | _ => first | (cases h; done) | rfl
/-- an expression whose test is the truth of its value -/
theorem t_plain (G : Gd ct cst L A c q X) {e : E} {x : Expr} (hp : plainT x = true) (hx : PE X x (tE q (r.e e))) {f : Sl → Hh → R} (hf : ∀ σ h, f σ h = (r.e e σ h).bind fun x h1 => ofB h1 (truth h1 x)) : PT X x (tT q f) := by
  refine ⟨fun pins s σ H Q I ⟨ι, h, σd, a0, p⟩ => (pt_truth hx (plain_he hp X.env)).run pins s σ H Q I ⟨ι, h, σd, a0, ?_⟩⟩
  rw [hf] at p
  refine p.bind.imp fun x H1 ⟨d1, h1, ι1, g1, S1, b1, p1⟩ => ?_
  obtain ⟨b, e1, k, e2, q2⟩ := PR_ofB S1 p1
  cases e2
  exact ⟨_, tru_of G.hK S1 b1 e1, q2⟩
/-- a value that is a bool -/
theorem t_bool {e : E} {x : Expr} {t : TE} (hx : PT X x (tTest t)) (ht : ∀ σ H Q, tE q (r.e e) σ H Q → t σ H Q) : PT X x (tT q (r.e e)) :=
  ⟨fun pins s σ H Q I ⟨ι, h, σd, a0, p⟩ => hx.run pins s σ H Q I (ht σ H _ ⟨ι, h, σd, a0, p⟩)⟩
end
end Mn


set_option Elab.async false
set_option linter.all false
set_option maxHeartbeats 4000000
set_option maxRecDepth 20000
/-! Tests, targets. -/
namespace Mn
open PySem PySem.Spec PyProof.Rows L2
section
variable {ct : CT} {cst : Nat → Option D} {L : Lv} {A : Ar} {hd : HdR} {c : Cc} {q : Q0} {X : Cx} {r : Ev}
abbrev stepT (ct : CT) (cst : Nat → Option D) (L : Lv) (A : Ar) (hd : HdR) (r : Ev) : E → Sl → Hh → R := (evStep ct cst L A hd r).t
theorem pt_bad {x : Expr} {f : Sl → Hh → R} (hf : ∀ σ h, f σ h = .no) : PT X x (tT q f) := ⟨fun _ _ _ _ _ _ ⟨ι, h, σd, a0, p⟩ => by rw [hf] at p; exact (PR.no p).elim⟩
theorem pe_bad {x : Expr} {f : Sl → Hh → R} (hf : ∀ σ h, f σ h = .no) : PE X x (tE q f) := ⟨fun _ _ _ _ _ _ ⟨ι, h, σd, a0, p⟩ => by rw [hf] at p; exact (PR.no p).elim⟩
/-- a test by a value that is compared -/
theorem tT_cmp {f : Sl → Hh → R} {σ : L2.St} {H : Hp} {Q : Bool → Hp → Prop} (h : tT q f σ H Q) : tE q f σ H fun x H' => ∃ k, x = .bl k ∧ Q k H' := h
theorem t_cmp (G : Gd ct cst L A c q X) (S : Snd c q X r) {op : Cop} {a b : E} {x : Expr} (m : mE c (.cmp op a b) x = true) : PT X x (tT q (stepT ct cst L A hd r (.cmp op a b))) := by
  have hu : X.A.units + 64 < cLine := by have := G.un; omega
  cases x with
  | Compare l os rs pos =>
    match os, rs, m with
    | [o], [rr], m =>
      simp only [mE, Bool.and_eq_true, Bool.not_eq_true'] at m
      obtain ⟨⟨⟨m1, m0⟩, m2⟩, m3⟩ := m
      rw [copIs_eq m1] at m0 ⊢
      exact ⟨fun pins s σ H Q I h => (pt_cmpR (op_cop G.hK hu op) (S.e a l m2) (S.e b rr m3) m0).run pins s σ H Q I (two_of G noX (tT_cmp h) fun ι h x y d1 d2 H2 S2 b1 b2 _ p => ⟨ι, h, d1, d2, S2, b1, b2, p.noB⟩)⟩
    | [], _, m => simp [mE] at m
    | _ :: _ :: _, _, m => simp [mE] at m
    | [_], [], m => simp [mE] at m
    | [_], _ :: _ :: _, m => simp [mE] at m
  | _ => simp [mE] at m
theorem t_chain (G : Gd ct cst L A c q X) (S : Snd c q X r) {o1 o2 : Cop} {a b d : E} {x : Expr} (m : mE c (.chain o1 o2 a b d) x = true) : PT X x (tT q (stepT ct cst L A hd r (.chain o1 o2 a b d))) := by
  have hu : X.A.units + 64 < cLine := by have := G.un; omega
  cases x with
  | Compare l os rs pos =>
    match os, rs, m with
    | [p1, p2], [rr, tt], m =>
      simp only [mE, Bool.and_eq_true, Bool.not_eq_true'] at m
      obtain ⟨⟨⟨⟨⟨⟨⟨m1, m2⟩, m3⟩, m4⟩, m5⟩, m6⟩, m7⟩, m8⟩ := m
      have hm : lastMarks [p1, p2] [rr, tt] = false := m3
      rw [copIs_eq m1, copIs_eq m2] at hm ⊢
      refine ⟨fun pins s σ H Q I h => (pt_chain (op_cop G.hK hu o1) (op_cop G.hK hu o2) (S.e a l m6) (S.e b rr m7) (S.e d tt m8) hm).run pins s σ H Q I ?_⟩
      refine two_at G (tT_cmp h) fun ι h σd x y d1 d2 H2 a0 b1 b2 p => ⟨ι, h, d1, d2, a0.1, b1, b2, ?_⟩
      cases e : cop o1 d1 d2 h with
      | none => rw [e] at p; exact p
      | some k =>
        rw [e] at p
        intro ι' H' v g S' bv
        cases bv
        refine ⟨k, rfl, ?_⟩
        cases k with
        | true =>
          rw [if_pos rfl]
          exact ⟨ι', h, σd, a0.grow G g S', (PR.bind (PR.step g p)).imp fun z H3 ⟨d3, h3, ι3, g3, S3, b3, p3⟩ => ⟨ι3, h3, d2, d3, S3, (b2.grow g).grow g3, b3, p3.noB⟩⟩
        | false =>
          rw [if_neg (by decide)]
          exact p ι' H' _ g S' (.bl false)
    | [], _, m => simp [mE] at m
    | [_], _, m => simp [mE] at m
    | _ :: _ :: _ :: _, _, m => simp [mE] at m
    | [_, _], [], m => simp [mE] at m
    | [_, _], [_], m => simp [mE] at m
    | [_, _], _ :: _ :: _ :: _, m => simp [mE] at m
  | _ => simp [mE] at m
theorem t_not (G : Gd ct cst L A c q X) (S : Snd c q X r) {a : E} {x : Expr} (m : mE c (.not a) x = true) : PT X x (tT q (stepT ct cst L A hd r (.not a))) := by
  cases x with
  | UnaryOp o l pos =>
    cases o with
    | Not =>
      simp only [mE] at m
      refine ⟨fun pins s σ H Q I h => (pt_not (S.t a l m)).run pins s σ H Q I (tst_at G (tT_cmp h) (fun ι h σd k H1 a0 p => ?_) fun σd d h hb => ?_)⟩
      · obtain ⟨k', e, q'⟩ := p ι H1 _ Gr.refl a0.1 (.bl _)
        cases e
        exact q'
      · cases d with
        | bl b => exact absurd rfl (hb b)
        | _ => rfl
    | _ => simp [mE] at m
  | _ => simp [mE] at m
theorem w_and (G : Gd ct cst L A c q X) (S : Snd c q X r) {a b : E} {op : BoolOp} {xs : List Expr} {pos : Pos} (m : mE c (.and a b) (.BoolOp op xs pos) = true) : PW X (.BoolOp op xs pos) (tT q (stepT ct cst L A hd r (.and a b))) := by
  match op, xs, m with
  | .And, l :: rr :: rs, m =>
    simp only [mE, Bool.and_eq_true] at m
    refine ⟨fun wh pins s σ H Q I h => (pw_and (S.t a l m.1) (S.w b _ _ _ m.2)).run wh pins s σ H Q I (tst_at G (tT_cmp h) (fun ι h σd k H1 a0 p => ?_) fun σd d h hb => ?_)⟩
    · cases k with
      | true => rw [if_pos rfl]; exact ⟨ι, h, σd, a0, p⟩
      | false =>
        rw [if_neg (by decide)]
        obtain ⟨k', e, q'⟩ := p ι H1 _ Gr.refl a0.1 (.bl _)
        cases e
        exact q'
    · cases d with
      | bl b => exact absurd rfl (hb b)
      | _ => rfl
  | .And, [], m => simp [mE] at m
  | .And, [_], m => simp [mE] at m
  | .Or, _, m => simp [mE] at m
theorem w_or (G : Gd ct cst L A c q X) (S : Snd c q X r) {a b : E} {op : BoolOp} {xs : List Expr} {pos : Pos} (m : mE c (.or a b) (.BoolOp op xs pos) = true) : PW X (.BoolOp op xs pos) (tT q (stepT ct cst L A hd r (.or a b))) := by
  match op, xs, m with
  | .Or, l :: rr :: rs, m =>
    simp only [mE, Bool.and_eq_true] at m
    refine ⟨fun wh pins s σ H Q I h => (pw_or (S.t a l m.1) (S.w b _ _ _ m.2)).run wh pins s σ H Q I (tst_at G (tT_cmp h) (fun ι h σd k H1 a0 p => ?_) fun σd d h hb => ?_)⟩
    · cases k with
      | false => rw [if_neg (by decide)]; exact ⟨ι, h, σd, a0, p⟩
      | true =>
        rw [if_pos rfl]
        obtain ⟨k', e, q'⟩ := p ι H1 _ Gr.refl a0.1 (.bl _)
        cases e
        exact q'
    · cases d with
      | bl b => exact absurd rfl (hb b)
      | _ => rfl
  | .Or, [], m => simp [mE] at m
  | .Or, [_], m => simp [mE] at m
  | .And, _, m => simp [mE] at m
theorem w_last (S : Snd c q X r) {a : E} {op : BoolOp} {xs : List Expr} {pos : Pos} (m : mE c (.last a) (.BoolOp op xs pos) = true) : PW X (.BoolOp op xs pos) (tT q (stepT ct cst L A hd r (.last a))) := by
  match xs, m with
  | [l], m =>
    have m' : mE c a l = true := by simpa only [mE] using m
    cases op with
    | And => exact pw_and1 (S.t a l m')
    | Or => exact pw_or1 (S.t a l m')
  | [], m => simp [mE] at m
  | _ :: _ :: _, m => simp [mE] at m
/-! ### arguments -/
theorem es_step (G : Gd ct cst L A c q X) (S : Snd c q X r) {es : Es} {xs : List Expr} (m : mEs c es xs = true) : PA X xs (tA q ((evStep ct cst L A hd r).es es)) := by
  cases es with
  | nil =>
    cases xs with
    | nil => exact ⟨fun pos pins s σ H Q I ⟨ι, h, σd, a0, p⟩ => pa_nil.run pos pins s σ H Q I (p ι H [] Gr.refl a0.1 .nil)⟩
    | cons _ _ => simp [mEs] at m
  | cons e es =>
    cases xs with
    | nil => simp [mEs] at m
    | cons y ys =>
      simp only [mEs, Bool.and_eq_true] at m
      refine ⟨fun pos pins s σ H Q I ⟨ι, h, σd, a0, p⟩ => (pa_cons (S.e e y m.1.2) (S.es es ys m.2) (star_cons m.1.1)).run pos pins s σ H Q I ?_⟩
      refine ⟨ι, h, σd, a0, (PR.bindL p).imp fun v H1 ⟨d1, h1, ι1, g1, S1, b1, p1⟩ => ⟨ι1, h1, σd, a0.grow G g1 S1, ?_⟩⟩
      have p2 := PRL.bindL p1
      revert p2
      cases r.es es σd h1 with
      | ok ds h2 =>
        intro p2 ι2 H2 vs g2 S2 b2
        obtain ⟨ds', h2', ι2', g2', S2', b2', p2'⟩ := p2 ι2 H2 vs g2 S2 b2
        exact p2' ι2' H2 (v :: vs) Gr.refl S2' (.cons (b1.grow g2') b2')
      | ex cc f h2 => exact fun p2 => p2
      | no => exact fun p2 => p2
/-! ### targets -/
theorem asgE_len {env : Env} : ∀ {xs : List Expr}, (assignEach xs env).length = xs.length
  | [] => rfl
  | e :: xs => by
    have ih := asgE_len (env := env) (xs := xs)
    cases e <;> simp [assignEach, ih]
theorem asgE_cons {env : Env} {e : Expr} {xs : List Expr} (h : noStar e = true) : assignEach (e :: xs) env = (false, assign e env) :: assignEach xs env := by
  cases e <;> first | (cases h; done) | simp [assignEach]
theorem asgE_star {env : Env} : ∀ {xs : List Expr}, xs.all noStar = true → (assignEach xs env).findIdx? (·.1) = none
  | [], _ => rfl
  | e :: xs, h => by
    rw [List.all_cons] at h
    rw [asgE_cons (andB h).1, List.findIdx?_cons]
    simp [asgE_star (env := env) (andB h).2]
theorem mGs_len {c : Cc} : ∀ {gs : Gs} {xs : List Expr}, mGs c gs xs = true → xs.length = gsLen gs ∧ xs.all noStar = true
  | .nil, [], _ => ⟨rfl, rfl⟩
  | .nil, _ :: _, h => by simp [mGs] at h
  | .cons _ _, [], h => by simp [mGs] at h
  | .cons g gs, y :: ys, h => by
    simp only [mGs, Bool.and_eq_true] at h
    obtain ⟨h1, h2⟩ := mGs_len h.2
    exact ⟨by simp [gsLen, h1], by rw [List.all_cons, h.1.1, h2]; rfl⟩
theorem loc_of (G : Gd ct cst L A c q X) {n : Str} (h : locB c n = true) : Loc X.env.scope n ∧ (X.fn n = true ∨ X.env.scope.names.lookup n = some .local) := by
  unfold locB at h
  rw [G.hsc]
  split at h
  · rename_i e; exact ⟨.inl e, .inr e⟩
  · rename_i e; exact ⟨.inr e, .inl (G.fnB h n)⟩
  · cases h
def rSetM (B : BP) (xa : Nat → Addr) (ι0 : List Addr) : TSet := fun o i v H Q => ∃ ι h n j d xs k, Sim B ι h H ∧ Be B ι H o (.ref n) ∧ i = .int k ∧ Be B ι H v d ∧ h[n]? = some (.lst xs) ∧ ixOf xs.length k = some j ∧
  ∀ H', Gr ι H ι H' → Sim B ι (h.set n (.lst (xs.set j d))) H' → Q H'
theorem set_m {B : BP} {xa : Nat → Addr} {ι0 : List Addr} : PSet X (rSetM B xa ι0) := by
  intro pins s σ H o i v ov iv u Q I ro ri rv ⟨ι, h, n, j, d, xs, k, S, bo, e1, bv, e2, e3, hq⟩
  subst e1
  cases bo with
  | @ref _ a hn =>
    obtain ⟨vs, q1, l1⟩ := S.lst hn e2
    refine set_list pins s σ H _ _ v ov iv u Q I ro ri rv ⟨a, vs, k, j, rfl, rfl, q1, by rw [← ix_eq, l1.length]; exact e3, ?_⟩
    have g : Gr ι H ι (upd H a (.lst (vs.set j v))) := gr_put q1 (fun z => z)
    exact hq _ g (S.put hn q1 (fun z => z) (fun _ z => by cases z) ⟨_, upd_same, (l1.grow g).set (bv.grow g) j⟩)
theorem g_step (G : Gd ct cst L A c q X) (S : Snd c q X r) {g : Mn.G} {x : Expr} (m : mG c g x = true) : PG X x (tGt q ((evStep ct cst L A hd r).g g)) := by
  cases g with
  | no => exact ⟨fun _ _ _ _ _ _ _ _ _ ⟨ι, h, σd, d, a0, b, p⟩ => (show False from p).elim⟩
  | nm i =>
    cases x with
    | Name n pos =>
      simp only [mG, Bool.and_eq_true] at m
      obtain ⟨l1, l2⟩ := loc_of G m.2
      exact ⟨fun pins s σ H v u Q I rv ⟨ι, h, σd, d, a0, b, p⟩ => (pg_name (by rw [G.hN]; exact G.nd) (by rw [G.hN]; exact at_of m.1) l1 l2).run pins s σ H v u Q I rv (p ι H _ Gr.refl a0.1 (a0.2.2.set b))⟩
    | _ => simp [mG] at m
  | tup gs =>
    cases x with
    | Tuple xs k pos =>
      simp only [mG, Bool.and_eq_true] at m
      obtain ⟨l1, l2⟩ := mGs_len m.2
      refine ⟨fun pins s σ H v u Q I rv ⟨ι, h, σd, d, a0, b, p⟩ => (pg_tup (G.cm m.1) (S.gs gs xs m.2) rfl (asgE_star l2)).run pins s σ H v u Q I rv ?_⟩
      cases b with
      | @tup a vs ds hs l =>
        by_cases hz : ds.length = gsLen gs
        · refine ⟨a, vs, rfl, by rw [G.hK]; exact hs, by rw [asgE_len, l1, l.length, hz], ι, h, σd, ds, a0, l, ?_⟩
          have p' : PRS q.B q.xa ι H q.W (if ds.length = gsLen gs then r.gs gs ds σd h else .no) { nx := Q, rt := fun _ _ => False } := p
          rw [if_pos hz] at p'
          exact p'
        · have p' : PRS q.B q.xa ι H q.W (if ds.length = gsLen gs then r.gs gs ds σd h else .no) { nx := Q, rt := fun _ _ => False } := p
          rw [if_neg hz] at p'
          exact p'.elim
      | _ => exact (show False from p).elim
    | _ => simp [mG] at m
  | sub a b =>
    cases x with
    | Subscript l rr pos =>
      simp only [mG, Bool.and_eq_true] at m
      obtain ⟨⟨m1, m2⟩, m3⟩ := m
      have ha : ∀ v, assign (.Subscript l rr pos) X.env v = (do
          let ov ← holding [v] (eval l X.env)
          let iv ← holding [v, ov] (eval rr X.env)
          standAt pos
          holding [v, ov, iv] (setItem ov iv v)
          release [v, ov, iv] []) := fun v => by cases rr <;> first | (cases m1; done) | rfl
      refine ⟨fun pins s σ H v u Q I rv ⟨ι, h, σd, d, a0, b0, p⟩ => (pg_sub (S.e a l m2) (S.e b rr m3) (set_m (B := q.B) (xa := q.xa) (ι0 := ι)) ha).run pins s σ H v u Q I rv ?_⟩
      refine ⟨ι, h, σd, a0, (PR.bindS a0.2.2 p).imp fun x H1 ⟨d1, h1, ι1, g1, S1, b1, s1, p1⟩ => ⟨ι1, h1, σd, a0.grow G g1 S1, (PR.bindS s1 p1).imp fun y H2 ⟨d2, h2, ι2, g2, S2, b2, s2, p2⟩ => ?_⟩⟩
      cases b1 with
      | @ref n a1 hn =>
        cases b2 with
        | int k =>
          have p' : PRS q.B q.xa ι2 H2 q.W (match h2[n]? with
            | some (.lst xs) => (match ixOf xs.length k with
              | some j => .nx σd (h2.set n (.lst (xs.set j d)))
              | none => .no)
            | _ => .no) { nx := Q, rt := fun _ _ => False } := p2
          split at p'
          · rename_i xs ex
            split at p'
            · rename_i j ej
              exact ⟨ι2, h2, n, j, d, xs, k, S2, .ref (g2.at hn), rfl, (b0.grow g1).grow g2, ex, ej, fun H' g S' => p' ι2 H' σ g S' (s2.grow g)⟩
            · exact p'.elim
          · exact p'.elim
        | _ => exact (show False from p2).elim
      | _ => cases b2 <;> exact (show False from p2).elim
    | _ => simp [mG] at m
theorem gs_step (G : Gd ct cst L A c q X) (S : Snd c q X r) {gs : Gs} {xs : List Expr} (m : mGs c gs xs = true) : PGs X xs (tGts q ((evStep ct cst L A hd r).gs gs)) := by
  cases gs with
  | nil =>
    cases xs with
    | nil =>
      refine ⟨fun pins s σ H vs us Q I rv ⟨ι, h, σd, ds, a0, b, p⟩ => pgs_nil.run pins s σ H vs us Q I rv ?_⟩
      cases ds with
      | nil => cases b; exact ⟨rfl, p ι H σ Gr.refl a0.1 a0.2.2⟩
      | cons _ _ => exact (show False from p).elim
    | cons _ _ => simp [mGs] at m
  | cons g gs =>
    cases xs with
    | nil => simp [mGs] at m
    | cons y ys =>
      simp only [mGs, Bool.and_eq_true] at m
      refine ⟨fun pins s σ H vs us Q I rv ⟨ι, h, σd, ds, a0, b, p⟩ => (pgs_cons (S.g g y m.1.2) (S.gs gs ys m.2) (by rw [asgE_cons m.1.1]; rfl)).run pins s σ H vs us Q I rv ?_⟩
      cases ds with
      | nil => exact (show False from p).elim
      | cons d ds =>
        cases b with
        | @cons v vs _ _ b1 l1 =>
          refine ⟨v, vs, rfl, ι, h, σd, d, a0, b1, ?_⟩
          have p1 := PRS.bind p
          revert p1
          cases r.g g d σd h with
          | nx σ1 h1 =>
            intro p1 ι1 H1 σ' g1 S1 s1
            obtain ⟨σd2, h2, ι2, g2, S2, s2, p2⟩ := p1 ι1 H1 σ' g1 S1 s1
            exact ⟨ι2, h2, σd2, ds, ⟨S2, G.pxm _ _ _ _ g2 a0.2.1, s2⟩, l1.grow g2, p2⟩
          | rt d' h1 => exact fun p1 => p1
          | bk σ1 h1 => exact fun p1 => p1
          | ct σ1 h1 => exact fun p1 => p1
          | ex cc f σ1 h1 => exact fun p1 => p1
          | no => exact fun p1 => p1
end
end Mn


set_option Elab.async false
set_option linter.all false
set_option maxHeartbeats 4000000
set_option maxRecDepth 20000
/-! Walks, comprehensions. -/
namespace Mn
open PySem PySem.Spec PyProof.Rows L2
/-! ### what is walked -/
def Wk (B : BP) (ι : List Addr) (H : Hp) (w : D) (J : L2.It) : Prop :=
  (∃ n : Int, w = .int n ∧ J = Itr 0 n.toNat) ∨ (∃ n a, w = .ref n ∧ ι[n]? = some a ∧ J = Itl B.K a) ∨ ∃ xs a vs, w = .tup xs ∧ SqT B.K H a vs ∧ BeL B ι H vs xs ∧ J = Itt B.K a
theorem Wk.grow {B : BP} {ι ι' : List Addr} {H H' : Hp} {w : D} {J : L2.It} (g : Gr ι H ι' H') (k : Wk B ι H w J) : Wk B ι' H' w J := by
  rcases k with k | ⟨n, a, e1, e2, e3⟩ | ⟨xs, a, vs, e1, e2, e3, e4⟩
  · exact .inl k
  · exact .inr (.inl ⟨n, a, e1, g.at e2, e3⟩)
  · exact .inr (.inr ⟨xs, a, vs, e1, g.sqt e2, e3.grow g, e4⟩)
theorem wk_item {B : BP} {X : Cx} {ι : List Addr} {h : Hh} {H : Hp} {w : D} {J : L2.It} {i : Nat} {d : D} (hK : X.K = B.K) (S : Sim B ι h H) (k : Wk B ι H w J) (e : nextOf h w i = .item d) : J.go i H ∧ ∀ x H', J.yld i H x H' → H' = H ∧ Be B ι H x d := by
  rcases k with ⟨n, rfl, rfl⟩ | ⟨n, a, rfl, e2, rfl⟩ | ⟨xs, a, vs, rfl, e2, e3, rfl⟩
  · have e' : (if i < n.toNat then Nxt.item (.int i) else .stop) = .item d := e
    split at e'
    · rename_i hl
      cases e'
      exact ⟨hl, fun x H' ⟨h1, h2⟩ => ⟨h1, by rw [h2, Int.zero_add]; exact .int _⟩⟩
    · cases e'
  · have e' : (match seqOf h (.ref n) with
      | some xs => (match xs[i]? with
        | some d => Nxt.item d
        | none => .stop)
      | none => .no) = .item d := e
    split at e'
    · rename_i xs ex
      split at e'
      · rename_i d' ed
        cases e'
        obtain ⟨vs, q1, l1⟩ := lst_sq (X := X) S hK e2 ex
        obtain ⟨v, q2, b⟩ := l1.at ed
        rw [hK] at q1
        exact ⟨⟨vs, v, q1, q2⟩, fun x H' ⟨h1, h2⟩ => ⟨h1, by
          have := h2 vs q1
          rw [q2] at this
          cases this
          exact b⟩⟩
      · cases e'
    · cases e'
  · have e' : (match xs[i]? with
      | some d => Nxt.item d
      | none => .stop) = .item d := e
    split at e'
    · rename_i d' ed
      cases e'
      obtain ⟨v, q2, b⟩ := e3.at ed
      exact ⟨⟨vs, v, e2, q2⟩, fun x H' ⟨h1, h2⟩ => ⟨h1, by
        have := h2 vs e2
        rw [q2] at this
        cases this
        exact b⟩⟩
    · cases e'
theorem wk_stop {B : BP} {X : Cx} {ι : List Addr} {h : Hh} {H : Hp} {w : D} {J : L2.It} {i : Nat} (hK : X.K = B.K) (S : Sim B ι h H) (k : Wk B ι H w J) (e : nextOf h w i = .stop) : J.stop i H := by
  rcases k with ⟨n, rfl, rfl⟩ | ⟨n, a, rfl, e2, rfl⟩ | ⟨xs, a, vs, rfl, e2, e3, rfl⟩
  · have e' : (if i < n.toNat then Nxt.item (.int i) else .stop) = .stop := e
    split at e'
    · cases e'
    · exact Nat.le_of_not_lt (by assumption)
  · have e' : (match seqOf h (.ref n) with
      | some xs => (match xs[i]? with
        | some d => Nxt.item d
        | none => .stop)
      | none => .no) = .stop := e
    split at e'
    · rename_i xs ex
      split at e'
      · cases e'
      · rename_i ed
        obtain ⟨vs, q1, l1⟩ := lst_sq (X := X) S hK e2 ex
        rw [hK] at q1
        exact ⟨vs, q1, l1.none ed⟩
    · cases e'
  · have e' : (match xs[i]? with
      | some d => Nxt.item d
      | none => .stop) = .stop := e
    split at e'
    · cases e'
    · rename_i ed
      exact ⟨vs, e2, e3.none ed⟩
section
variable {X : Cx} {tg : Expr}
def iSeq (K : PySem.W.Frag) (tl : TE) : TI := fun σ H R => tl σ H fun x H1 => ∃ a, x = .ref a ∧ (((∃ xs, SqL K H1 a xs) ∧ R (Itl K a) H1) ∨ ((∃ xs, SqT K H1 a xs) ∧ R (Itt K a) H1))
theorem pi_seq {l : Expr} {tl : TE} (hl : PE X l tl) : PI X tg l (iSeq X.K tl) := by
  refine ⟨fun pins s σ H R I h => thn (hl.run pins s σ H _ I h) ?_⟩
  rintro v s1 ⟨x, H1, I1, r1, a, rfl, q⟩
  cases r1
  have fresh : ∀ b ∈ [s1.heap.objs.size], FpOk X pins H1 b := fun b hb => by
    obtain rfl : b = s1.heap.objs.size := by simpa using hb
    exact I1.fpOk (Nat.le_refl _) (I1.hok.fresh (Nat.le_refl _))
  rcases q with ⟨⟨xs, hq⟩, q⟩ | ⟨⟨xs, hq⟩, q⟩
  · obtain ⟨its, rv, p, hz⟩ := I1.list hq
    exact wpAny_pyIter_list p.isList ⟨_, [s1.heap.objs.size], _, _, H1, rfl, I1.kept (t' := s1.toks) fun b o e => Heap.get?_push_of_some _ e, turn_list a _, ⟨_, Heap.get?_push_size _ rfl, rfl, rfl⟩, fresh, q⟩
  · obtain ⟨its, rv, p, hz⟩ := I1.tuple hq
    exact wpAny_pyIter_tuple (show s1.heap.IsTuple a its.toArray from p) ⟨_, [s1.heap.objs.size], _, _, H1, rfl, I1.kept (t' := s1.toks) fun b o e => Heap.get?_push_of_some _ e, turn_tuple a _, ⟨_, Heap.get?_push_size _ rfl, rfl, rfl⟩, fresh, q⟩
end
section
variable {ct : CT} {cst : Nat → Option D} {L : Lv} {A : Ar} {hd : HdR} {c : Cc} {q : Q0} {X : Cx} {r : Ev}
def tI (q : Q0) (r : Ev) (it : Mn.It) : TI := fun σ H R => ∃ ι h σd, q.at ι h σd σ H ∧ match it with
  | .no => False
  | .seq e => PR q.B ι H (fun c d H' => q.W c d σ H') (r.e e σd h) fun x H1 => ∃ a, x = .ref a ∧ (((∃ xs, SqL q.B.K H1 a xs) ∧ R (Itl q.B.K a) H1) ∨ ((∃ xs, SqT q.B.K H1 a xs) ∧ R (Itt q.B.K a) H1))
  | .rng e => PR q.B ι H (fun c d H' => q.W c d σ H') (r.e e σd h) fun x H1 => ∃ n : Int, x = .int n ∧ (-1000000 < n ∧ n < 1000000) ∧ R (Itr 0 n.toNat) H1
theorem pi_it (G : Gd ct cst L A c q X) (S : Snd c q X r) {it : Mn.It} {x tg : Expr} (m : mIt c it x = true) : PI X tg x (tI q r it) := by
  cases it with
  | no => exact ⟨fun _ _ _ _ _ _ ⟨_, _, _, _, z⟩ => z.elim⟩
  | seq e =>
    simp only [mIt] at m
    have h0 := pi_seq (tg := tg) (S.e e x m)
    rw [G.hK] at h0
    exact ⟨fun pins s σ H R I ⟨ι, h, σd, a0, p⟩ => h0.run pins s σ H R I ⟨ι, h, σd, a0, p⟩⟩
  | rng e =>
    unfold mIt at m
    split at m
    · rename_i n p y pos
      simp only [Bool.and_eq_true, decide_eq_true_eq] at m
      obtain ⟨⟨⟨⟨rfl, m1⟩, m2⟩, m3⟩, m4⟩ := m
      obtain ⟨g1, g2⟩ := gl_of G m2
      have hst : starEach [y] X.env = [(false, eval y X.env)] := star_cons m3
      refine ⟨fun pins s σ H R I ⟨ι, h, σd, a0, p⟩ => (pi_range1 g1 (G.fre _ m1) (pa_cons (S.e e y m4) pa_nil (star_cons m3)) hst).run pins s σ H R I ⟨ι, h, σd, a0, p.imp fun x H1 ⟨n, e1, hn, q1⟩ => ?_⟩⟩
      subst e1
      exact ⟨n, rfl, by omega, by omega, q1⟩
    · cases m
theorem wk_of {B : BP} {ι : List Addr} {h : Hh} {H : Hp} {w : D} {x : V} (S : Sim B ι h H) (b : Be B ι H x w) (e : (seqOf h w).isSome = true) {R : L2.It → Hp → Prop} (hk : ∀ J, Wk B ι H w J → R J H) :
    ∃ a, x = .ref a ∧ (((∃ xs, SqL B.K H a xs) ∧ R (Itl B.K a) H) ∨ ((∃ xs, SqT B.K H a xs) ∧ R (Itt B.K a) H)) := by
  obtain ⟨xs, ex⟩ := Option.isSome_iff_exists.mp e
  cases b with
  | @tup a vs ds hs l => exact ⟨a, rfl, .inr ⟨⟨vs, hs⟩, hk _ (.inr (.inr ⟨ds, a, vs, rfl, hs, l, rfl⟩))⟩⟩
  | @ref n a hn =>
    refine ⟨a, rfl, .inl ⟨?_, hk _ (.inr (.inl ⟨n, a, rfl, hn, rfl⟩))⟩⟩
    have e' : (match h[n]? with
      | some (.lst xs) => some xs
      | some (.rol xs) => some xs
      | _ => none) = some xs := ex
    split at e'
    · rename_i ys ey
      obtain ⟨vs, w1, _⟩ := S.lst hn ey
      exact ⟨vs, SqL.of w1⟩
    · rename_i ys ey
      obtain ⟨oo, vs, w1, _, _⟩ := S.ob n a _ hn ey
      exact ⟨vs, .inl (.inr ⟨oo, w1⟩)⟩
    · cases e'
  | _ => cases e
theorem it_of {it : Mn.It} {k : D → Hh → R} {ι : List Addr} {h : Hh} {σd : Sl} {σ : L2.St} {H : Hp} {Q : VK} {R : L2.It → Hp → Prop} (G : Gd ct cst L A c q X) (a0 : q.at ι h σd σ H)
    (p : PR q.B ι H (fun c d H' => q.W c d σ H') (match it with
      | .no => .no
      | .seq e => (r.e e σd h).bind fun w h1 => if (seqOf h1 w).isSome then k w h1 else .no
      | .rng e => (r.e e σd h).bind fun w h1 => (match w with
        | .int n => if -1000000 < n ∧ n < 1000000 then k (.int n) h1 else .no
        | _ => .no)) Q) (hk : ∀ w h1 ι1 H1, Gr ι H ι1 H1 → q.at ι1 h1 σd σ H1 → PR q.B ι1 H1 (fun c d H' => q.W c d σ H') (k w h1) Q → ∀ J, Wk q.B ι1 H1 w J → R J H1) : tI q r it σ H R := by
  refine ⟨ι, h, σd, a0, ?_⟩
  cases it with
  | no => exact p
  | seq e =>
    refine (PR.bind p).imp fun x H1 ⟨d1, h1, ι1, g1, S1, b1, p1⟩ => ?_
    by_cases hs : (seqOf h1 d1).isSome = true
    · rw [if_pos hs] at p1
      exact wk_of S1 b1 hs fun J kJ => hk d1 h1 ι1 H1 g1 (a0.grow G g1 S1) p1 J kJ
    · rw [if_neg hs] at p1
      exact (PR.no p1).elim
  | rng e =>
    refine (PR.bind p).imp fun x H1 ⟨d1, h1, ι1, g1, S1, b1, p1⟩ => ?_
    cases b1 with
    | int n =>
      by_cases hn : -1000000 < n ∧ n < 1000000
      · have p2 : PR q.B ι1 H1 (fun c d H' => q.W c d σ H') (if -1000000 < n ∧ n < 1000000 then k (.int n) h1 else .no) Q := p1
        rw [if_pos hn] at p2
        exact ⟨n, rfl, hn, hk _ h1 ι1 H1 g1 (a0.grow G g1 S1) p2 _ (.inl ⟨n, rfl, rfl⟩)⟩
      · have p2 : PR q.B ι1 H1 (fun c d H' => q.W c d σ H') (if -1000000 < n ∧ n < 1000000 then k (.int n) h1 else .no) Q := p1
        rw [if_neg hn] at p2
        exact (PR.no p2).elim
    | _ => exact (PR.no p1).elim
theorem itS_of {it : Mn.It} {k : D → Hh → RS} {ι : List Addr} {h : Hh} {σd : Sl} {σ : L2.St} {H : Hp} {Z : Ends} {R : L2.It → Hp → Prop} (G : Gd ct cst L A c q X) (a0 : q.at ι h σd σ H)
    (p : PRS q.B q.xa ι H q.W (match it with
      | .no => .no
      | .seq e => (r.e e σd h).bindS σd fun w h1 => if (seqOf h1 w).isSome then k w h1 else .no
      | .rng e => (r.e e σd h).bindS σd fun w h1 => (match w with
        | .int n => if -1000000 < n ∧ n < 1000000 then k (.int n) h1 else .no
        | _ => .no)) Z) (hk : ∀ w h1 ι1 H1, Gr ι H ι1 H1 → q.at ι1 h1 σd σ H1 → PRS q.B q.xa ι1 H1 q.W (k w h1) Z → ∀ J, Wk q.B ι1 H1 w J → R J H1) : tI q r it σ H R := by
  refine ⟨ι, h, σd, a0, ?_⟩
  cases it with
  | no => exact p
  | seq e =>
    refine (PR.bindS a0.2.2 p).imp fun x H1 ⟨d1, h1, ι1, g1, S1, b1, s1, p1⟩ => ?_
    by_cases hs : (seqOf h1 d1).isSome = true
    · rw [if_pos hs] at p1
      exact wk_of S1 b1 hs fun J kJ => hk d1 h1 ι1 H1 g1 (a0.grow G g1 S1) p1 J kJ
    · rw [if_neg hs] at p1
      exact (show False from p1).elim
  | rng e =>
    refine (PR.bindS a0.2.2 p).imp fun x H1 ⟨d1, h1, ι1, g1, S1, b1, s1, p1⟩ => ?_
    cases b1 with
    | int n =>
      have p2 : PRS q.B q.xa ι1 H1 q.W (if -1000000 < n ∧ n < 1000000 then k (.int n) h1 else .no) Z := p1
      by_cases hn : -1000000 < n ∧ n < 1000000
      · rw [if_pos hn] at p2
        exact ⟨n, rfl, hn, hk _ h1 ι1 H1 g1 (a0.grow G g1 S1) p2 _ (.inl ⟨n, rfl, rfl⟩)⟩
      · rw [if_neg hn] at p2
        exact (show False from p2).elim
    | _ => exact (show False from p1).elim
end
/-! ### the block of a comprehension -/
section
variable {ct : CT} {cst : Nat → Option D} {L : Lv} {A : Ar} {hd : HdR} {c : Cc} {q : Q0} {X : Cx}
abbrev Q0.blk (q : Q0) : Q0 := { q with W := fun _ _ _ _ => False }
theorem Gd.blk (G : Gd ct cst L A c q X) (s : Shared) (H : Hp) (scope : Scope) (C : Addr) (cl : List (Str × Addr)) (fp : List Addr) : Gd ct cst L A (c.blk scope) q.blk (X.blk s H scope (compEnvC scope cl C X.env) fp) where
  hN := G.hN
  nd := G.nd
  hsc := by
    show relS scope X.env.scope = relS scope c.sc
    rw [G.hsc]
  hK := G.hK
  un := G.un
  gu := G.gu
  cm := G.cm
  pxm := G.pxm
  fnv := G.fnv
  kp := G.kp
  cnv := G.cnv
  fre := G.fre
  gcd := G.gcd
  knv := G.knv
  exm := G.exm
  xf := G.xf
  call := G.call
  thk := fun _ z => by cases z
  xat := fun z => by cases z
  lam := fun _ _ _ _ _ _ _ _ _ _ _ _ _ _ _ z => by cases z
  rai := fun z => by cases z
  st := fun z => by cases z
  fnB := fun z => by cases z
  tk := fun _ _ ⟨_, _, _, _, _, _, _, _, _, _, _, _, _, _, _, _, w⟩ => w.elim
/-- a comprehension's target by its own reading -/
def gR (K : PySem.W.Frag) : Mn.G → TG
  | .nm i => gName i
  | .tup gs => gTup K (gsLen gs) (gsR K gs)
  | _ => fun _ _ _ _ => False
where gsR (K : PySem.W.Frag) : Gs → TGs
  | .nil => gNil
  | .cons g gs => gCons (gR K g) (gsR K gs)
end
end Mn


set_option Elab.async false
set_option linter.all false
set_option maxHeartbeats 4000000
set_option maxRecDepth 20000
/-! List comprehensions; all expressions. -/
namespace Mn
open PySem PySem.Spec PyProof.Rows L2
theorem wipe_set {x : Option V} : ∀ {vs : List Nat} {σ : L2.St} {i : Nat}, L2.wipe (σ.set i x) vs = if i ∈ vs then L2.wipe σ vs else (L2.wipe σ vs).set i x
  | [], σ, i => by simp [L2.wipe]
  | v :: vs, σ, i => by
    have ih := wipe_set (x := x) (vs := vs) (σ := σ) (i := i)
    unfold L2.wipe
    rw [ih]
    by_cases h1 : i ∈ vs
    · simp [h1]
    · by_cases h2 : i = v
      · subst h2
        simp [h1]
      · simp [h1, h2]
        exact List.set_comm _ _ h2
theorem wipe_idem : ∀ {vs : List Nat} {σ : L2.St}, L2.wipe (L2.wipe σ vs) vs = L2.wipe σ vs := by
  intro vs
  have gen : ∀ (us : List Nat) (σ : L2.St), (∀ v ∈ us, v ∈ vs) → L2.wipe (L2.wipe σ us) vs = L2.wipe σ vs := by
    intro us
    induction us with
    | nil => intro σ _; rfl
    | cons u us ih =>
      intro σ h
      show L2.wipe ((L2.wipe σ us).set u none) vs = _
      rw [wipe_set, if_pos (h u (List.mem_cons_self ..)), ih σ fun v hv => h v (List.mem_cons_of_mem _ hv)]
  exact fun {σ} => gen vs σ fun _ h => h
theorem own_map {N : List Str} : ∀ own : List Nat, (own.map fun i => (N.getD i Str.empty, i)).map (·.2) = own := by
  intro own
  induction own with
  | nil => rfl
  | cons a r ih => exact congrArg (a :: ·) ih
section
variable {ct : CT} {cst : Nat → Option D} {L : Lv} {A : Ar} {hd : HdR} {c : Cc} {q : Q0} {X : Cx}
mutual
theorem gR_pg (G : Gd ct cst L A c q X) {own : List Nat} : ∀ (g : Mn.G) (x : Expr), mG c g x = true → gIn own g = true → PG X x (gR q.B.K g)
  | .no, _, _, h => by simp [gIn] at h
  | .nm i, x, m, _ => by
    cases x with
    | Name n pos =>
      simp only [mG, Bool.and_eq_true] at m
      obtain ⟨l1, l2⟩ := loc_of G m.2
      exact pg_name (by rw [G.hN]; exact G.nd) (by rw [G.hN]; exact at_of m.1) l1 l2
    | _ => simp [mG] at m
  | .tup gs, x, m, h => by
    cases x with
    | Tuple xs k pos =>
      simp only [mG, Bool.and_eq_true] at m
      obtain ⟨l1, l2⟩ := mGs_len m.2
      simp only [gIn] at h
      have z := pg_tup (k := k) (pos := pos) (G.cm m.1) (gsR_pg G gs xs m.2 h) (n := gsLen gs) (by rw [asgE_len, l1]) (asgE_star l2)
      rw [G.hK] at z
      exact z
    | _ => simp [mG] at m
  | .sub _ _, _, _, h => by simp [gIn] at h
theorem gsR_pg (G : Gd ct cst L A c q X) {own : List Nat} : ∀ (gs : Gs) (xs : List Expr), mGs c gs xs = true → gsIn own gs = true → PGs X xs (gR.gsR q.B.K gs)
  | .nil, [], _, _ => pgs_nil
  | .nil, _ :: _, m, _ => by simp [mGs] at m
  | .cons _ _, [], m, _ => by simp [mGs] at m
  | .cons g gs, y :: ys, m, h => by
    simp only [mGs, Bool.and_eq_true] at m
    simp only [gsIn, Bool.and_eq_true] at h
    exact pgs_cons (gR_pg G g y m.1.2 h.1) (gsR_pg G gs ys m.2 h.2) (by rw [asgE_cons m.1.1]; rfl)
end
theorem gr_run {own : List Nat} {ι : List Addr} {h : Hh} {H : Hp} : ∀ n : Nat,
    (∀ (g : Mn.G) (σd σd1 : Sl) (σ : L2.St) (d : D) (v : V) (h1 : Hh), SimS q.B q.xa ι σd σ H → Be q.B ι H v d → gIn own g = true → (evF ct cst L A hd n).g g d σd h = .nx σd1 h1 →
      h1 = h ∧ ∃ σ', SimS q.B q.xa ι σd1 σ' H ∧ L2.wipe σ' own = L2.wipe σ own ∧ ∀ Q, Q σ' H → gR q.B.K g v σ H Q) ∧
    (∀ (gs : Gs) (σd σd1 : Sl) (σ : L2.St) (ds : List D) (vs : List V) (h1 : Hh), SimS q.B q.xa ι σd σ H → BeL q.B ι H vs ds → gsIn own gs = true → (evF ct cst L A hd n).gs gs ds σd h = .nx σd1 h1 →
      h1 = h ∧ ∃ σ', SimS q.B q.xa ι σd1 σ' H ∧ L2.wipe σ' own = L2.wipe σ own ∧ (vs.length = gsLen gs → True) ∧ ∀ Q, Q σ' H → gR.gsR q.B.K gs vs σ H Q)
  | 0 => ⟨fun g σd σd1 σ d v h1 _ _ _ e => (by cases e), fun gs σd σd1 σ ds vs h1 _ _ _ e => (by cases e)⟩
  | n + 1 => by
    obtain ⟨ih1, ih2⟩ := gr_run (own := own) (ι := ι) (h := h) (H := H) n
    refine ⟨fun g σd σd1 σ d v h1 ss b hi e => ?_, fun gs σd σd1 σ ds vs h1 ss b hi e => ?_⟩
    · cases g with
      | no => cases e
      | nm i =>
        cases e
        simp only [gIn, decide_eq_true_eq] at hi
        exact ⟨rfl, σ.set i (some v), ss.set b, by rw [wipe_set, if_pos hi], fun Q hq => hq⟩
      | tup gs =>
        cases b with
        | @tup a vs ds hs l =>
          have e' : (if ds.length = gsLen gs then (evF ct cst L A hd n).gs gs ds σd h else .no) = .nx σd1 h1 := e
          split at e'
          · rename_i hz
            simp only [gIn] at hi
            obtain ⟨r1, σ', r2, r3, _, r4⟩ := ih2 gs σd σd1 σ ds vs h1 ss l hi e'
            exact ⟨r1, σ', r2, r3, fun Q hq => ⟨a, vs, rfl, hs, by rw [l.length, hz], r4 Q hq⟩⟩
          · cases e'
        | _ => cases e
      | sub _ _ => simp [gIn] at hi
    · cases gs with
      | nil =>
        cases ds with
        | nil =>
          cases e
          cases b
          exact ⟨rfl, σ, ss, rfl, fun _ => trivial, fun Q hq => ⟨rfl, hq⟩⟩
        | cons _ _ => cases e
      | cons g gs =>
        cases ds with
        | nil => cases e
        | cons d ds =>
          cases b with
          | @cons v vs _ _ b1 l1 =>
            simp only [gsIn, Bool.and_eq_true] at hi
            have e' : ((evF ct cst L A hd n).g g d σd h).bind (fun σ1 h1 => (evF ct cst L A hd n).gs gs ds σ1 h1) = .nx σd1 h1 := e
            cases eg : (evF ct cst L A hd n).g g d σd h with
            | nx σa ha =>
              rw [eg] at e'
              obtain ⟨rfl, σ', r2, r3, r4⟩ := ih1 g σd σa σ d v ha ss b1 hi.1 eg
              obtain ⟨t1, σ'', t2, t3, _, t4⟩ := ih2 gs σa σd1 σ' ds vs h1 r2 l1 hi.2 e'
              exact ⟨t1, σ'', t2, t3.trans r3, fun _ => trivial, fun Q hq => ⟨v, vs, rfl, r4 _ (t4 Q hq)⟩⟩
            | rt _ _ => rw [eg] at e'; cases e'
            | bk _ _ => rw [eg] at e'; cases e'
            | ct _ _ => rw [eg] at e'; cases e'
            | ex _ _ _ _ => rw [eg] at e'; cases e'
            | no => rw [eg] at e'; cases e'
theorem lc_read {n : Nat} (G : Gd ct cst L A c q X) {elt : E} {g : Mn.G} {it : Mn.It} {own : List Nat} (m3 : gIn own g = true) {σ : L2.St} {H : Hp} {Q : VK} (hh : tE q (stepE ct cst L A hd (evF ct cst L A hd n) (.lc elt g it own)) σ H Q) :
    tLc (tI q (evF ct cst L A hd n) it) (gR q.B.K g) tYes (fun σ H Q => ∃ k, k ≤ n ∧ tE q.blk ((evF ct cst L A hd k).e elt) σ H Q) own σ H Q := by
  obtain ⟨ι, h, σd, a0, p⟩ := hh
  refine it_of (k := fun w h1 => (evF ct cst L A hd n).lcl elt g own w 0 h1.length (wipeS σd own) (h1 ++ [O.lst []])) G a0 p fun w h1 ι1 H1 g1 a1 p1 J kJ => ?_
  intro Dd hD
  have gn : Gr ι1 H1 (ι1 ++ [Dd]) (upd H1 Dd (.lst [])) := gr_new hD
  refine ⟨fun i k H' => k ≤ n ∧ ∃ ι' h', Sim q.B ι' h' H' ∧ q.px ι' H' ∧ SimS q.B q.xa ι' (wipeS σd own) (L2.wipe σ own) H' ∧ ι'[h1.length]? = some Dd ∧ Wk q.B ι' H' w J ∧
    PR q.B ι' H' (fun c d H' => q.W c d σ H') ((evF ct cst L A hd k).lcl elt g own w i h1.length (wipeS σd own) h') Q, ⟨n, Nat.le_refl _, ι1 ++ [Dd], h1 ++ [O.lst []], a1.1.new hD ⟨[], upd_same, .nil⟩, G.pxm _ _ _ _ gn a1.2.1, (a1.2.2.grow gn).wipe own, ?_, kJ.grow gn, p1.step gn⟩, ?_⟩
  · rw [← a1.1.len, List.getElem?_append_right (Nat.le_refl _)]
    simp
  · rintro i k H' ⟨hk, ι', h', S', px', ss', hn', kJ', p'⟩
    cases k with
    | zero => exact (show False from p').elim
    | succ k =>
      have p2 : PR q.B ι' H' (fun c d H' => q.W c d σ H') (match nextOf h' w i with
        | .no => .no
        | .stop => .ok (.ref h1.length) h'
        | .item d => (match (evF ct cst L A hd k).g g d (wipeS σd own) h' with
          | .nx σ1 h2 => (match (evF ct cst L A hd k).e elt σ1 h2 with
            | .ok y h3 => (match h3[h1.length]? with
              | some (.lst acc) => if acc.length < 1000000 then (evF ct cst L A hd k).lcl elt g own w (i + 1) h1.length (wipeS σd own) (h3.set h1.length (.lst (acc ++ [y]))) else .no
              | _ => .no)
            | _ => .no)
          | _ => .no)) Q := p'
      split at p2
      · exact (PR.no p2).elim
      · rename_i en
        exact .inl ⟨wk_stop (X := X) G.hK S' kJ' en, p2 ι' H' _ Gr.refl S' (.ref hn')⟩
      · rename_i d en
        obtain ⟨go, yl⟩ := wk_item (X := X) G.hK S' kJ' en
        obtain ⟨Nx, eN⟩ : ∃ Nx : Hp → Prop, Nx = fun H'' => k ≤ n ∧ ∃ ι' h', Sim q.B ι' h' H'' ∧ q.px ι' H'' ∧ SimS q.B q.xa ι' (wipeS σd own) (L2.wipe σ own) H'' ∧ ι'[h1.length]? = some Dd ∧ Wk q.B ι' H'' w J ∧
          PR q.B ι' H'' (fun c d H' => q.W c d σ H') ((evF ct cst L A hd k).lcl elt g own w (i + 1) h1.length (wipeS σd own) h') Q := ⟨_, rfl⟩
        refine .inr ⟨go, Nx, fun H'' hN => ⟨k, Nat.lt_succ_self _, by rw [eN] at hN; exact hN⟩, fun x H'' hy => ?_⟩
        obtain ⟨rfl, bx⟩ := yl x H'' hy
        split at p2
        · rename_i σ1 h2 eg
          obtain ⟨rfl, σ', r2, r3, r4⟩ := (gr_run (ct := ct) (cst := cst) (L := L) (A := A) (hd := hd) (q := q) (own := own) (ι := ι') (h := h') (H := H'') k).1 g _ _ (L2.wipe σ own) d x h2 ss' bx m3 eg
          suffices key : tE q.blk ((evF ct cst L A hd k).e elt) σ' H'' fun y H4 => ∃ acc, H4 Dd = some (.lst acc) ∧ acc.length < sizeLine ∧ Nx (upd H4 Dd (.lst (acc ++ [y]))) from
            r4 _ ⟨r3.trans wipe_idem, show (if true = true then (∃ k', k' ≤ n ∧ tE q.blk ((evF ct cst L A hd k').e elt) σ' H'' fun y H4 => ∃ acc, H4 Dd = some (.lst acc) ∧ acc.length < sizeLine ∧ Nx (upd H4 Dd (.lst (acc ++ [y])))) else Nx H'') by
              rw [if_pos rfl]; exact ⟨k, by omega, key⟩⟩
          refine ⟨ι', h2, σ1, ⟨S', px', r2⟩, ?_⟩
          revert p2
          cases (evF ct cst L A hd k).e elt σ1 h2 with
          | ok y h3 =>
            intro p2 ι4 H4 v4 g4 S4 b4
            have p3 : PR q.B ι' H'' (fun c d H' => q.W c d σ H') (match h3[h1.length]? with
              | some (.lst acc) => if acc.length < 1000000 then (evF ct cst L A hd k).lcl elt g own w (i + 1) h1.length (wipeS σd own) (h3.set h1.length (.lst (acc ++ [y]))) else .no
              | _ => .no) Q := p2
            split at p3
            · rename_i acc ea
              obtain ⟨vs, q1, l1⟩ := S4.lst (g4.at hn') ea
              split at p3
              · rename_i hz
                have gp : Gr ι4 H4 ι4 (upd H4 Dd (.lst (vs ++ [v4]))) := gr_put q1 (fun z => z)
                have gg := g4.trans gp
                refine ⟨vs, q1, size_lt (by rw [l1.length]; exact hz), ?_⟩
                rw [eN]
                exact ⟨by omega, ι4, h3.set h1.length (.lst (acc ++ [y])), S4.put (g4.at hn') q1 (fun z => z) (fun _ z => by cases z) ⟨_, upd_same, (l1.grow gp).app (.cons (b4.grow gp) .nil)⟩,
                  G.pxm _ _ _ _ gg px', ss'.grow gg, g4.at hn', kJ'.grow gg, p3.step gg⟩
              · exact (PR.no p3).elim
            · exact (PR.no p3).elim
          | ex cc f h3 => exact fun p2 => (PR.no p2).elim
          | no => exact fun p2 => (PR.no p2).elim
        · exact (PR.no p2).elim
theorem lc_parts {n : Nat} (IH : ∀ m, m ≤ n → ∀ (c : Cc) (q : Q0) (X : Cx), Gd ct cst L A c q X → Snd c q X (evF ct cst L A hd m)) (G : Gd ct cst L A c q X) {elt : E} {g : Mn.G} {it : Mn.It} {own : List Nat} {y tg iter : Expr} {scope : Scope} {pos : Pos}
    (m : mE c (.lc elt g it own) (.ListComp y [⟨tg, iter, [], 0⟩] scope pos) = true) : c.cm = true ∧ gIn own g = true ∧ (∀ x, foldedSetIterable iter X.env x = pure x) ∧ BlkOk X.N X.env.scope scope (own.map fun i => (c.N.getD i Str.empty, i)) ∧
      PI X tg iter (tI q (evF ct cst L A hd n) it) ∧ (∀ (s : Shared) (H : Hp) (C : Addr) (cl : List (Str × Addr)) (fp : List Addr), PG (X.blk s H scope (compEnvC scope cl C X.env) fp) tg (gR q.B.K g)) ∧
      ∀ (s : Shared) (H : Hp) (C : Addr) (cl : List (Str × Addr)) (fp : List Addr), PE (X.blk s H scope (compEnvC scope cl C X.env) fp) y (fun σ H Q => ∃ k, k ≤ n ∧ tE q.blk ((evF ct cst L A hd k).e elt) σ H Q) := by
  simp only [mE, Bool.and_eq_true] at m
  obtain ⟨⟨⟨⟨⟨⟨m0, m1⟩, m2⟩, m3⟩, m4⟩, m5⟩, m6⟩ := m
  have S := IH n (Nat.le_refl _) c q X G
  refine ⟨m0, m3, fun x => by cases iter <;> first | (cases m2; done) | rfl, ?_, pi_it G S m4, fun s H C cl fp => gR_pg (G.blk s H scope C cl fp) g tg m5 m3, fun s H C cl fp => ⟨fun pins s1 σ1 H1 Q1 I1 ⟨k, hk, hh⟩ => ((IH k hk _ _ _ (G.blk s H scope C cl fp)).e elt y m6).run pins s1 σ1 H1 Q1 I1 hh⟩⟩
  rw [G.hN, G.hsc]
  exact blkOk_by m1
theorem e_lc {n : Nat} (IH : ∀ m, m ≤ n → ∀ (c : Cc) (q : Q0) (X : Cx), Gd ct cst L A c q X → Snd c q X (evF ct cst L A hd m)) (G : Gd ct cst L A c q X) {elt : E} {g : Mn.G} {it : Mn.It} {own : List Nat} {x : Expr} (m : mE c (.lc elt g it own) x = true) :
    PE X x (tE q (stepE ct cst L A hd (evF ct cst L A hd n) (.lc elt g it own))) := by
  have m' := m
  unfold mE at m
  split at m
  · rename_i y tg iter scope pos
    obtain ⟨m0, m3, hs, ok, hi, hg, he⟩ := lc_parts IH G m'
    refine ⟨fun pins s σ H Q I h => (pe_lc (G.cm m0) (by rw [G.hN]; exact G.nd) hi ok hg (fun s H C cl fp => pts_nil) he hs).run pins s σ H Q I ?_⟩
    rw [own_map]
    exact lc_read G m3 h
  · cases m
/-- all expressions -/
theorem snd_step {n : Nat} (IH : ∀ m, m ≤ n → ∀ (c : Cc) (q : Q0) (X : Cx), Gd ct cst L A c q X → Snd c q X (evF ct cst L A hd m)) (G : Gd ct cst L A c q X) : Snd c q X (evF ct cst L A hd (n + 1)) := by
  have S := IH n (Nat.le_refl _) c q X G
  have he : ∀ (e : E) (x : Expr), mE c e x = true → PE X x (tE q ((evF ct cst L A hd (n + 1)).e e)) := fun e x m => by
    cases e with
    | no => exact pe_bad fun _ _ => rfl
    | var i => exact e_var (ct := ct) (hd := hd) (r := evF ct cst L A hd n) G m
    | non => exact e_non (ct := ct) (cst := cst) (L := L) (A := A) (hd := hd) (r := evF ct cst L A hd n) m
    | bl b => exact e_bl (ct := ct) (cst := cst) (L := L) (A := A) (hd := hd) (r := evF ct cst L A hd n) m
    | int b => exact e_int (ct := ct) (cst := cst) (L := L) (A := A) (hd := hd) (r := evF ct cst L A hd n) m
    | str b => exact e_str (ct := ct) (cst := cst) (L := L) (A := A) (hd := hd) (r := evF ct cst L A hd n) m
    | gv k => exact e_gv (ct := ct) (hd := hd) (r := evF ct cst L A hd n) G m
    | gc k => exact e_gc (ct := ct) (hd := hd) (r := evF ct cst L A hd n) G m
    | ty t => exact e_ty (ct := ct) (hd := hd) (r := evF ct cst L A hd n) G m
    | bin op a b => exact e_bin (ct := ct) (hd := hd) G S m
    | neg a => exact e_neg (ct := ct) (hd := hd) G S m
    | cmp op a b => exact e_cmp (ct := ct) (hd := hd) G S m
    | chain o1 o2 a b d => exact e_chain (ct := ct) (hd := hd) G S m
    | and a b => exact e_and (ct := ct) (hd := hd) G S m
    | or a b => exact e_or (ct := ct) (hd := hd) G S m
    | last a => exact e_last (ct := ct) (cst := cst) (L := L) (A := A) (hd := hd) S m
    | not a => exact e_not (ct := ct) (hd := hd) G S m
    | ite t a b => exact e_ite (ct := ct) (hd := hd) G S m
    | tup es => exact e_tup (ct := ct) (hd := hd) G S m
    | lst es => exact e_lst (ct := ct) (hd := hd) G S m
    | dnew => exact e_dnew (ct := ct) (cst := cst) (L := L) (A := A) (hd := hd) (r := evF ct cst L A hd n) m
    | call k es => exact e_call (ct := ct) (hd := hd) G S m
    | callB b es => exact e_callB (ct := ct) (hd := hd) G S m
    | callV i es => exact e_callV (ct := ct) (hd := hd) G S m
    | callT k e => exact e_callT (ct := ct) (hd := hd) (r := evF ct cst L A hd n) G m
    | thk i => exact e_thk (ct := ct) (hd := hd) (r := evF ct cst L A hd n) G m
    | meth o mm es => exact e_meth (ct := ct) (hd := hd) G S m
    | ix a b => exact e_ix (ct := ct) (hd := hd) G S m
    | lc elt g it own => exact e_lc IH G m
    | xattr i f => exact e_xattr (ct := ct) (hd := hd) (r := evF ct cst L A hd n) G m
  have hw : ∀ (e : E) (op : BoolOp) (xs : List Expr) (p : Pos), mE c e (.BoolOp op xs p) = true → PW X (.BoolOp op xs p) (tT q ((evF ct cst L A hd (n + 1)).t e)) := fun e op xs p m => by
    cases e with
    | and a b => exact w_and (ct := ct) (hd := hd) G S m
    | or a b => exact w_or (ct := ct) (hd := hd) G S m
    | last a => exact w_last (ct := ct) (cst := cst) (L := L) (A := A) (hd := hd) S m
    | no => exact ⟨fun _ _ _ _ _ _ _ ⟨ι, h, σd, a0, p⟩ => (PR.no p).elim⟩
    | meth o mm es => cases mm; simp [mE] at m
    | _ => simp [mE] at m
  refine ⟨he, fun e x m => ?_, hw, fun es xs m => es_step (ct := ct) (hd := hd) G S m, fun g x m => g_step (ct := ct) (hd := hd) G S m, fun gs xs m => gs_step (ct := ct) (hd := hd) G S m⟩
  have pl : plainT x = true → (∀ σ h, (evF ct cst L A hd (n + 1)).t e σ h = ((evF ct cst L A hd n).e e σ h).bind fun x h1 => ofB h1 (truth h1 x)) → PT X x (tT q ((evF ct cst L A hd (n + 1)).t e)) := fun hp hf => t_plain G hp (S.e e x m) hf
  cases e with
  | no => exact pt_bad fun _ _ => rfl
  | and a b =>
    cases x with
    | BoolOp op xs p => exact (hw _ op xs p m).pt
    | _ => simp [mE] at m
  | or a b =>
    cases x with
    | BoolOp op xs p => exact (hw _ op xs p m).pt
    | _ => simp [mE] at m
  | last a =>
    cases x with
    | BoolOp op xs p => exact (hw _ op xs p m).pt
    | _ => simp [mE] at m
  | not a => exact t_not (ct := ct) (hd := hd) G S m
  | ite t a b => exact pt_bad fun _ _ => rfl
  | cmp op a b => exact t_cmp (ct := ct) (hd := hd) G S m
  | chain o1 o2 a b d => exact t_chain (ct := ct) (hd := hd) G S m
  | neg a =>
    cases x with
    | UnaryOp o l p => cases o <;> first | (simp [mE] at m; done) | exact pl rfl fun _ _ => rfl
    | _ => simp [mE] at m
  | meth o mm es => cases mm; cases x <;> first | (simp [mE] at m; done) | exact pl rfl fun _ _ => rfl
  | _ => cases x <;> first | (simp [mE] at m; done) | exact pl rfl fun _ _ => rfl
theorem snd_zero : Snd c q X (evF ct cst L A hd 0) where
  e := fun _ _ _ => pe_bad fun _ _ => rfl
  t := fun _ _ _ => pt_bad fun _ _ => rfl
  w := fun _ _ _ _ _ => ⟨fun _ _ _ _ _ _ _ ⟨_, _, _, _, p⟩ => (PR.no p).elim⟩
  es := fun _ _ _ => ⟨fun _ _ _ _ _ _ _ ⟨_, _, _, _, p⟩ => (show False from p).elim⟩
  g := fun _ _ _ => ⟨fun _ _ _ _ _ _ _ _ _ ⟨_, _, _, _, _, _, p⟩ => (show False from p).elim⟩
  gs := fun _ _ _ => ⟨fun _ _ _ _ _ _ _ _ _ ⟨_, _, _, _, _, _, p⟩ => (show False from p).elim⟩
theorem snd_all : ∀ n : Nat, ∀ m, m ≤ n → ∀ (c : Cc) (q : Q0) (X : Cx), Gd ct cst L A c q X → Snd c q X (evF ct cst L A hd m)
  | 0, m, hm, c, q, X, G => by
    obtain rfl : m = 0 := by omega
    exact snd_zero
  | n + 1, m, hm, c, q, X, G => by
    by_cases h : m ≤ n
    · exact snd_all n m h c q X G
    · obtain rfl : m = n + 1 := by omega
      exact snd_step (snd_all n) G
end
end Mn


set_option Elab.async false
set_option linter.all false
set_option maxHeartbeats 4000000
set_option maxRecDepth 20000
/-! Statements: the check, the simple ones. -/
namespace Mn
open PySem PySem.Spec PyProof.Rows L2
def isTup : Expr → Bool
  | .Tuple _ _ _ => true
  | .List _ _ => true
  | _ => false
def lenOk : Expr → Bool
  | .Tuple ts _ _ => !(ts.length == 2 || ts.length == 3)
  | .List _ _ => false
  | _ => true
def foldAll : Expr → Bool
  | .Tuple vs _ _ => vs.all (foldedForSure 8)
  | _ => false
/-- a store of the plain kind -/
def asgOk (tg y : Expr) : Bool := noStar tg && noComp y && (lenOk tg || !(isTup y) || foldAll y)
/-- a tuple's store with a name that is no plain local -/
def swNo (sc : Scope) (tg y : Expr) : Bool := noComp y && (match tg with
  | .Tuple ts _ _ => ts.any fun t => match t with
    | .Name n _ => !(sc.names.lookup n == some .local)
    | _ => true
  | _ => false)
/-- the names of a swapped store, where it is one -/
def swNames (sc : Scope) (ts vs : List Expr) : Option (List Str) :=
  if !(ts.length == 2 || ts.length == 3) || vs.length != ts.length then none
  else if !(vs.all noStar) then none
  else
    let line := (ts.head?.map (·.pos.line)).getD 0
    let names := ts.filterMap fun
      | .Name id pos => if sc.names.lookup id == some .local && pos.line == line then some id else none
      | _ => none
    if names.length != ts.length || names.eraseDups.length != names.length then none
    else if vs.all (foldedForSure 8) then none
    else if vs.all (constantsAlone 8) then none
    else some names
def nameOf : Expr → Str
  | .Name n _ => n
  | _ => Str.empty
def lcSwap (c : Cc) (tg y : Expr) : Option Bool := match tg, y with
  | .Name n py, .ListComp _ _ scope p => some ((match c.sc.names.lookup n with | some .local => true | _ => false) && (py.line == p.line) && !(scope.names.any fun (m, k) => m == n && (k == .local || k == .cell)))
  | _, _ => none
mutual
def mS (c : Cc) : S → Stmt → Bool
  | .no, _ => true
  | .asg g e, x => (match x with | .Assign [tg] y _ => (asgOk tg y || swNo c.sc tg y || decide (lcSwap c tg y = some false)) && mG c g tg && mE c e y || (decide (lcSwap c tg y = some true) && (match g with | .nm _ => true | _ => false) && mG c g tg && mE c e y) | _ => false)
  | .par is es, x => (match x with | .Assign [.Tuple ts _ _] (.Tuple vs _ _) _ => c.cm && decide (swNames c.sc ts vs = some (ts.map nameOf)) && decide (is.map (fun i => c.N[i]?) = (ts.map nameOf).map some) && decide is.Nodup && ts.all (fun t => match t with | .Name n _ => (match c.sc.names.lookup n with | some .local => true | _ => false) | _ => false) && mEs c es vs | _ => false)
  | .aug i op e, x => (match x with | .AugAssign (.Name n _) o y _ => opIs op o && (match op with | .add => true | .sub => true | .mul => true | .fdiv => true | _ => false) && atB c.N i n && locB c n && mE c e y | _ => false)
  | .expr e, x => (match x with | .Expr y _ => noComp y && mE c e y | _ => false)
  | .ret e, x => (match x with | .Return (some y) _ => mE c e y | _ => false)
  | .retN, x => (match x with | .Return none _ => true | _ => false)
  | .iff d a b, x => (match x with | .If y l r _ => mE c d y && mSs c a l && mSs c b r | _ => false)
  | .while d b, x => (match x with | .While y l [] _ => c.st && mE c d y && mSs c b l | _ => false)
  | .for _ g it b, x => (match x with | .For tg y l [] _ => c.st && c.cm && noSet y && mG c g tg && mIt c it y && mSs c b l | _ => false)
  | .raise k es, x => (match x with | .Raise (some (.Call (.Name n _) [z] [] _)) none _ => c.st && c.cm && atB c.knm k n && glB c.sc n && mEs c es [z] | _ => false)
  | .try b hs, x => (match x with | .Try l hds [] [] _ => c.st && c.cm && !c.xc && (match hs with | .nil => false | _ => true) && mSs c b l && mHs c hs hds | _ => false)
  | .pass, x => (match x with | .Pass _ => true | _ => false)
  | .brk, x => (match x with | .Break _ => true | _ => false)
  | .cont, x => (match x with | .Continue _ => true | _ => false)
def mSs (c : Cc) : Ss → List Stmt → Bool
  | .nil, xs => (match xs with | [] => true | _ => false)
  | .cons s ss, xs => (match xs with | y :: ys => mS c s y && mSs c ss ys | _ => false)
def mHs (c : Cc) : Hds → List ExceptHandler → Bool
  | .nil, xs => (match xs with | [] => true | _ => false)
  | .cons k slot b hs, xs => (match xs with
    | .ExceptHandler (some (.Name n _)) nm (z :: zs) _ :: ys => atB c.knm k n && glB c.sc n && mHs c hs ys &&
      (match slot, nm with
        | none, none => mSs { c with cm := false, st := false, thk := none, xc := false, lam := fun _ => false } b (z :: zs)
        | some i, some v => atB c.N i v && locO c v && mSs { c with cm := false, st := false, thk := none, xc := true, lam := fun _ => false } b (z :: zs)
        | _, _ => false)
    | _ => false)
end
end Mn


set_option Elab.async false
set_option linter.all false
set_option maxHeartbeats 4000000
set_option maxRecDepth 20000
/-! Statements: soundness of the simple ones. -/
namespace Mn
open PySem PySem.Spec PyProof.Rows L2
structure SndS (c : Cc) (q : Q0) (X : Cx) (r : Ev) : Prop where
  s : ∀ s x, mS c s x = true → PS X x (tSt q (r.s s))
  ss : ∀ ss xs, mSs c ss xs = true → PSs X xs (tSt q (r.ss ss))
/-! ### a target's end -/
def RS.gk : RS → Bool
  | .nx _ _ => true
  | .ex _ _ _ _ => true
  | .no => true
  | _ => false
theorem gk_bindS {r : R} {σ : Sl} {k : D → Hh → RS} (h : ∀ d h, (k d h).gk = true) : (r.bindS σ k).gk = true := by
  cases r with
  | ok d h1 => exact h d h1
  | ex c f h1 => rfl
  | no => rfl
theorem gk_bind {r : RS} {k : Sl → Hh → RS} (h0 : r.gk = true) (h : ∀ d h, (k d h).gk = true) : (r.bind k).gk = true := by
  cases r with
  | nx σ h1 => exact h σ h1
  | _ => exact h0
theorem g_kind {ct : CT} {cst : Nat → Option D} {L : Lv} {A : Ar} {hd : HdR} : ∀ n : Nat, (∀ g d σ h, ((evF ct cst L A hd n).g g d σ h).gk = true) ∧ ∀ gs ds σ h, ((evF ct cst L A hd n).gs gs ds σ h).gk = true
  | 0 => ⟨fun _ _ _ _ => rfl, fun _ _ _ _ => rfl⟩
  | n + 1 => by
    obtain ⟨h1, h2⟩ := g_kind (ct := ct) (cst := cst) (L := L) (A := A) (hd := hd) n
    refine ⟨fun g d σ h => ?_, fun gs ds σ h => ?_⟩
    · cases g with
      | no => rfl
      | nm i => rfl
      | tup gs =>
        cases d with
        | tup ds =>
          show (if ds.length = gsLen gs then (evF ct cst L A hd n).gs gs ds σ h else .no).gk = true
          split
          · exact h2 _ _ _ _
          · rfl
        | _ => rfl
      | sub a b =>
        refine gk_bindS (r := (evF ct cst L A hd n).e a σ h) fun x h3 => gk_bindS (r := (evF ct cst L A hd n).e b σ h3) fun y h4 => ?_
        cases x <;> cases y <;> first | rfl | skip
        repeat' split
        all_goals rfl
    · cases gs with
      | nil => cases ds <;> rfl
      | cons g gs =>
        cases ds with
        | nil => rfl
        | cons d ds => exact gk_bind (r := (evF ct cst L A hd n).g g d σ h) (h1 _ _ _ _) fun σ1 h1 => h2 _ _ _ _
theorem PRS.toNx {B : BP} {xa : Nat → Addr} {ι : List Addr} {H : Hp} {W : WX} {r : RS} {Z : Ends} (hk : r.gk = true) (p : PRS B xa ι H W r Z) : PRS B xa ι H W r { nx := Z.nx, rt := fun _ _ => False } := by
  cases r <;> first | exact p | cases hk
section
variable {ct : CT} {cst : Nat → Option D} {L : Lv} {A : Ar} {hd : HdR} {c : Cc} {q : Q0} {X : Cx} {r : Ev}
abbrev stepS (ct : CT) (cst : Nat → Option D) (L : Lv) (A : Ar) (hd : HdR) (r : Ev) : S → Sl → Hh → RS := (evStep ct cst L A hd r).s
theorem comp_none {y : Expr} {t : Option Expr} {l : Nat} {env : Env} (h : noComp y = true) : swapsWith y t l env = pure false := by
  cases y <;> first | (cases h; done) | rfl
theorem comp_sole {y t : Expr} {l : Nat} {env : Env} (h : noComp y = true) : swapsWithSole [t] y l env = pure false := comp_none h
theorem star_asg {t : Expr} {env : Env} (h : noStar t = true) : (assignEach [t] env).map (·.2) = [assign t env] := by
  cases t <;> first | (cases h; done) | simp [assignEach]
theorem sw_len {t y : Expr} {env : Env} (h : (lenOk t || !(isTup y)) = true) : swappedStores [t] y env = pure none := by
  cases t <;> cases y <;> first | rfl | (cases h; done) | skip
  rename_i ts k p vs k2 p2
  have h' : (!(ts.length == 2 || ts.length == 3)) = true := by simpa [lenOk, isTup] using h
  unfold swappedStores
  simp only [h', Bool.true_or, if_true]
theorem s_bad {x : Stmt} {f : Sl → Hh → RS} (hf : ∀ σ h, f σ h = .no) : PS X x (tSt q f) := ⟨fun _ _ _ _ _ _ ⟨ι, h, σd, a0, p⟩ => by rw [hf] at p; exact (show False from p).elim⟩
/-- target = value -/
theorem s_asg {n : Nat} (G : Gd ct cst L A c q X) (S : Snd c q X (evF ct cst L A hd n)) {g : Mn.G} {e : E} {t y : Expr} {pos : Pos} (m1 : asgOk t y = true ∧ foldAll y = false) (m2 : mG c g t = true) (m3 : mE c e y = true) :
    PS X (.Assign [t] y pos) (tSt q (stepS ct cst L A hd (evF ct cst L A hd n) (.asg g e))) := by
  obtain ⟨m1, m0⟩ := m1
  unfold asgOk at m1
  rw [m0, Bool.or_false] at m1
  obtain ⟨m4, m6⟩ := andB m1
  obtain ⟨m4, m5⟩ := andB m4
  refine ⟨fun pins s σ H Z I ⟨ι, h, σd, a0, p⟩ => (ps_asg (S.e e y m3) (S.g g t m2) (comp_sole m5) (sw_len m6) (star_asg m4)).run pins s σ H Z I ⟨ι, h, σd, a0, (PR.bindS a0.2.2 p).imp fun x H1 ⟨d, h1, ι1, g1, S1, b1, s1, p1⟩ => ⟨ι1, h1, σd, d, a0.grow G g1 S1, b1, PRS.toNx ((g_kind n).1 _ _ _ _) p1⟩⟩⟩
theorem s_expr (G : Gd ct cst L A c q X) (S : Snd c q X r) {e : E} {y : Expr} {pos : Pos} (m1 : noComp y = true) (m2 : mE c e y = true) : PS X (.Expr y pos) (tSt q (stepS ct cst L A hd r (.expr e))) :=
  ⟨fun pins s σ H Z I ⟨ι, h, σd, a0, p⟩ => (ps_expr (S.e e y m2) (comp_none m1)).run pins s σ H Z I ⟨ι, h, σd, a0, (PR.bindS a0.2.2 p).imp fun x H1 ⟨d, h1, ι1, g1, S1, b1, s1, p1⟩ => p1 ι1 H1 σ Gr.refl S1 s1⟩⟩
theorem s_ret (G : Gd ct cst L A c q X) (S : Snd c q X r) {e : E} {y : Expr} {pos : Pos} (m2 : mE c e y = true) : PS X (.Return (some y) pos) (tSt q (stepS ct cst L A hd r (.ret e))) :=
  ⟨fun pins s σ H Z I ⟨ι, h, σd, a0, p⟩ => (ps_ret (S.e e y m2)).run pins s σ H Z I ⟨ι, h, σd, a0, (PR.bindS a0.2.2 p).imp fun x H1 ⟨d, h1, ι1, g1, S1, b1, s1, p1⟩ => p1 ι1 H1 x Gr.refl S1 b1⟩⟩
theorem s_retN {pos : Pos} : PS X (.Return none pos) (tSt q (stepS ct cst L A hd r .retN)) :=
  ⟨fun pins s σ H Z I ⟨ι, h, σd, a0, p⟩ => ps_retN.run pins s σ H Z I (p ι H _ Gr.refl a0.1 .non)⟩
theorem s_pass {pos : Pos} : PS X (.Pass pos) (tSt q (stepS ct cst L A hd r .pass)) :=
  ⟨fun pins s σ H Z I ⟨ι, h, σd, a0, p⟩ => ps_pass.run pins s σ H Z I (p ι H σ Gr.refl a0.1 a0.2.2)⟩
theorem s_brk {pos : Pos} : PS X (.Break pos) (tSt q (stepS ct cst L A hd r .brk)) :=
  ⟨fun pins s σ H Z I ⟨ι, h, σd, a0, p⟩ => ps_break.run pins s σ H Z I (p ι H σ Gr.refl a0.1 a0.2.2)⟩
theorem s_cont {pos : Pos} : PS X (.Continue pos) (tSt q (stepS ct cst L A hd r .cont)) :=
  ⟨fun pins s σ H Z I ⟨ι, h, σd, a0, p⟩ => ps_continue.run pins s σ H Z I (p ι H σ Gr.refl a0.1 a0.2.2)⟩
/-- a test, then what follows -/
theorem tst_s {t : E} {k1 k2 : Hh → RS} {ι : List Addr} {h : Hh} {σd : Sl} {σ : L2.St} {H : Hp} {Z : Ends} {Q : Bool → Hp → Prop} (G : Gd ct cst L A c q X) (a0 : q.at ι h σd σ H)
    (p : PRS q.B q.xa ι H q.W ((r.t t σd h).bindS σd fun x h1 => (match x with
      | .bl true => k1 h1
      | .bl false => k2 h1
      | _ => .no)) Z) (hk : ∀ ι1 h1 H1 b, Gr ι H ι1 H1 → q.at ι1 h1 σd σ H1 → PRS q.B q.xa ι1 H1 q.W (if b = true then k1 h1 else k2 h1) Z → Q b H1) : tT q (r.t t) σ H Q := by
  refine ⟨ι, h, σd, a0, (PR.bindS a0.2.2 p).imp fun x H1 ⟨d, h1, ι1, g1, S1, b1, s1, p1⟩ => ?_⟩
  cases b1 with
  | bl b =>
    refine ⟨b, rfl, hk ι1 h1 H1 b g1 (a0.grow G g1 S1) ?_⟩
    cases b <;> exact p1
  | _ => exact (show False from p1).elim
theorem s_iff (G : Gd ct cst L A c q X) (S : Snd c q X r) (T : SndS c q X r) {t : E} {a b : Ss} {y : Expr} {l1 l2 : List Stmt} {pos : Pos} (m1 : mE c t y = true) (m2 : mSs c a l1 = true) (m3 : mSs c b l2 = true) :
    PS X (.If y l1 l2 pos) (tSt q (stepS ct cst L A hd r (.iff t a b))) := by
  refine ⟨fun pins s σ H Z I ⟨ι, h, σd, a0, p⟩ => (ps_if (S.t t y m1) (T.ss a l1 m2) (T.ss b l2 m3)).run pins s σ H Z I (tst_s G a0 p fun ι1 h1 H1 k g1 a1 p1 => ?_)⟩
  cases k with
  | true => exact ⟨ι1, h1, σd, a1, p1⟩
  | false => exact ⟨ι1, h1, σd, a1, p1⟩
/-! ### name op= e -/
def rIp (B : BP) (op : Bop) : TIp := fun x y H Q => ∃ ι h i j, x = .int i ∧ y = .int j ∧ Sim B ι h H ∧ PR B ι H noX (ofO (bop op (.int i) (.int j) h)) Q
def augOp : Bop → Bool
  | .add => true | .sub => true | .mul => true | .fdiv => true | _ => false
theorem ip_bop {B : BP} {op : Bop} (hop : augOp op = true) : PIp X op.op (rIp B op) := by
  intro pins s σ H x y v u Q I r1 r2 ⟨ι, h, i, j, e1, e2, S, p⟩
  subst e1 e2
  obtain ⟨t, rfl⟩ := r1
  obtain ⟨t', rfl⟩ := r2
  cases op with
  | add => exact iadd_int ⟨.int _, H, I.tok _, ⟨_, rfl⟩, p ι H _ Gr.refl S (.int _)⟩
  | sub => exact isub_int ⟨.int _, H, I.tok _, ⟨_, rfl⟩, p ι H _ Gr.refl S (.int _)⟩
  | mul =>
    have p' : PR B ι H noX (ofO (if i.natAbs.log2 + j.natAbs.log2 < 1000000 then some (.int (i * j), h) else none)) Q := p
    by_cases hz : i.natAbs.log2 + j.natAbs.log2 < 1000000
    · rw [if_pos hz] at p'
      exact imul_int ⟨.int _, H, I.tok _, ⟨_, rfl⟩, p' ι H _ Gr.refl S (.int _)⟩ (show CMulW i j from hz).ok
    · rw [if_neg hz] at p'
      exact p'.elim
  | fdiv =>
    have p' : PR B ι H noX (ofO (if j ≠ 0 ∧ j.natAbs.log2 < 9000 then some (.int (i.fdiv j), h) else none)) Q := p
    by_cases hz : j ≠ 0 ∧ j.natAbs.log2 < 9000
    · rw [if_pos hz] at p'
      exact ifloordiv_int hz.1 ⟨.int _, H, I.tok _, ⟨_, rfl⟩, p' ι H _ Gr.refl S (.int _)⟩ (.inl (PyProof.noPylong_of_log2 hz.2))
    · rw [if_neg hz] at p'
      exact p'.elim
  | mod => cases hop
  | pow => cases hop
theorem s_aug (G : Gd ct cst L A c q X) (S : Snd c q X r) {i : Nat} {op : Bop} {e : E} {x : Str} {p0 pos : Pos} {y : Expr} (hop : augOp op = true) (m1 : atB c.N i x = true) (m2 : locB c x = true) (m3 : mE c e y = true) :
    PS X (.AugAssign (.Name x p0) op.op y pos) (tSt q (stepS ct cst L A hd r (.aug i op e))) := by
  obtain ⟨l1, l2⟩ := loc_of G m2
  refine ⟨fun pins s σ H Z I ⟨ι, h, σd, a0, p⟩ => (ps_aug (by rw [G.hN]; exact G.nd) (by rw [G.hN]; exact at_of m1) l1 (S.e e y m3) (ip_bop (B := q.B) hop) l2).run pins s σ H Z I ?_⟩
  have p' : PRS q.B q.xa ι H q.W (match σd[i]? with
    | some (.d x) => (r.e e σd h).bindS σd fun y h1 => (match x, y with
      | .int _, .int _ => (match bop op x y h1 with
        | some (d, h2) => .nx (σd.set i (.d d)) h2
        | none => .no)
      | _, _ => .no)
    | _ => .no) Z := p
  split at p'
  · rename_i d0 ed
    obtain ⟨v, e1, b0⟩ := (a0.2.2.2 i).1 d0 ed
    refine ⟨v, e1, ι, h, σd, a0, (PR.bindS a0.2.2 p').imp fun w H1 ⟨d, h1, ι1, g1, S1, b1, s1, p1⟩ => ?_⟩
    have b0' := b0.grow g1
    cases b0' with
    | int i1 =>
      cases b1 with
      | int j1 =>
        refine ⟨ι1, h1, i1, j1, rfl, rfl, S1, ?_⟩
        revert p1
        cases e4 : bop op (.int i1) (.int j1) h1 with
        | none => intro p1; simp only [e4] at p1; exact (show False from p1).elim
        | some dd =>
          obtain ⟨d2, h2⟩ := dd
          intro p1
          simp only [e4] at p1
          exact fun ι' H' v' g' S' b' => p1 ι' H' _ g' S' ((s1.grow g').set b')
      | _ => exact (show False from p1).elim
    | _ => exact (show False from p1).elim
  · exact (show False from p').elim
end
end Mn


set_option Elab.async false
set_option linter.all false
set_option maxHeartbeats 4000000
set_option maxRecDepth 20000
/-! Statements: stores of several names, of comprehensions; loops. -/
namespace Mn
open PySem PySem.Spec PyProof.Rows L2
theorem blk_fn {env : Env} (hk : env.scope.kind = .function) : env.blockKind = .function := by unfold Env.blockKind; rw [hk]; rfl
theorem swNames_len {sc : Scope} {ts vs : List Expr} {ns : List Str} (h : swNames sc ts vs = some ns) : (ts.length = 2 ∨ ts.length = 3) ∧ vs.length = ts.length := by
  unfold swNames at h
  split at h
  · cases h
  · rename_i hz
    simp at hz
    refine ⟨?_, hz.2⟩
    by_cases h2 : ts.length = 2
    · exact .inl h2
    · exact .inr (hz.1 h2)
theorem anyStar {vs : List Expr} : (vs.any fun | .Starred .. => true | _ => false) = !(vs.all noStar) := by
  induction vs with
  | nil => rfl
  | cons v vs ih =>
    rw [List.any_cons, List.all_cons, ih]
    cases v <;> rfl
theorem sw_names {env : Env} (hk : env.scope.kind = .function) {ts vs : List Expr} {kt k2 : _} {pt p2 : Pos} {ns : List Str} (h : swNames env.scope ts vs = some ns) : swappedStores [.Tuple ts kt pt] (.Tuple vs k2 p2) env = pure (some ns) := by
  have hb := blk_fn hk
  unfold swNames at h
  split at h
  · cases h
  rename_i h1
  split at h
  · cases h
  rename_i h2
  dsimp only at h
  split at h
  · cases h
  rename_i h3
  split at h
  · cases h
  rename_i h4
  split at h
  · cases h
  rename_i h5
  cases h
  unfold swappedStores
  simp only [hb]
  have h1' : ¬(!(ts.length == 2 || ts.length == 3) || vs.length != ts.length || (ScopeKind.function != ScopeKind.function)) = true := by
    rw [show (ScopeKind.function != ScopeKind.function) = false from rfl, Bool.or_false]
    exact h1
  have h2' : ¬(vs.any fun | .Starred .. => true | _ => false) = true := by
    rw [anyStar]
    exact h2
  exact (if_neg h1').trans ((if_neg h2').trans ((if_neg h3).trans ((if_neg h4).trans ((if_neg h5).trans rfl))))
theorem sw_fold {t y : Expr} {env : Env} (h : foldAll y = true) : swappedStores [t] y env = pure none := by
  cases y <;> first | (cases h; done) | skip
  rename_i vs k p
  have h' : vs.all (foldedForSure 8) = true := h
  cases t <;> first | rfl | skip
  all_goals
    unfold swappedStores
    dsimp only
    split
    · rfl
    · split
      · rfl
      · split
        · rfl
        · rfl
theorem fm_lt {f : Expr → Option Str} : ∀ {ts : List Expr}, (ts.any fun t => (f t).isNone) = true → (ts.filterMap f).length < ts.length
  | [], h => by cases h
  | t :: ts, h => by
    have le : (ts.filterMap f).length ≤ ts.length := List.length_filterMap_le _ _
    rw [List.any_cons, Bool.or_eq_true] at h
    cases e : f t with
    | none =>
      rw [List.filterMap_cons_none e, List.length_cons]
      omega
    | some x =>
      rw [e] at h
      rcases h with h | h
      · cases h
      · have := fm_lt h
        rw [List.filterMap_cons_some e, List.length_cons, List.length_cons]
        omega
theorem sw_no {t y : Expr} {env : Env} (h : swNo env.scope t y = true) : swappedStores [t] y env = pure none := by
  unfold swNo at h
  rw [Bool.and_eq_true] at h
  obtain ⟨_, h⟩ := h
  cases t <;> first | (cases h; done) | skip
  rename_i ts k p
  cases y <;> first | rfl | skip
  rename_i vs k2 p2
  have hl : ∀ line : Nat, (ts.filterMap fun
      | .Name id pos => if env.kindOf id == some .local && pos.line == line then some id else none
      | _ => none).length < ts.length := fun line => by
    refine fm_lt (List.any_eq_true.mpr ?_)
    obtain ⟨x, hx, hz⟩ := List.any_eq_true.mp h
    refine ⟨x, hx, ?_⟩
    cases x <;> first | rfl | skip
    rename_i n p
    have hz' : (!(env.scope.names.lookup n == some .local)) = true := hz
    have : (env.kindOf n == some .local) = false := by
      show (env.scope.names.lookup n == some .local) = false
      simpa using hz'
    simp [this]
  unfold swappedStores
  dsimp only
  split
  · rfl
  · split
    · rfl
    · split
      · rfl
      · rename_i hx
        exfalso
        apply hx
        rw [Bool.or_eq_true]
        left
        have := hl ((ts.head?.map (·.pos.line)).getD 0)
        simp only [bne_iff_ne, ne_eq]
        exact Nat.ne_of_lt this
theorem sw_false {elt : Expr} {gs : List Comprehension} {scope : Scope} {pos py : Pos} {y : Str} {l : Nat} {env : Env} (hk : env.scope.kind = .function)
    (h : ((match env.scope.names.lookup y with | some .local => true | _ => false) && (py.line == pos.line) && !(scope.names.any fun (m, k) => m == y && (k == .local || k == .cell))) = false) : swapsWith (.ListComp elt gs scope pos) (some (.Name y py)) l env = pure false := by
  have e : (env.kindOf y == some .local) = (match env.scope.names.lookup y with | some .local => true | _ => false) := by
    show (env.scope.names.lookup y == some .local) = _
    cases env.scope.names.lookup y with
    | none => rfl
    | some k => cases k <;> rfl
  unfold swapsWith
  simp only [blk_fn hk, Expr.pos, e]
  show pure (true && _ && _ && _) = _
  rw [Bool.true_and]
  exact congrArg pure h
section
variable {ct : CT} {cst : Nat → Option D} {L : Lv} {A : Ar} {hd : HdR} {c : Cc} {q : Q0} {X : Cx} {r : Ev}
theorem lcSwap_false {tg y : Expr} {l : Nat} (G : Gd ct cst L A c q X) (h : lcSwap c tg y = some false) (hk : X.env.scope.kind = .function) : swapsWithSole [tg] y l X.env = pure false ∧ swappedStores [tg] y X.env = pure none ∧ (assignEach [tg] X.env).map (·.2) = [assign tg X.env] := by
  unfold lcSwap at h
  split at h
  · rename_i n py elt gs scope p
    rw [← G.hsc] at h
    exact ⟨sw_false (l := l) hk (Option.some.inj h), rfl, rfl⟩
  · cases h
theorem s_asgF {n : Nat} (G : Gd ct cst L A c q X) (S : Snd c q X (evF ct cst L A hd n)) {g : Mn.G} {e : E} {t y : Expr} {pos : Pos} (m1 : lcSwap c t y = some false) (m2 : mG c g t = true) (m3 : mE c e y = true) :
    PS X (.Assign [t] y pos) (tSt q (stepS ct cst L A hd (evF ct cst L A hd n) (.asg g e))) := by
  refine ⟨fun pins s σ H Z I ⟨ι, h, σd, a0, p⟩ => ?_⟩
  obtain ⟨w1, w2, w3⟩ := lcSwap_false (l := pos.line) G m1 I.ok.kind
  exact (ps_asg (S.e e y m3) (S.g g t m2) w1 w2 w3).run pins s σ H Z I ⟨ι, h, σd, a0, (PR.bindS a0.2.2 p).imp fun x H1 ⟨d, h1, ι1, g1, S1, b1, s1, p1⟩ => ⟨ι1, h1, σd, d, a0.grow G g1 S1, b1, PRS.toNx ((g_kind n).1 _ _ _ _) p1⟩⟩
theorem s_asgL {n : Nat} (G : Gd ct cst L A c q X) (S : Snd c q X (evF ct cst L A hd n)) {g : Mn.G} {e : E} {t y : Expr} {pos : Pos} (m1 : foldAll y = true ∧ noStar t = true) (m2 : mG c g t = true) (m3 : mE c e y = true) :
    PS X (.Assign [t] y pos) (tSt q (stepS ct cst L A hd (evF ct cst L A hd n) (.asg g e))) := by
  have hc : noComp y = true := by
    have := m1.1
    cases y <;> first | rfl | cases this
  refine ⟨fun pins s σ H Z I ⟨ι, h, σd, a0, p⟩ => ?_⟩
  exact (ps_asg (S.e e y m3) (S.g g t m2) (comp_sole hc) (sw_fold m1.1) (star_asg m1.2)).run pins s σ H Z I ⟨ι, h, σd, a0, (PR.bindS a0.2.2 p).imp fun x H1 ⟨d, h1, ι1, g1, S1, b1, s1, p1⟩ => ⟨ι1, h1, σd, d, a0.grow G g1 S1, b1, PRS.toNx ((g_kind n).1 _ _ _ _) p1⟩⟩
theorem s_asgN {n : Nat} (G : Gd ct cst L A c q X) (S : Snd c q X (evF ct cst L A hd n)) {g : Mn.G} {e : E} {t y : Expr} {pos : Pos} (m1 : swNo c.sc t y = true) (m2 : mG c g t = true) (m3 : mE c e y = true) :
    PS X (.Assign [t] y pos) (tSt q (stepS ct cst L A hd (evF ct cst L A hd n) (.asg g e))) := by
  have hc : noComp y = true := by
    unfold swNo at m1
    exact (andB m1).1
  have hn : noStar t = true := by
    unfold swNo at m1
    have := (andB m1).2
    cases t <;> first | rfl | cases this
  have hw : swappedStores [t] y X.env = pure none := sw_no (by rw [G.hsc]; exact m1)
  refine ⟨fun pins s σ H Z I ⟨ι, h, σd, a0, p⟩ => ?_⟩
  exact (ps_asg (S.e e y m3) (S.g g t m2) (comp_sole hc) hw (star_asg hn)).run pins s σ H Z I ⟨ι, h, σd, a0, (PR.bindS a0.2.2 p).imp fun x H1 ⟨d, h1, ι1, g1, S1, b1, s1, p1⟩ => ⟨ι1, h1, σd, d, a0.grow G g1 S1, b1, PRS.toNx ((g_kind n).1 _ _ _ _) p1⟩⟩
/-- name = [.. for ..], the list stored within -/
theorem s_asgT {n : Nat} (IH : ∀ m, m ≤ n → ∀ (c : Cc) (q : Q0) (X : Cx), Gd ct cst L A c q X → Snd c q X (evF ct cst L A hd m)) (G : Gd ct cst L A c q X) {i : Nat} {e : E} {t y : Expr} {pos : Pos} (m1 : lcSwap c t y = some true) (m2 : mG c (.nm i) t = true) (m3 : mE c e y = true) :
    PS X (.Assign [t] y pos) (tSt q (stepS ct cst L A hd (evF ct cst L A hd n) (.asg (.nm i) e))) := by
  unfold lcSwap at m1
  split at m1
  · rename_i nm py elt gs scope p
    have m1 := Option.some.inj m1
    simp only [Bool.and_eq_true, Bool.not_eq_true'] at m1
    obtain ⟨⟨k1, k2⟩, k3⟩ := m1
    have hloc : X.env.scope.names.lookup nm = some .local := by
      rw [G.hsc]
      revert k1
      cases c.sc.names.lookup nm with
      | none => intro z; cases z
      | some k => cases k <;> first | (intro _; rfl) | (intro z; cases z)
    simp only [mG, Bool.and_eq_true] at m2
    cases n with
    | zero => exact ⟨fun pins s σ H Z I ⟨ι, h, σd, a0, p⟩ => (show False from p).elim⟩
    | succ n =>
      cases e with
      | no => exact ⟨fun pins s σ H Z I ⟨ι, h, σd, a0, p⟩ => (show False from p).elim⟩
      | lc elt' g it own =>
        have m3' := m3
        unfold mE at m3
        split at m3
        · rename_i y2 tg iter scope2 pos2 ey
          cases ey
          obtain ⟨m0, mo, hs, ok, hi, hg, he⟩ := lc_parts (fun m hm => IH m (Nat.le_succ_of_le hm)) G m3'
          refine ⟨fun pins s σ H Z I ⟨ι, h, σd, a0, p⟩ => (ps_setLc (G.cm m0) (by rw [G.hN]; exact G.nd) (by rw [G.hN]; exact at_of m2.1) hloc (sw_true I.ok.kind hloc k2 k3) hi ok hg (fun s H C cl fp => pts_nil) he hs).run pins s σ H Z I ?_⟩
          rw [own_map]
          exact lc_read G mo ⟨ι, h, σd, a0, (PR.bindS a0.2.2 p).imp fun x H1 ⟨d, h1, ι1, g1, S1, b1, s1, p1⟩ => p1 ι1 H1 _ Gr.refl S1 (s1.set b1)⟩
        · cases m3
      | meth o mm es => cases mm; simp [mE] at m3
      | _ => simp [mE] at m3
  · cases m1
theorem PRL.impl {B : BP} {ι : List Addr} {H : Hp} {W : XK} {Q Q' : List V → Hp → Prop} {r : RL} (p : PRL B ι H W r Q) (hq : ∀ v H', Q v H' → Q' v H') : PRL B ι H W r Q' := by
  cases r with
  | ok d h => exact fun ι' H' v g' s b => hq _ _ (p ι' H' v g' s b)
  | ex c f h => exact p
  | no => exact p
theorem bel_two {B : BP} {ι : List Addr} {H : Hp} {us : List V} {ds : List D} (l : BeL B ι H us ds) (h : ds.length = 2) : ∃ u1 u2 d1 d2, us = [u1, u2] ∧ ds = [d1, d2] ∧ Be B ι H u1 d1 ∧ Be B ι H u2 d2 := by
  cases l with
  | nil => cases h
  | cons b1 l =>
    cases l with
    | nil => cases h
    | cons b2 l =>
      cases l with
      | nil => exact ⟨_, _, _, _, rfl, rfl, b1, b2⟩
      | cons b3 l => simp at h
theorem bel_three {B : BP} {ι : List Addr} {H : Hp} {us : List V} {ds : List D} (l : BeL B ι H us ds) (h : ds.length = 3) : ∃ u1 u2 u3 d1 d2 d3, us = [u1, u2, u3] ∧ ds = [d1, d2, d3] ∧ Be B ι H u1 d1 ∧ Be B ι H u2 d2 ∧ Be B ι H u3 d3 := by
  cases l with
  | nil => cases h
  | cons b1 l =>
    obtain ⟨u2, u3, d2, d3, e1, e2, b2, b3⟩ := bel_two l (by simpa using h)
    subst e1 e2
    exact ⟨_, _, _, _, _, _, rfl, rfl, b1, b2, b3⟩
/-- a, b = x, y; three of them -/
theorem loc_nm (G : Gd ct cst L A c q X) {t : Expr} (h : (match t with | .Name n _ => (match c.sc.names.lookup n with | some .local => true | _ => false) | _ => false) = true) : ∃ n p, t = .Name n p ∧ X.env.scope.names.lookup n = some .local := by
  cases t with
  | Name n p =>
    refine ⟨n, p, rfl, ?_⟩
    rw [G.hsc]
    revert h
    cases e : c.sc.names.lookup n with
    | none => intro z; simp [e] at z
    | some k => cases k <;> simp [e]
  | _ => cases h
theorem s_par (G : Gd ct cst L A c q X) (S : Snd c q X r) {is : List Nat} {es : Es} {ts vs : List Expr} {kt k2 : _} {pt p2 pos : Pos} (m1 : c.cm = true) (m2 : swNames c.sc ts vs = some (ts.map nameOf)) (m3 : is.map (fun i => c.N[i]?) = (ts.map nameOf).map some) (m4 : is.Nodup)
    (m5 : ts.all (fun t => match t with | .Name n _ => (match c.sc.names.lookup n with | some .local => true | _ => false) | _ => false) = true) (m6 : mEs c es vs = true) : PS X (.Assign [.Tuple ts kt pt] (.Tuple vs k2 p2) pos) (tSt q (stepS ct cst L A hd r (.par is es))) := by
  have hA := S.es es vs m6
  obtain ⟨h1, h2⟩ := swNames_len m2
  have run : ∀ {ι : List Addr} {h : Hh} {σd : Sl} {σ : L2.St} {H : Hp} {Z : Ends}, q.at ι h σd σ H → PRS q.B q.xa ι H q.W (stepS ct cst L A hd r (.par is es) σd h) Z →
      tA q (r.es es) σ H fun us H1 => ∃ ds σd ι1 h1, BeL q.B ι1 H1 us ds ∧ ds.length = is.length ∧ q.at ι1 h1 σd σ H1 ∧ PRS q.B q.xa ι1 H1 q.W (.nx (setAll σd is ds) h1) Z := by
    intro ι h σd σ H Z a0 p
    refine ⟨ι, h, σd, a0, PRL.impl (PRL.bindS a0.2.2 p) fun us H1 ⟨ds, h1, ι1, g1, S1, b1, s1, p1⟩ => ?_⟩
    by_cases hz : ds.length = is.length
    · rw [if_pos hz] at p1
      exact ⟨ds, σd, ι1, h1, b1, hz, a0.grow G g1 S1, p1⟩
    · rw [if_neg hz] at p1
      exact (show False from p1).elim
  have hn : is.length = ts.length := by
    have := congrArg List.length m3
    simpa using this
  rcases h1 with h1 | h1
  · match ts, vs, is, h1, h2, hn with
    | [t1, t2], [v1, v2], [i, j], _, _, _ =>
      simp only [List.all_cons, List.all_nil, Bool.and_true, Bool.and_eq_true] at m5
      obtain ⟨n1, q1, rfl, l1⟩ := loc_nm G m5.1
      obtain ⟨n2, q2, rfl, l2⟩ := loc_nm G m5.2
      simp [nameOf] at m3 m4
      refine ⟨fun pins s σ H Z I ⟨ι, h, σd, a0, p⟩ => (ps_par (G.cm m1) (by rw [G.hN]; exact G.nd) (by rw [G.hN]; exact m3.1) (by rw [G.hN]; exact m3.2) m4 l1 l2 hA (sw_names I.ok.kind (by rw [G.hsc]; exact m2)) rfl).run pins s σ H Z I ?_⟩
      obtain ⟨ι', h', σd', a', p'⟩ := run a0 p
      refine ⟨ι', h', σd', a', PRL.impl p' fun us H1 ⟨ds, σd1, ι1, h1, bl, hl, a1, p1⟩ => ?_⟩
      obtain ⟨u1, u2, d1, d2, rfl, rfl, b1, b2⟩ := bel_two bl hl
      exact ⟨u1, u2, rfl, p1 ι1 H1 _ Gr.refl a1.1 ((a1.2.2.set b1).set b2)⟩
  · match ts, vs, is, h1, h2, hn with
    | [t1, t2, t3], [v1, v2, v3], [i, j, k], _, _, _ =>
      simp only [List.all_cons, List.all_nil, Bool.and_true, Bool.and_eq_true] at m5
      obtain ⟨n1, q1, rfl, l1⟩ := loc_nm G m5.1
      obtain ⟨n2, q2, rfl, l2⟩ := loc_nm G m5.2.1
      obtain ⟨n3, q3, rfl, l3⟩ := loc_nm G m5.2.2
      simp [nameOf] at m3 m4
      refine ⟨fun pins s σ H Z I ⟨ι, h, σd, a0, p⟩ => (ps_par3 (G.cm m1) (by rw [G.hN]; exact G.nd) (by rw [G.hN]; exact m3.1) (by rw [G.hN]; exact m3.2.1) (by rw [G.hN]; exact m3.2.2) m4.1.1 m4.1.2 m4.2 l1 l2 l3 hA (sw_names I.ok.kind (by rw [G.hsc]; exact m2)) rfl).run pins s σ H Z I ?_⟩
      obtain ⟨ι', h', σd', a', p'⟩ := run a0 p
      refine ⟨ι', h', σd', a', PRL.impl p' fun us H1 ⟨ds, σd1, ι1, h1, bl, hl, a1, p1⟩ => ?_⟩
      obtain ⟨u1, u2, u3, d1, d2, d3, rfl, rfl, b1, b2, b3⟩ := bel_three bl hl
      exact ⟨u1, u2, u3, rfl, p1 ι1 H1 _ Gr.refl a1.1 (((a1.2.2.set b1).set b2).set b3)⟩
/-! ### loops -/
theorem s_while {n : Nat} (IH : ∀ m, m ≤ n → ∀ (c : Cc) (q : Q0) (X : Cx), Gd ct cst L A c q X → Snd c q X (evF ct cst L A hd m)) (IS : ∀ m, m ≤ n → SndS c q X (evF ct cst L A hd m)) (G : Gd ct cst L A c q X) {t : E} {b : Ss} {y : Expr} {l : List Stmt} {pos : Pos} (m0 : c.st = true) (m1 : mE c t y = true) (m2 : mSs c b l = true) :
    PS X (.While y l [] pos) (tSt q (stepS ct cst L A hd (evF ct cst L A hd n) (.while t b))) := by
  have hc : PT X y (fun σ H Q => ∃ k, k ≤ n ∧ tT q ((evF ct cst L A hd k).t t) σ H Q) := ⟨fun pins s σ H Q I ⟨k, hk, h⟩ => ((IH k hk c q X G).t t y m1).run pins s σ H Q I h⟩
  have hb : PSs X l (fun Z σ H => ∃ k, k ≤ n ∧ tSt q ((evF ct cst L A hd k).ss b) Z σ H) := ⟨fun pins s σ H Z I ⟨k, hk, h⟩ => ((IS k hk).ss b l m2).run pins s σ H Z I h⟩
  refine ⟨fun pins s σ H Z I h => (ps_while (G.st m0).1 hc hb).run pins s σ H Z I ⟨fun m σ H => m ≤ n + 1 ∧ tSt q ((evF ct cst L A hd m).s (.while t b)) Z σ H, ⟨n + 1, Nat.le_refl _, h⟩, fun m σ1 H1 ⟨hm, h1⟩ => ?_⟩⟩
  cases m with
  | zero =>
    obtain ⟨ι, h, σd, a0, p⟩ := h1
    exact (show False from p).elim
  | succ m =>
    obtain ⟨ι, h, σd, a0, p⟩ := h1
    refine ⟨m, Nat.le_of_succ_le_succ hm, tst_s (k1 := fun h1 => match (evF ct cst L A hd m).ss b σd h1 with
      | .nx σ2 h2 => (evF ct cst L A hd m).s (.while t b) σ2 h2
      | .ct σ2 h2 => (evF ct cst L A hd m).s (.while t b) σ2 h2
      | .bk σ2 h2 => .nx σ2 h2
      | q => q) (k2 := fun h1 => .nx σd h1) G a0 p fun ι1 h1 H1 k g1 a1 p1 => ?_⟩
    cases k with
    | false => exact p1 ι1 H1 _ Gr.refl a1.1 a1.2.2
    | true =>
      rw [if_pos rfl] at p1 ⊢
      refine ⟨fun σ' H' => m ≤ n + 1 ∧ tSt q ((evF ct cst L A hd m).s (.while t b)) Z σ' H', fun σ' H' w => ⟨m, Nat.lt_succ_self _, w⟩, m, Nat.le_of_succ_le_succ hm, ι1, h1, σd, a1, ?_⟩
      revert p1
      cases (evF ct cst L A hd m).ss b σd h1 with
      | nx σ2 h2 => exact fun p1 ι2 H2 σ' g2 S2 s2 => ⟨Nat.le_of_succ_le hm, ι2, h2, σ2, ⟨S2, G.pxm _ _ _ _ g2 a1.2.1, s2⟩, p1.step g2⟩
      | ct σ2 h2 => exact fun p1 ι2 H2 σ' g2 S2 s2 => ⟨Nat.le_of_succ_le hm, ι2, h2, σ2, ⟨S2, G.pxm _ _ _ _ g2 a1.2.1, s2⟩, p1.step g2⟩
      | bk σ2 h2 => exact fun p1 ι2 H2 σ' g2 S2 s2 => p1 ι2 H2 σ' g2 S2 s2
      | rt d h2 => exact fun p1 => p1
      | ex cc f σ2 h2 => exact fun p1 => p1
      | no => exact fun p1 => p1
theorem s_for {n : Nat} (IH : ∀ m, m ≤ n → ∀ (c : Cc) (q : Q0) (X : Cx), Gd ct cst L A c q X → Snd c q X (evF ct cst L A hd m)) (IS : ∀ m, m ≤ n → SndS c q X (evF ct cst L A hd m)) (G : Gd ct cst L A c q X) {kb : Bool} {g : Mn.G} {it : Mn.It} {b : Ss} {t y : Expr} {l : List Stmt} {pos : Pos} (m0 : c.st = true) (m7 : c.cm = true) (m8 : noSet y = true) (m1 : mG c g t = true) (m2 : mIt c it y = true) (m3 : mSs c b l = true) :
    PS X (.For t y l [] pos) (tSt q (stepS ct cst L A hd (evF ct cst L A hd n) (.for kb g it b))) := by
  have hg : PG X t (fun v σ H Q => ∃ k, k ≤ n ∧ tGt q ((evF ct cst L A hd k).g g) v σ H Q) := ⟨fun pins s σ H v u Q I rv ⟨k, hk, h⟩ => ((IH k hk c q X G).g g t m1).run pins s σ H v u Q I rv h⟩
  have hb : PSs X l (fun Z σ H => ∃ k, k ≤ n ∧ tSt q ((evF ct cst L A hd k).ss b) Z σ H) := ⟨fun pins s σ H Z I ⟨k, hk, h⟩ => ((IS k hk).ss b l m3).run pins s σ H Z I h⟩
  refine ⟨fun pins s σ H Z I ⟨ι, h, σd, a0, p⟩ => (ps_for (G.st m0).1 (G.cm m7) (pi_it G (IH n (Nat.le_refl _) c q X G) m2) hg hb (fun x => by cases y <;> first | (cases m8; done) | rfl)).run pins s σ H Z I ?_⟩
  refine itS_of (k := fun w h1 => (evF ct cst L A hd n).loop kb g b w 0 σd h1) G a0 p fun w h1 ι1 H1 g1 a1 p1 J kJ => ?_
  refine ⟨fun i m σ H => m ≤ n ∧ ∃ ι h σd, q.at ι h σd σ H ∧ Wk q.B ι H w J ∧ PRS q.B q.xa ι H q.W ((evF ct cst L A hd m).loop kb g b w i σd h) Z, ⟨n, Nat.le_refl _, ι1, h1, σd, a1, kJ, p1⟩, fun i m σ2 H2 ⟨hm, ι2, h2, σd2, a2, k2, p2⟩ => ?_⟩
  cases m with
  | zero => exact (show False from p2).elim
  | succ m =>
    have p3 : PRS q.B q.xa ι2 H2 q.W (match nextOf h2 w i with
      | .no => .no
      | .stop => .nx σd2 h2
      | .item d => ((evF ct cst L A hd m).g g d σd2 h2).bind fun σ1 h1 => (match (evF ct cst L A hd m).ss b σ1 h1 with
        | .nx σ2 h6 => (evF ct cst L A hd m).loop kb g b w (i + 1) σ2 (cutK kb h2.length σ2 h6)
        | .ct σ2 h6 => (evF ct cst L A hd m).loop kb g b w (i + 1) σ2 (cutK kb h2.length σ2 h6)
        | .bk σ2 h6 => .nx σ2 h6
        | q => q)) Z := p2
    have hm' : m ≤ n := Nat.le_of_succ_le hm
    cases en : nextOf h2 w i with
    | no => rw [en] at p3; exact (show False from p3).elim
    | stop =>
      rw [en] at p3
      exact .inl ⟨wk_stop (X := X) G.hK a2.1 k2 en, p3 ι2 H2 _ Gr.refl a2.1 a2.2.2⟩
    | item d =>
      rw [en] at p3
      obtain ⟨w1, w2⟩ := wk_item (X := X) G.hK a2.1 k2 en
      refine .inr ⟨w1, fun σ' H' => m ≤ n ∧ ∃ ι h σd, q.at ι h σd σ' H' ∧ Wk q.B ι H' w J ∧ PRS q.B q.xa ι H' q.W ((evF ct cst L A hd m).loop kb g b w (i + 1) σd h) Z, fun σ' H' w => ⟨m, Nat.lt_succ_self _, w⟩, fun x H' y0 => ?_⟩
      obtain ⟨eH, bx⟩ := w2 x H' y0
      subst eH
      refine ⟨m, hm', ι2, h2, σd2, d, a2, bx, ?_⟩
      have gk := (g_kind (ct := ct) (cst := cst) (L := L) (A := A) (hd := hd) m).1 g d σd2 h2
      have p3 : PRS q.B q.xa ι2 H' q.W (((evF ct cst L A hd m).g g d σd2 h2).bind fun σ1 h1 => (match (evF ct cst L A hd m).ss b σ1 h1 with
        | .nx σ2 h6 => (evF ct cst L A hd m).loop kb g b w (i + 1) σ2 (cutK kb h2.length σ2 h6)
        | .ct σ2 h6 => (evF ct cst L A hd m).loop kb g b w (i + 1) σ2 (cutK kb h2.length σ2 h6)
        | .bk σ2 h6 => .nx σ2 h6
        | q => q)) Z := p3
      revert p3 gk
      cases (evF ct cst L A hd m).g g d σd2 h2 with
      | nx σ3 h3 =>
        intro _ p3 ι5 H5 σ5 g5 S5 s5
        have a5 : q.at ι5 h3 σ3 σ5 H5 := ⟨S5, G.pxm _ _ _ _ g5 a2.2.1, s5⟩
        have k5 : Wk q.B ι5 H5 w J := k2.grow g5
        refine ⟨m, hm', ι5, h3, σ3, a5, ?_⟩
        have p5 : PRS q.B q.xa ι2 H' q.W (match (evF ct cst L A hd m).ss b σ3 h3 with
          | .nx σ2 h6 => (evF ct cst L A hd m).loop kb g b w (i + 1) σ2 (cutK kb h2.length σ2 h6)
          | .ct σ2 h6 => (evF ct cst L A hd m).loop kb g b w (i + 1) σ2 (cutK kb h2.length σ2 h6)
          | .bk σ2 h6 => .nx σ2 h6
          | q => q) Z := p3
        have back : ∀ {σ6 : Sl} {h6 : Hh}, PRS q.B q.xa ι2 H' q.W ((evF ct cst L A hd m).loop kb g b w (i + 1) σ6 (cutK kb h2.length σ6 h6)) Z → ∀ ι7 H7 σ7, Gr ι5 H5 ι7 H7 → Sim q.B ι7 h6 H7 → SimS q.B q.xa ι7 σ6 σ7 H7 →
            m ≤ n ∧ ∃ ι h σd, q.at ι h σd σ7 H7 ∧ Wk q.B ι H7 w J ∧ PRS q.B q.xa ι H7 q.W ((evF ct cst L A hd m).loop kb g b w (i + 1) σd h) Z := fun {σ6 h6} p6 ι7 H7 σ7 g7 S7 s7 => by
          obtain ⟨ι8, g8, S8, s8⟩ := cutK_ok (k := kb) (a2.1.len) (g5.trans g7) S7 s7
          exact ⟨hm', ι8, _, σ6, ⟨S8, G.pxm _ _ _ _ g8 a2.2.1, s8⟩, k2.grow g8, PRS.step g8 p6⟩
        revert p5
        cases (evF ct cst L A hd m).ss b σ3 h3 with
        | nx σ6 h6 => exact fun p5 => back p5
        | ct σ6 h6 => exact fun p5 => back p5
        | bk σ6 h6 => exact fun p5 ι7 H7 σ7 g7 S7 s7 => p5 ι7 H7 σ7 (g5.trans g7) S7 s7
        | rt d6 h6 => exact fun p5 ι7 H7 v g7 S7 b7 => p5 ι7 H7 v (g5.trans g7) S7 b7
        | ex cc f σ6 h6 => exact fun p5 ι7 H7 σ7 cls dd g7 S7 s7 x7 => p5 ι7 H7 σ7 cls dd (g5.trans g7) S7 s7 x7
        | no => exact fun p5 => p5
      | rt _ _ => exact fun z => by cases z
      | bk _ _ => exact fun z => by cases z
      | ct _ _ => exact fun z => by cases z
      | ex cc f σ3 h3 => exact fun _ pb => pb
      | no => exact fun _ pb => pb
end
end Mn


set_option Elab.async false
set_option linter.all false
set_option maxHeartbeats 4000000
set_option maxRecDepth 100000
/-! try with several clauses, each with a name or without. -/
namespace Mn
open PySem PySem.Spec PyProof.Rows L2
abbrev Cl := Value × Option Nat × (Addr → Value → Option Addr → TS)
/-- what the clauses wish of an exception of the body -/
def wAny (K : PySem.W.Frag) (Wout : WX) (Z : Ends) : List Cl → WX
  | [] => Wout
  | (c, none, ts) :: r => fun cls d σ H => ∃ b, PySem.W.exmOne K cls c = some b ∧ (b = true → ∀ a, H a = none → ts a cls d Z σ H) ∧ (b = false → wAny K Wout Z r cls d σ H)
  | (c, some i, ts) :: r => fun cls d σ H => ∃ b, PySem.W.exmOne K cls c = some b ∧
    (b = true → ∀ a, H a = none → ts a cls d { nx := fun σ' H' => Z.nx (σ'.set i none) H', rt := Z.rt, bk := fun σ' H' => Z.bk (σ'.set i none) H', ct := fun σ' H' => Z.ct (σ'.set i none) H' } (σ.set i (some (.ref a))) H) ∧ (b = false → wAny K Wout Z r cls d σ H)
inductive HdsA (X : Cx) : List ExceptHandler → List Cl → Prop
  | nil : HdsA X [] []
  | cons {x : Str} {c : Value} {ts : Addr → Value → Option Addr → TS} {b₀ : Stmt} {suite : List Stmt} {np pos' : Pos} {hds : List ExceptHandler} {l : List Cl} (hc : Names X x c)
      (hsu : ∀ (a : Addr) (oe : Obj) (cls : Value) (d : Option Addr) (pn : List (Addr × Obj)), Zc cls d oe → (∃ vs, oe.data = .fields vs) → PSs (X.suite a ((a, oe) :: pn)) (b₀ :: suite) (ts a cls d)) (r : HdsA X hds l) : HdsA X (.ExceptHandler (some (.Name x np)) none (b₀ :: suite) pos' :: hds) ((c, none, ts) :: l)
  | consN {x n : Str} {c : Value} {i : Nat} {ts : Addr → Value → Option Addr → TS} {b₀ : Stmt} {suite : List Stmt} {np pos' : Pos} {hds : List ExceptHandler} {l : List Cl} (hi : X.N[i]? = some n) (hln : X.env.kindOf n = some .local) (hc : Names X x c)
      (hsu : ∀ (a : Addr) (oe : Obj) (cls : Value) (d : Option Addr) (pn : List (Addr × Obj)), Zc cls d oe → (∃ vs, oe.data = .fields vs) → PSs (X.suite a ((a, oe) :: pn)) (b₀ :: suite) (ts a cls d)) (r : HdsA X hds l) : HdsA X (.ExceptHandler (some (.Name x np)) (some n) (b₀ :: suite) pos' :: hds) ((c, some i, ts) :: l)
section
variable {X : Cx} {body : List Stmt} {cl0 : ExceptHandler} {cls0 : List ExceptHandler} {ll : List Cl} {pos : Pos} {tb : WX → TS} {Wout : WX}
theorem ps_tryA (hst : X.stack = X.env :: X.outer) (hfm : X.env.frame = some X.env.locals) (hNn : X.N.Nodup) (tks : Takes X Wout)
    (hbd : ∀ (W : WX) (pn : List (Addr × Obj)) (xe : Value → Shared → Prop), Takes (X.tr pn xe) W → PassesOwn (model X.prog X.w) X.A X.env xe → PSs (X.tr pn xe) body (tb W))
    (hcs : HdsA X (cl0 :: cls0) ll) : PS X (.Try body (cl0 :: cls0) [] [] pos) (fun En τ H => tb (wAny X.K Wout En ll) En τ H) := by
  refine ⟨fun pz s τ H En In h => ?_⟩
  have oki := In.ok
  have hfs : X.A.frames = some (X.env :: X.outer) := by rw [oki.frames, hst]
  refine wpAny_Try_except ?_
  refine wpAny_mono ((hbd (wAny X.K Wout En ll) (X.pn ++ pz) (fun e s₁ => wpAny (model X.prog X.w) X.A (noteFrame e X.env) (fun _ s₂ => wpAny (model X.prog X.w) X.A (setFlight e none) (fun _ s₃ =>
    wpAny (model X.prog X.w) X.A (handleBy e X.env (cl0 :: cls0)) (SP X pz En) X.xe s₃) X.xe s₂) X.xe s₁) (fun u s' xex => ?_) PassesOwn.looking).run [] s τ H En (In.toTry _) h) (fun f s1 hspp => ?_) (fun e s1 he => he)
  · -- the catch
    obtain ⟨ea, Gb, sz, pz', τ', H', cls, d, rfl, Jn', nbs, ups, skz, nea, oss, agn, wsh⟩ := xex
    have Jn : Inv X pz τ' H' sz := Jn'.ofTry oki
    have skz' : Sky Gb (X.env :: X.outer) ea (Zc cls d) X.env.locals s'.heap := by rw [← hst]; exact skz
    show wpAny (model X.prog X.w) X.A (noteFrame (.ref ea) X.env) _ _ _
    refine Sky.land Zc.steady hfs hfm skz' fun hp3 fly3 ups3 => ?_
    have Jn3 : Inv X pz τ' H' { s' with heap := hp3 } := Jn.landed nbs fly3.1 (ups.trans ups3) oss agn
    obtain ⟨ob3, fs3, hob3, hzc3, hdt3⟩ := fly3.there
    have noFr : ∀ {h : Heap} {o : Obj} {vs : Array Value}, h.FunFrames Gb (X.env :: X.outer) → h.get? ea = some o → o.data = .fields vs → ea ∉ frs (X.env :: X.outer) := fun {h o vs} fff e ddd hmm => by
      obtain ⟨_, oo', ee', hnf⟩ := fff.mem hmm
      rw [e] at ee'; cases ee'
      exact hnf _ ddd
    have nofr := noFr fly3.2.2.1 hob3 hdt3
    have nLo : ea ≠ X.env.locals := fun z => nofr (List.mem_filterMap.mpr ⟨X.env, List.mem_cons_self, by rw [hfm, z]⟩)
    have nFr : ea ∉ X.fs := fun hmm => by
      obtain ⟨e, he, q⟩ := List.mem_filterMap.mp hmm
      exact nofr (List.mem_filterMap.mpr ⟨e, List.mem_cons_of_mem _ he, q⟩)
    have Sn3 := Jn3.suite hob3 hdt3 nea nLo nFr
    have walk : ∀ {cls0' : List ExceptHandler} {ll' : List Cl}, HdsA X cls0' ll' → wAny X.K Wout En ll' cls d τ' H' →
        wpAny (model X.prog X.w) X.A (handleBy (.ref ea) X.env cls0') (SP X pz En) X.xe { s' with heap := hp3 } := by
      intro cls0' ll' hkd
      induction hkd with
      | nil =>
        intro wsh
        refine wpAny_handleBy_nil ?_
        obtain ⟨kk1, kk2, kk3, obe, vs, T, oT, ts', hobx, hzx, hdx, h1x, hrx⟩ := id fly3
        unfold PySem.passOn
        refine wpAny_bind (wpAny_field hobx hdx h1x ?_)
        rw [if_neg (show ¬ ((Value.ref T == Value.none) = true) by simp)]
        have lst : wpAny (model X.prog X.w) X.A (setFlight (.ref ea) X.env.frame) (fun _ s4 => wpAny (model X.prog X.w) X.A (throw (.ref ea) : Sem Flow) (SP X pz En) X.xe s4) X.xe { s' with heap := hp3 } := by
          rw [hfm]
          refine HandSPX.setFlight_upZ fly3 fun hp4 hcs4 ups4 => wpAny_throw (tks _ _ ?_)
          exact ⟨ea, Gb, sz, pz, τ', H', cls, d, rfl, Jn, nbs, (ups.trans ups3).trans ups4, .inr (.inr (by rw [hst]; exact hcs4)), nea, oss, agn, wsh⟩
        first
          | exact wpAny_bind (wpAny_pure (wpAny_bind lst))
          | exact wpAny_bind lst
      | @cons x c ts b₀ suite np pos' hds2 l2 hc hsu r ih =>
        intro wsh
        obtain ⟨b, hb1, hyes, hno⟩ := wsh
        refine wpAny_handleBy_cons (codeAny_handlers_test ?_) (by intro q; cases q)
        have Lt : PySem.W.Looks (model X.prog X.w) hp3 (typeOf (.ref ea)) cls := fun A Q E s k q => wpAny_typeOf_ref (k _ _ hob3) (by rw [hzc3.1]; exact q)
        have Lm := PySem.W.exm_one (M := model X.prog X.w) (Jn3.kIn) Lt hb1
        have tst : ∀ {Q : Value → Shared → Prop} {E : Value → Shared → Prop}, Q c { s' with heap := hp3 } → wpAny (model X.prog X.w) (X.A.mark (some (.ref ea))) (eval (.Name x np) X.env) Q E { s' with heap := hp3 } := fun {Q E} q => by
          obtain ⟨hgl, hdb, hmm | ⟨hmm, hvv, hnm⟩⟩ := hc
          · exact ld_glob (X := X.suite ea ((ea, ob3) :: (X.pn ++ pz))) Sn3 hgl hmm q hdb
          · exact ld_blt (X := X.suite ea ((ea, ob3) :: (X.pn ++ pz))) Sn3 hgl hmm hvv q hnm hdb
        refine tst (Lm.here ?_)
        cases b with
        | true =>
          refine (codeAny_handlers_suite ?_)
          refine HandSPX.lands_againZ fly3 fun hp4 fly4 ups4 => ?_
          have Jn4 : Inv X pz τ' H' { s' with heap := hp4 } := Jn.landed nbs fly4.1 ((ups.trans ups3).trans ups4) oss agn
          obtain ⟨ob4, fs4, hob4, hzc4, hdt4⟩ := fly4.there
          have Sn4 := Jn4.suite hob4 hdt4 nea nLo nFr
          refine wpAny_mono ((hsu ea ob4 cls d (X.pn ++ pz) hzc4 ⟨_, hdt4⟩).run [] _ _ H' _ Sn4 (hyes rfl ea nea)) (fun f sx6 hspp => ?_) (fun _ _ z => False.elim z)
          cases f with
          | next =>
            obtain ⟨τ6, Hq6, Sn6, qq6⟩ := hspp
            exact ⟨_, _, Sn6.unsuite oki, qq6⟩
          | brk =>
            obtain ⟨τ6, Hq6, Sn6, qq6⟩ := hspp
            exact ⟨_, _, Sn6.unsuite oki, qq6⟩
          | cont =>
            obtain ⟨τ6, Hq6, Sn6, qq6⟩ := hspp
            exact ⟨_, _, Sn6.unsuite oki, qq6⟩
          | ret u =>
            obtain ⟨vv6, τ6, Hq6, Sn6, rr6, qq6⟩ := hspp
            exact ⟨_, _, _, Sn6.unsuite oki, rr6, qq6⟩
        | false =>
          show wpAny _ X.A (handleBy (.ref ea) X.env hds2) _ _ _
          exact ih (hno rfl)
      | @consN x n c i ts b₀ suite np pos' hds2 l2 hni hln hc hsu r ih =>
        intro wsh
        obtain ⟨b, hb1, hyes, hno⟩ := wsh
        refine wpAny_handleBy_cons (codeAny_handlers_test ?_) (by intro q; cases q)
        have Lt : PySem.W.Looks (model X.prog X.w) hp3 (typeOf (.ref ea)) cls := fun A Q E s k q => wpAny_typeOf_ref (k _ _ hob3) (by rw [hzc3.1]; exact q)
        have Lm := PySem.W.exm_one (M := model X.prog X.w) (Jn3.kIn) Lt hb1
        have tst : ∀ {Q : Value → Shared → Prop} {E : Value → Shared → Prop}, Q c { s' with heap := hp3 } → wpAny (model X.prog X.w) (X.A.mark (some (.ref ea))) (eval (.Name x np) X.env) Q E { s' with heap := hp3 } := fun {Q E} q => by
          obtain ⟨hgl, hdb, hmm | ⟨hmm, hvv, hnm⟩⟩ := hc
          · exact ld_glob (X := X.suite ea ((ea, ob3) :: (X.pn ++ pz))) Sn3 hgl hmm q hdb
          · exact ld_blt (X := X.suite ea ((ea, ob3) :: (X.pn ++ pz))) Sn3 hgl hmm hvv q hnm hdb
        refine tst (Lm.here ?_)
        cases b with
        | true =>
          refine (codeAny_handlers_suite_as ?_)
          refine HandSPX.lands_againZ fly3 fun hp4 fly4 ups4 => ?_
          have Jn4 : Inv X pz τ' H' { s' with heap := hp4 } := Jn.landed nbs fly4.1 ((ups.trans ups3).trans ups4) oss agn
          obtain ⟨ob4, fs4, hob4, hzc4, hdt4⟩ := fly4.there
          have Sn4 := Jn4.suite hob4 hdt4 nea nLo nFr
          refine store_ok (X := X.suite ea ((ea, ob4) :: (X.pn ++ pz))) (v := .ref ea) Sn4 hNn hni (.inl hln) rfl (fun s5 Sn5 => ?_) (.inr hln)
          refine wpAny_mono ((hsu ea ob4 cls d (X.pn ++ pz) hzc4 ⟨_, hdt4⟩).run [] s5 _ H' _ Sn5 (hyes rfl ea nea)) (fun f sx6 hspp => ?_) (fun _ _ z => False.elim z)
          have gone : ∀ {τ6 : L2.St} {Hq6 : Hp} {Q : Shared → Prop}, Inv (X.suite ea ((ea, ob4) :: (X.pn ++ pz))) [] τ6 Hq6 sx6 → (∀ s7, Inv X pz (τ6.set i none) Hq6 s7 → Q s7) →
              wpAny (model X.prog X.w) X.A (do bindName X.env n .none; unbindBehindTheSuite X.env n pos') (fun _ s7 => Q s7) X.xe sx6 := fun {τ6 Hq6 Q} Sn6 hq => gone_ok (Sn6.unsuite oki) hNn hni hln hq
          cases f with
          | next =>
            obtain ⟨τ6, Hq6, Sn6, qq6⟩ := hspp
            exact gone Sn6 fun s7 Jn7 => ⟨_, _, Jn7, qq6⟩
          | brk =>
            obtain ⟨τ6, Hq6, Sn6, qq6⟩ := hspp
            exact gone Sn6 fun s7 Jn7 => ⟨_, _, Jn7, qq6⟩
          | cont =>
            obtain ⟨τ6, Hq6, Sn6, qq6⟩ := hspp
            exact gone Sn6 fun s7 Jn7 => ⟨_, _, Jn7, qq6⟩
          | ret u =>
            obtain ⟨vv6, τ6, Hq6, Sn6, rr6, qq6⟩ := hspp
            exact gone Sn6 fun s7 Jn7 => ⟨_, _, _, Jn7, rr6, qq6⟩
        | false =>
          show wpAny _ X.A (handleBy (.ref ea) X.env hds2) _ _ _
          exact ih (hno rfl)
    exact walk hcs wsh
  · cases f with
    | next =>
      obtain ⟨τ', H', Jn', q⟩ := hspp
      exact wpAny_execs_nil ⟨τ', H', Jn'.ofTry oki, q⟩
    | brk =>
      obtain ⟨τ', H', Jn', q⟩ := hspp
      exact ⟨τ', H', Jn'.ofTry oki, q⟩
    | cont =>
      obtain ⟨τ', H', Jn', q⟩ := hspp
      exact ⟨τ', H', Jn'.ofTry oki, q⟩
    | ret u =>
      obtain ⟨v, τ', H', Jn', r, q⟩ := hspp
      exact ⟨v, τ', H', Jn'.ofTry oki, r, q⟩
end
/-! ### the suites -/
theorem getElem_clr {σ : Sl} (i : Nat) : (clr σ)[i]? = σ[i]?.map clr1 := by
  unfold clr
  rw [List.getElem?_map]
theorem SimS.clr {B : BP} {xa xa' : Nat → Addr} {ι : List Addr} {σd : Sl} {σ : L2.St} {H : Hp} (hx : ∀ t, t ≠ 1 → xa' t = xa t) (s : SimS B xa ι σd σ H) : SimS B xa' ι (Mn.clr σd) σ H := by
  refine ⟨by unfold Mn.clr; rw [List.length_map]; exact s.1, fun i => ⟨fun x e => ?_, fun t e => ?_⟩⟩
  · rw [getElem_clr] at e
    obtain ⟨y, e1, e2⟩ := Option.map_eq_some_iff.mp e
    cases y with
    | d z =>
      cases e2
      exact (s.2 i).1 _ e1
    | no => cases e2
    | raw t => match t, e2 with
      | 0, e2 => cases e2
      | 1, e2 => cases e2
      | t + 2, e2 => cases e2
  · rw [getElem_clr] at e
    obtain ⟨y, e1, e2⟩ := Option.map_eq_some_iff.mp e
    cases y with
    | d z => cases e2
    | no => cases e2
    | raw t' => match t', e2, e1 with
      | 0, e2, e1 =>
        cases e2
        rw [hx 0 (by decide)]
        exact (s.2 i).2 _ e1
      | 1, e2, _ => cases e2
      | t' + 2, e2, e1 =>
        cases e2
        rw [hx (t' + 2) (by omega)]
        exact (s.2 i).2 _ e1
theorem SimS.raw1 {B : BP} {xa : Nat → Addr} {ι : List Addr} {σd : Sl} {σ : L2.St} {H : Hp} {i : Nat} (s : SimS B xa ι σd σ H) : SimS B xa ι (σd.set i (.raw 1)) (σ.set i (some (.ref (xa 1)))) H := by
  refine ⟨by simpa using s.1, fun j => ?_⟩
  by_cases hj : i = j
  · subst hj
    by_cases hl : i < σd.length
    · rw [List.getElem?_set_self hl, List.getElem?_set_self (by rw [← s.1]; exact hl)]
      exact ⟨fun x e => (by cases e), fun t e => (by cases e; rfl)⟩
    · rw [List.getElem?_eq_none (by simpa using hl)]
      exact ⟨fun x e => (by cases e), fun t e => (by cases e)⟩
  · rw [List.getElem?_set_ne hj, List.getElem?_set_ne hj]
    exact s.2 j
section
variable {ct : CT} {cst : Nat → Option D} {L : Lv} {A : Ar} {hd : HdR} {c : Cc} {q : Q0} {X : Cx}
def Q0.su (q : Q0) (a : Addr) (d : Option Addr) (f : Xc) : Q0 where
  B := q.B
  xa := fun t => if t = 1 then a else q.xa t
  px := fun ι H => q.px ι H ∧ (match f with
    | none => True
    | some (n, x) => ∃ da v, d = some da ∧ H da = some (.xd [(n, v)]) ∧ Be q.B ι H v x)
  W := fun _ _ _ _ => False
def Cc.su (c : Cc) (b : Bool) : Cc := { c with cm := false, st := false, thk := none, xc := b, lam := fun _ => false }
theorem Gd.su (G : Gd ct cst L A c q X) {b : Bool} {k : Nat} {f : Xc} {a : Addr} {oe : Obj} {d : Option Addr} {pn : List (Addr × Obj)} (hz : Zc (.ref (q.B.cad k)) d oe) (hf : ∃ vs, oe.data = .fields vs) (hk : xcOk ct k f = true) :
    Gd ct cst Lv.no ⟨fun _ => .no, f, A.gd⟩ (c.su b) (q.su a d f) (X.suite a ((a, oe) :: pn)) where
  hN := G.hN
  nd := G.nd
  hsc := G.hsc
  hK := G.hK
  un := G.un
  gu := G.gu
  cm := fun z => by cases z
  pxm := fun ι H ι' H' g ⟨p1, p2⟩ => ⟨G.pxm _ _ _ _ g p1, by
    revert p2
    cases f with
    | none => exact fun _ => trivial
    | some nx => exact fun ⟨da, v, e1, e2, e3⟩ => ⟨da, v, e1, g.keep _ _ e2 trivial, e3.grow g⟩⟩
  fnv := G.fnv
  kp := G.kp
  cnv := G.cnv
  fre := G.fre
  knv := G.knv
  exm := G.exm
  xf := G.xf
  gcd := G.gcd
  call := fun z => by cases z
  thk := fun _ z => by cases z
  xat := fun _ i x n p pos hi hv hn => by
    refine ⟨fun pins s σ H Q I ⟨ι, h, σd, a0, p0⟩ => ?_⟩
    obtain ⟨f', d', e1, rfl, en, hk', p1⟩ : ∃ f' d', σd[i]? = some (.raw 1) ∧ f = some (f', d') ∧ f' = n ∧ ct.fld k = some f' ∧ PR q.B ι H (fun _ _ _ => False) (.ok d' h) Q := by
      revert hk p0
      unfold xatR
      cases f with
      | none =>
        intro hk p0
        split at p0
        · rename_i z; cases z
        · exact (PR.no p0).elim
      | some nx =>
        obtain ⟨f', d'⟩ := nx
        intro hk p0
        split at p0
        · rename_i f2 d2 e1 e2
          cases e2
          split at p0
          · rename_i en
            exact ⟨_, _, e1, rfl, en, of_decide_eq_true hk, p0⟩
          · exact (PR.no p0).elim
        · exact (PR.no p0).elim
    subst en
    obtain ⟨t1, t2⟩ := G.xf k f' hk'
    have hv' : Vis X.env.scope x := by rw [G.hsc]; exact vis_of hv
    have hN' : X.N[i]? = some x := by rw [G.hN]; exact hi
    have pe := pe_xf (X := X) (pos := pos) t1 t2 hz hf (pe_var (X := X.suite a ((a, oe) :: pn)) (pos := p) hN' hv' (nm_of hn).1 (nm_of hn).2)
    obtain ⟨_, da, v, e3, e4, e5⟩ := a0.2.1
    have hs1 : σ[i]? = some (some (.ref a)) := (a0.2.2.2 i).2 1 e1
    exact pe.run pins s σ H Q I ⟨.ref a, hs1, rfl, rfl, da, _, v, e3, e4, by simp [List.lookup], p1 ι H v Gr.refl a0.1 e5⟩
  lam := fun z => by cases z
  rai := fun z => by cases z
  st := fun z => by cases z
  fnB := G.fnB
  tk := fun _ _ ⟨_, _, _, _, _, _, _, _, _, _, _, _, _, _, _, _, w⟩ => w.elim
/-- what is known of the suites -/
def HdOk (ct : CT) (cst : Nat → Option D) (gd : Bool) (hd : HdR) : Prop := ∀ (c : Cc) (q : Q0) (X : Cx) (f : Xc) (b : Ss) (xs : List Stmt), Gd ct cst Lv.no ⟨fun _ => .no, f, gd⟩ c q X → mSs c b xs = true → PSs X xs (tSt q (hd f b))
end
end Mn


set_option Elab.async false
set_option linter.all false
set_option maxHeartbeats 4000000
set_option maxRecDepth 20000
/-! Statements: try, raise, blocks; all statements. -/
namespace Mn
open PySem PySem.Spec PyProof.Rows L2
section
variable {ct : CT} {cst : Nat → Option D} {L : Lv} {A : Ar} {hd : HdR} {c : Cc} {q : Q0} {X : Cx} {r : Ev}
theorem Gd.try_ (G : Gd ct cst L A c q X) (hx : c.xc = false) {pn : List (Addr × Obj)} {xe : Value → Shared → Prop} {W : WX} (tk : Takes (X.tr pn xe) W) (hp : PassesOwn (model X.prog X.w) X.A X.env xe) : Gd ct cst L A c { q with W := W } (X.tr pn xe) where
  hN := G.hN
  nd := G.nd
  hsc := G.hsc
  hK := G.hK
  un := G.un
  gu := G.gu
  cm := G.cm
  pxm := G.pxm
  fnv := G.fnv
  kp := G.kp
  cnv := G.cnv
  fre := G.fre
  knv := G.knv
  exm := G.exm
  xf := G.xf
  gcd := G.gcd
  call := G.call
  thk := G.thk
  xat := fun z => by rw [hx] at z; cases z
  lam := G.lam
  rai := G.rai
  st := fun z => ⟨hp, (G.st z).2⟩
  fnB := G.fnB
  tk := tk
def sCl (ct : CT) (hd : HdR) (q : Q0) (b : Ss) : Addr → Value → Option Addr → TS := fun a cls d Z σ H => ∃ k f, cls = .ref (q.B.cad k) ∧ xcOk ct k f = true ∧ tSt (q.su a d f) (hd f b) Z σ H
def clsOf (ct : CT) (hd : HdR) (q : Q0) : Hds → List Cl
  | .nil => []
  | .cons k slot b hs => (.ref (q.B.cad k), slot, sCl ct hd q b) :: clsOf ct hd q hs
theorem sCl_ok (HD : HdOk ct cst A.gd hd) (G : Gd ct cst L A c q X) {bb : Bool} {b : Ss} {xs : List Stmt} (m : mSs (c.su bb) b xs = true) (a : Addr) (oe : Obj) (cls : Value) (d : Option Addr) (pn : List (Addr × Obj)) (hz : Zc cls d oe) (hf : ∃ vs, oe.data = .fields vs) :
    PSs (X.suite a ((a, oe) :: pn)) xs (sCl ct hd q b a cls d) := by
  refine ⟨fun pins s σ H Z I ⟨k, f, e, hk, h⟩ => ?_⟩
  subst e
  exact (HD _ _ _ f b xs (G.su hz hf hk) m).run pins s σ H Z I h
theorem cls_ok (HD : HdOk ct cst A.gd hd) (G : Gd ct cst L A c q X) : ∀ (hs : Hds) (hds : List ExceptHandler), mHs c hs hds = true → HdsA X hds (clsOf ct hd q hs)
  | .nil, hds, m => by
    cases hds with
    | nil => exact .nil
    | cons _ _ => simp [mHs] at m
  | .cons k slot b hs, hds, m => by
    unfold mHs at m
    split at m
    · rename_i n np nm z zs pos ys
      simp only [Bool.and_eq_true] at m
      obtain ⟨⟨⟨m1, m2⟩, m3⟩, m4⟩ := m
      obtain ⟨g1, g2⟩ := gl_of G m2
      have hc : Names X n (.ref (q.B.cad k)) := ⟨g1, g2, .inl (G.knv k n (at_of m1))⟩
      have ih := cls_ok HD G hs ys m3
      cases slot with
      | none =>
        cases nm with
        | none => exact .cons hc (sCl_ok (bb := false) HD G m4) ih
        | some v => cases m4
      | some i =>
        cases nm with
        | none => cases m4
        | some v =>
          simp only [Bool.and_eq_true] at m4
          obtain ⟨⟨k1, k2⟩, k3⟩ := m4
          refine .consN (by rw [G.hN]; exact at_of k1) ?_ hc (sCl_ok (bb := true) HD G k3) ih
          show X.env.scope.names.lookup v = _
          rw [G.hsc]
          unfold locO at k2
          split at k2
          · assumption
          · cases k2
    · cases m
theorem su_xa {a : Addr} {d : Option Addr} {f : Xc} (t : Nat) (h : t ≠ 1) : (q.su a d f).xa t = q.xa t := if_neg h
theorem handle_any (G : Gd ct cst L A c q X) {cc : Nat} {f : Xc} {ι : List Addr} {h : Hh} {σd : Sl} {σ : L2.St} {H : Hp} {cls : Value} {dd : Option Addr} {Z : Ends} (S : Sim q.B ι h H) (px : q.px ι H) (s : SimS q.B q.xa ι σd σ H) (x : XcB q.B ι H cc f cls dd) :
    ∀ hs : Hds, PRS q.B q.xa ι H q.W (handle ct hd cc f σd h hs) Z → wAny X.K q.W Z (clsOf ct hd q hs) cls dd σ H
  | .nil, p => p ι H σ cls dd Gr.refl S s x
  | .cons k slot b hs, p => by
    unfold handle at p
    split at p
    · rename_i hz
      obtain ⟨z1, z2, z3⟩ := hz
      have ex : PySem.W.exmOne X.K cls (.ref (q.B.cad k)) = some (ct.sub cc k) := by
        rw [x.1]
        exact G.exm cc k z1 z2
      cases e : ct.sub cc k with
      | false =>
        rw [e] at p ex
        have p' : PRS q.B q.xa ι H q.W (handle ct hd cc f σd h hs) Z := p
        have ih := handle_any G S px s x hs p'
        cases slot with
        | none => exact ⟨false, ex, (fun z => by cases z), fun _ => ih⟩
        | some i => exact ⟨false, ex, (fun z => by cases z), fun _ => ih⟩
      | true =>
        rw [e] at p ex
        have p' : PRS q.B q.xa ι H q.W (suiteR hd f b slot σd h) Z := p
        cases slot with
        | none =>
          refine ⟨true, ex, fun _ a ha => ⟨cc, f, x.1, z3, ι, h, clr σd, ⟨S, ⟨px, x.2⟩, s.clr fun t ht => su_xa t ht⟩, ?_⟩, fun z => by cases z⟩
          have p' : PRS q.B q.xa ι H q.W (match hd f b (clr σd) h with
            | .rt d h1 => .rt d h1
            | .nx σ1 h1 => .nx (clr σ1) h1
            | _ => .no) Z := p'
          revert p'
          cases hd f b (clr σd) h with
          | rt d h1 => exact fun p' => p'
          | nx σ1 h1 => exact fun p' ι' H' σ' g' S' s' => p' ι' H' σ' g' S' (s'.clr fun t ht => (su_xa t ht).symm)
          | _ => exact fun p' => (show False from p').elim
        | some i =>
          refine ⟨true, ex, fun _ a ha => ⟨cc, f, x.1, z3, ι, h, (clr σd).set i (.raw 1), ⟨S, ⟨px, x.2⟩, (s.clr (xa' := (q.su a dd f).xa) fun t ht => su_xa t ht).raw1⟩, ?_⟩, fun z => by cases z⟩
          have p' : PRS q.B q.xa ι H q.W (match hd f b ((clr σd).set i (.raw 1)) h with
            | .rt d h1 => .rt d h1
            | .nx σ1 h1 => .nx (clr (σ1.set i .no)) h1
            | _ => .no) Z := p'
          revert p'
          cases hd f b ((clr σd).set i (.raw 1)) h with
          | rt d h1 => exact fun p' => p'
          | nx σ1 h1 => exact fun p' ι' H' σ' g' S' s' => p' ι' H' _ g' S' ((s'.wipe1 (i := i) (o := none)).clr fun t ht => (su_xa t ht).symm)
          | _ => exact fun p' => (show False from p').elim
    · exact (show False from p).elim
theorem s_try {n : Nat} (HD : HdOk ct cst A.gd hd) (IS : ∀ (c : Cc) (q : Q0) (X : Cx), Gd ct cst L A c q X → SndS c q X (evF ct cst L A hd n)) (G : Gd ct cst L A c q X) {b : Ss} {hs : Hds} {l : List Stmt} {hds : List ExceptHandler} {pos : Pos} (m0 : c.st = true) (mx : c.xc = false)
    (mh : hs ≠ .nil) (m1 : mSs c b l = true) (m2 : mHs c hs hds = true) : PS X (.Try l hds [] [] pos) (tSt q (stepS ct cst L A hd (evF ct cst L A hd n) (.try b hs))) := by
  have hh := cls_ok HD G hs hds m2
  cases hds with
  | nil =>
    cases hs with
    | nil => exact absurd rfl mh
    | cons _ _ _ _ => simp [mHs] at m2
  | cons h0 hds =>
    obtain ⟨g1, g2, g3⟩ := G.st m0
    refine ⟨fun pins s σ H Z I ⟨ι, h, σd, a0, p⟩ => (ps_tryA (tb := fun W => tSt { q with W := W } ((evF ct cst L A hd n).ss b)) g2 g3 (by rw [G.hN]; exact G.nd) G.tk (fun W pn xe tk hp => (IS c { q with W := W } (X.tr pn xe) (G.try_ mx tk hp)).ss b l m1) hh).run pins s σ H Z I ⟨ι, h, σd, a0, ?_⟩⟩
    have p' : PRS q.B q.xa ι H q.W (match (evF ct cst L A hd n).ss b σd h with
      | .ex c f σ1 h1 => handle ct hd c f σ1 h1 hs
      | q => q) Z := p
    revert p'
    cases (evF ct cst L A hd n).ss b σd h with
    | ex cc f σ1 h1 => exact fun p' ι' H' σ' cls dd g' S' s' x' => handle_any G S' (G.pxm _ _ _ _ g' a0.2.1) s' x' hs (PRS.step g' p')
    | nx σ1 h1 => exact fun p' => p'
    | rt d h1 => exact fun p' => p'
    | bk σ1 h1 => exact fun p' => p'
    | ct σ1 h1 => exact fun p' => p'
    | no => exact fun p' => p'
theorem s_raise (G : Gd ct cst L A c q X) (S : Snd c q X r) {k : Nat} {es : Es} {n : Str} {z : Expr} {p1 p2 p3 : Pos} (m0 : c.st = true) (m7 : c.cm = true) (m1 : atB c.knm k n = true) (m2 : glB c.sc n = true) (m3 : mEs c es [z] = true) :
    PS X (.Raise (some (.Call (.Name n p1) [z] [] p2)) none p3) (tSt q (stepS ct cst L A hd r (.raise k es))) := by
  have hz : noStar z = true := by
    have := mEs_star m3
    rw [List.all_cons] at this
    exact (andB this).1
  exact G.rai m0 m7 X.pn X.xe q.W G.tk k n z p1 p2 p3 (r.es es) (at_of m1) m2 hz (S.es es [z] m3)
theorem ss_step (G : Gd ct cst L A c q X) (T : SndS c q X r) {ss : Ss} {xs : List Stmt} (m : mSs c ss xs = true) : PSs X xs (tSt q ((evStep ct cst L A hd r).ss ss)) := by
  cases ss with
  | nil =>
    cases xs with
    | nil => exact ⟨fun pins s σ H Z I ⟨ι, h, σd, a0, p⟩ => pss_nil.run pins s σ H Z I (p ι H σ Gr.refl a0.1 a0.2.2)⟩
    | cons _ _ => simp [mSs] at m
  | cons s ss =>
    cases xs with
    | nil => simp [mSs] at m
    | cons y ys =>
      simp only [mSs, Bool.and_eq_true] at m
      refine ⟨fun pins s1 σ H Z I ⟨ι, h, σd, a0, p⟩ => (pss_cons (T.s s y m.1) (T.ss ss ys m.2)).run pins s1 σ H Z I ⟨ι, h, σd, a0, ?_⟩⟩
      have p1 := PRS.bind p
      revert p1
      cases r.s s σd h with
      | nx σ1 h1 =>
        intro p1 ι1 H1 σ' g1 S1 s2
        obtain ⟨σd2, h2, ι2, g2, S2, s3, p2⟩ := p1 ι1 H1 σ' g1 S1 s2
        exact ⟨ι2, h2, σd2, ⟨S2, G.pxm _ _ _ _ g2 a0.2.1, s3⟩, p2⟩
      | rt d' h1 => exact fun p1 => p1
      | bk σ1 h1 => exact fun p1 => p1
      | ct σ1 h1 => exact fun p1 => p1
      | ex cc f σ1 h1 => exact fun p1 => p1
      | no => exact fun p1 => p1
theorem s_step {n : Nat} (HD : HdOk ct cst A.gd hd) (IS : ∀ m, m ≤ n → ∀ (c : Cc) (q : Q0) (X : Cx), Gd ct cst L A c q X → SndS c q X (evF ct cst L A hd m)) (G : Gd ct cst L A c q X) : SndS c q X (evF ct cst L A hd (n + 1)) := by
  have T := IS n (Nat.le_refl _) c q X G
  have IH : ∀ m, m ≤ n → ∀ (c : Cc) (q : Q0) (X : Cx), Gd ct cst L A c q X → Snd c q X (evF ct cst L A hd m) := snd_all n
  have S := IH n (Nat.le_refl _) c q X G
  refine ⟨fun s x m => ?_, fun ss xs m => ss_step (ct := ct) (hd := hd) G T m⟩
  cases s with
  | no => exact s_bad fun _ _ => rfl
  | asg g e =>
    cases x with
    | Assign ts y pos =>
      match ts, m with
      | [t], m =>
        simp only [mS, Bool.or_eq_true, Bool.and_eq_true, decide_eq_true_eq] at m
        rcases m with ⟨⟨(m1 | m1) | m1, m2⟩, m3⟩ | ⟨⟨⟨m1, m2⟩, m3⟩, m4⟩
        · by_cases hf : foldAll y = true
          · have hn : noStar t = true := by
              unfold asgOk at m1
              exact (andB (andB m1).1).1
            exact s_asgL (ct := ct) (hd := hd) G S ⟨hf, hn⟩ m2 m3
          · exact s_asg (ct := ct) (hd := hd) G S ⟨m1, by simpa using hf⟩ m2 m3
        · exact s_asgN (ct := ct) (hd := hd) G S m1 m2 m3
        · exact s_asgF (ct := ct) (hd := hd) G S m1 m2 m3
        · cases g with
          | nm i => exact s_asgT (ct := ct) (hd := hd) IH G m1 m3 m4
          | _ => cases m2
      | [], m => simp [mS] at m
      | _ :: _ :: _, m => simp [mS] at m
    | _ => simp [mS] at m
  | par is es =>
    unfold mS at m
    split at m
    · rename_i ts k1 p1 vs k2 p2 pos
      simp only [Bool.and_eq_true, decide_eq_true_eq] at m
      obtain ⟨⟨⟨⟨⟨m1, m2⟩, m3⟩, m4⟩, m5⟩, m6⟩ := m
      exact s_par (ct := ct) (hd := hd) G S m1 m2 m3 m4 m5 m6
    · cases m
  | aug i op e =>
    unfold mS at m
    split at m
    · rename_i n0 p0 o y pos
      simp only [Bool.and_eq_true] at m
      obtain ⟨⟨⟨⟨m1, m2⟩, m3⟩, m4⟩, m5⟩ := m
      rw [opIs_eq m1]
      exact s_aug (ct := ct) (hd := hd) G S (by cases op <;> first | rfl | cases m2) m3 m4 m5
    · cases m
  | expr e =>
    cases x with
    | Expr y pos =>
      simp only [mS, Bool.and_eq_true] at m
      exact s_expr (ct := ct) (hd := hd) G S m.1 m.2
    | _ => simp [mS] at m
  | ret e =>
    unfold mS at m
    split at m
    · exact s_ret (ct := ct) (hd := hd) G S m
    · cases m
  | retN =>
    unfold mS at m
    split at m
    · exact s_retN (ct := ct) (hd := hd)
    · cases m
  | iff t a b =>
    cases x with
    | If y l1 l2 pos =>
      simp only [mS, Bool.and_eq_true] at m
      exact s_iff (ct := ct) (hd := hd) G S T m.1.1 m.1.2 m.2
    | _ => simp [mS] at m
  | «while» t b =>
    unfold mS at m
    split at m
    · simp only [Bool.and_eq_true] at m
      exact s_while (ct := ct) (hd := hd) IH (fun k hk => IS k hk c q X G) G m.1.1 m.1.2 m.2
    · cases m
  | «for» kb g it b =>
    unfold mS at m
    split at m
    · simp only [Bool.and_eq_true] at m
      obtain ⟨⟨⟨⟨⟨m1, m2⟩, m3⟩, m4⟩, m5⟩, m6⟩ := m
      exact s_for (ct := ct) (hd := hd) IH (fun k hk => IS k hk c q X G) G m1 m2 m3 m4 m5 m6
    · cases m
  | raise k es =>
    unfold mS at m
    split at m
    · simp only [Bool.and_eq_true] at m
      obtain ⟨⟨⟨⟨m1, m2⟩, m3⟩, m4⟩, m5⟩ := m
      exact s_raise (ct := ct) (hd := hd) G S m1 m2 m3 m4 m5
    · cases m
  | «try» b hs =>
    unfold mS at m
    split at m
    · simp only [Bool.and_eq_true, Bool.not_eq_true'] at m
      obtain ⟨⟨⟨⟨⟨m1, m2⟩, m3⟩, m4⟩, m5⟩, m6⟩ := m
      exact s_try HD (fun c q X G => IS n (Nat.le_refl _) c q X G) G m1 m3 (fun z => by rw [z] at m4; cases m4) m5 m6
    · cases m
  | pass =>
    unfold mS at m
    split at m
    · exact s_pass (ct := ct) (hd := hd)
    · cases m
  | brk =>
    unfold mS at m
    split at m
    · exact s_brk (ct := ct) (hd := hd)
    · cases m
  | cont =>
    unfold mS at m
    split at m
    · exact s_cont (ct := ct) (hd := hd)
    · cases m
theorem s_zero : SndS c q X (evF ct cst L A hd 0) where
  s := fun _ _ _ => s_bad fun _ _ => rfl
  ss := fun _ _ _ => ⟨fun _ _ _ _ _ _ ⟨_, _, _, _, p⟩ => (show False from p).elim⟩
theorem s_all (HD : HdOk ct cst A.gd hd) : ∀ n : Nat, ∀ m, m ≤ n → ∀ (c : Cc) (q : Q0) (X : Cx), Gd ct cst L A c q X → SndS c q X (evF ct cst L A hd m)
  | 0, m, hm, c, q, X, G => by
    obtain rfl : m = 0 := by omega
    exact s_zero
  | n + 1, m, hm, c, q, X, G => by
    by_cases h : m ≤ n
    · exact s_all HD n m h c q X G
    · obtain rfl : m = n + 1 := by omega
      exact s_step HD (s_all HD n) G
theorem hd_no {gd : Bool} : HdOk ct cst gd (fun _ _ _ _ => .no) := fun _ _ _ _ _ _ _ _ => ⟨fun _ _ _ _ _ _ ⟨_, _, _, _, p⟩ => (show False from p).elim⟩
theorem hd_suite (gd : Bool) : HdOk ct cst gd (suite ct cst gd) := fun c q X f b xs G m => (s_all (hd := fun _ _ _ _ => .no) hd_no 40 40 (Nat.le_refl _) c q X G).ss b xs m
end
end Mn


set_option Elab.async false
set_option linter.all false
set_option maxHeartbeats 4000000
set_option maxRecDepth 100000
/-! An own exception class over a built-in one, whose __init__ says super().__init__('..') and stores one field. -/
namespace Mn
open PySem PySem.Spec PySem.Calls PyProof.Rows PyProof.V PySem.W L2
section
variable {prog : Program} {w : World} {A : Around} {E : Value → Shared → Prop} {s : Shared} {h₀ : Heap} {L : Addr} {m mg : Str → Option Value} {base : Heap} {news : List (Addr × Obj)} {K : Frag} {x C D f cc cda : Addr} {ox : Obj} {odx : Option Obj}
/-- super() in a def that closes over __class__ -/
theorem sup_node {body : List Stmt} {q : Str} {scope : Scope} {p0 p1 : Pos} {attr : Str} {whole : Sem Value} {fd : FuncData} {ar : Arg} {vs : Array Value} {file : Str} {tf : Tok} {oc ccl cl : Value} {od cdd cld : Option Addr} {osl ccs csl : Array (Option Value)} {cdD : ClassData} {Q : Value → Shared → Prop}
    (F : Fr h₀ L s.heap m) (X₀ : K.In h₀) (N : News h₀ L s.heap news) (T : Mod K mg base) (kb : ∀ b o, base.get? b = some o → h₀.get? b = some o)
    (hf : K.lookup f = some ⟨oc, od, .func fd, osl⟩) (hp : (fd.params.posonlyargs ++ fd.params.args).head? = some ar) (hv : m ar.arg = some (.ref x)) (I : InstAt s.heap x ox C odx)
    (hcode : K.lookup cda = some ⟨ccl, cdd, .fields vs, ccs⟩) (hvs : vs[2]? = some (.str file tf)) (hfile : ((prog.main.file : Str) == file) = true)
    (hcell : K.lookup cc = some ⟨cl, cld, .cell (some (.ref D)), csl⟩) (hD : clsIn K D = some cdD) (hsub : mroIn K C (.ref D) = some true) (hsuper : mg "super" = none)
    (hat : (attr == ("__class__" : Str)) = false) (hks : scope.names.lookup ("super" : Str) = some .globalImplicit) (hkc : scope.names.lookup ("__class__" : Str) = some .free) (hka : scope.names.lookup ar.arg = some .local) (hk : scope.kind = .function)
    (htop : (prog.main.scope.names.lookup ("super" : Str)).isSome = false)
    (h : ∀ so h', Fr h₀ L h' m → News h₀ L h' ((so, ks_superObj D x C) :: news) → (∀ p ∈ news, p.1 < so) → Q (.ref so) { s with heap := h' }) :
    _root_.PySem.wpAt (model prog w) A (.func body (ksEnv q scope L f (.ref cda) cc)) (attributeBase (.Call (.Name "super" p0) [] [] p1) attr (ksEnv q scope L f (.ref cda) cc) whole) Q E s := by
  have KX : K.In s.heap := X₀.keeps F.keep
  have kk : ∀ b o, base.get? b = some o → s.heap.get? b = some o := fun b o e => F.keep b o (kb b o e)
  obtain ⟨mb, mb1, mb2⟩ := T.blt
  obtain ⟨hh, g, d, t, os⟩ := s
  obtain ⟨oD, hD1, hD2⟩ : ∃ oD, hh.get? D = some oD ∧ oD.data = .cls cdD := by
    unfold clsIn at hD
    split at hD
    · rename_i c d cd' sl ho
      cases hD
      exact ⟨_, KX _ _ ho, rfl⟩
    · cases hD
  refine ks_wpAt_super_base (env := ksEnv q scope L f (.ref cda) cc) hks hkc hat rfl (KX _ _ hf) rfl hp rfl (KX _ _ hcode) rfl hvs hfile htop ?_
  refine ks_loadName_global hk hks (loadGlobal_builtin (env := ksEnv q scope L f (.ref cda) cc) (T.glob.keeps kk) hsuper (mb1.keeps kk) ((mb2 _ (by decide +kernel)).trans (show bootBuiltins "super" = some (.type "super") by first | rfl | kernel_rfl)) ⟨rfl, ?_⟩)
  refine wpAny_loadName_free hk hkc rfl ⟨_, KX _ _ hcell, rfl⟩ ?_
  refine wpAny_loadName_local hk hka F.ns hv ?_
  refine ks_wpAny_isType_cls hD1 hD2 ⟨rfl, ?_⟩
  refine ks_wpAny_call_super hD1 hD2 I.at_ I.cls (fun c e => ?_) (looks_mroIn KX hsub) (fun h' e k => ?_)
  · have nn := I.no
    unfold notCls at nn
    rw [e] at nn
    exact Bool.noConfusion nn
  · obtain ⟨F', N', l'⟩ := ks_newsPush (s := ⟨hh, g, d, t, os⟩) F N rfl e k
    exact h _ _ F' N' l'
end
/-! ### what the written part says of the class -/
structure XI (prog : Program) (K : Frag) (C : Addr) (fld : Str) (B newId initId : String) (bmB : List Value) (fI cda cc : Addr) (fd : FuncData) (a1 a2 : Arg) (txt : Str) : Prop where
  q : excInitIn K C bmB newId = true
  over : excOver K C bmB = true
  sa : findIn K (.ref C) "__setattr__" = some (some (.builtin "object.__setattr__"))
  tk : takerIn K C fld = some none
  hdct : hasDictIn K C = true
  exB : subIn K (.ref C) (.type "BaseException") = some true
  exS : subIn K (.ref C) (.type B) = some true
  ty : typeIn K (.ref C) = some (.type "type")
  kC : keepIn K (.ref C) = true
  sup : ks_superIn K C C "__init__" = some (some (.builtin initId))
  th : nsIn K cStatics "thirdparty.any" = some none
  mro : mroIn K C (.ref C) = some true
  cls : ∃ cd, clsIn K C = some cd
  ini : findIn K (.ref C) "__init__" = some (some (.ref fI))
  tI : typeIn K (.ref fI) = some (.type "function")
  lk : ∃ oc od osl, K.lookup fI = some ⟨oc, od, .func fd, osl⟩
  fdb : ∃ p0 p1 p2 p3 p4 p5 p6 p7 p8 p9 k0, fd.body = .stmts [.Expr (.Call (.Attribute (.Call (.Name "super" p0) [] [] p1) "__init__" p2) [.Constant (.str txt) k0 p3] [] p4) p5, .Assign [.Attribute (.Name a1.arg p6) fld p7] (.Name a2.arg p8) p9] ∧ (p2.endLine == p4.line) = true
  fdp : fd.params = ⟨[], [a1, a2], none, [], [], none, []⟩
  bnd : ∀ v u : Value, bindArgs fd ⟨[v, u], []⟩ = pure [(a1.arg, v), (a2.arg, u)]
  fdc : fd.closure = [(("__class__" : Str), cc)]
  fdo : fd.code = .ref cda
  fdg : fd.globals = mainGlobals
  fdu : fd.builtins = builtinsNs
  cod : codeIn K (.ref cda) fd.qualname = true
  fil : ∃ ccl cdd vs ccs file tf, K.lookup cda = some ⟨ccl, cdd, .fields vs, ccs⟩ ∧ vs[2]? = some (.str file tf) ∧ ((prog.main.file : Str) == file) = true
  cel : ∃ cl cld csl, K.lookup cc = some ⟨cl, cld, .cell (some (.ref C)), csl⟩
  knd : fd.scope.kind = .function
  co : fd.scope.isCoroutine = false
  gen : fd.scope.isGenerator = false
  nocell : ∀ x ∈ fd.scope.names, x.2 ≠ .cell
  ks : fd.scope.names.lookup ("super" : Str) = some .globalImplicit
  kc : fd.scope.names.lookup ("__class__" : Str) = some .free
  k1 : fd.scope.names.lookup a1.arg = some .local
  k2 : fd.scope.names.lookup a2.arg = some .local
  n1 : (a1.arg == ("__debug__" : Str)) = false
  n2 : (a2.arg == ("__debug__" : Str)) = false
  ne : a1.arg ≠ a2.arg
  top : (prog.main.scope.names.lookup ("super" : Str)).isSome = false
theorem sup_call {env : Env} {p0 p1 p2 p3 p4 : Pos} {txt : Str} {k0 : _} (hpos : (p2.endLine == p4.line) = true) : eval (.Call (.Attribute (.Call (.Name "super" p0) [] [] p1) "__init__" p2) [.Constant (.str txt) k0 p3] [] p4) env = (do
    let ov ← attributeBase (.Call (.Name "super" p0) [] [] p1) "__init__" env (eval (.Call (.Name "super" p0) [] [] p1) env)
    standAt p2.atName
    let (f, first) ← holding [ov] (getMethod ov "__init__" (do return (← importBound (.Call (.Name "super" p0) [] [] p1) env).getD true))
    callWith p4 f first (backTo p4 (starEach [.Constant (.str txt) k0 p3] env)) []) := by
  show (do
    let ov ← attributeBase (.Call (.Name "super" p0) [] [] p1) "__init__" env (eval (.Call (.Name "super" p0) [] [] p1) env)
    standAt p2.atName
    methodCall (.Call (.Name "super" p0) [] [] p1) "__init__" p2 p4 env ov 1 (backTo p4 (starEach [.Constant (.str txt) k0 p3] env)) []) = _
  unfold methodCall methodCallPos
  rw [hpos, Bool.or_true]
  rfl
section
variable {prog : Program} {w : World} {A : Around} {K : Frag} {C fI cda cc : Addr} {fld txt : Str} {B newId initId : String} {bmB : List Value} {fd : FuncData} {a1 a2 : Arg} {mg : Str → Option Value} {base hp h1 : Heap} {R : Result → Shared → Prop} {e t0 : Addr} {u : Value} {g : Array GenState} {dr : Drawn} {tk : Nat} {os : OsState}
theorem bind_two (T : XI prog K C fld B newId initId bmB fI cda cc fd a1 a2 txt) {s : Shared} {v : Value} : BindsTo s fd ⟨[v, u], []⟩ [(a1.arg, v), (a2.arg, u)] := by
  exact BindsTo.of_eq (T.bnd v u)
theorem init_end (T : XI prog K C fld B newId initId bmB fI cda cc fd a1 a2 txt) (SF : StoreFacts B bmB "object.__setattr__" "object") (X₀ : K.In hp) {L t1 qq so : Addr} {hC : Heap} {tkC : Nat} {tv : List Value} {mm : Str → Option Value} {p6 p7 p8 p9 : Pos}
    (FC : Fr hp L hC mm) (m1 : mm a1.arg = some (.ref e)) (m2 : mm a2.arg = some u) (NC : News hp L hC [(t1, excTup tv), (qq, kxs_mw initId e), (so, ks_superObj C e C), (e, excObj C t1 none .none)]) (nC : e ≠ t1) (nB : e ≠ qq) (nA : e ≠ so) {E : Value → Shared → Prop}
    (post : ∀ h' dx t' tk' hsh key, (∀ b o, hp.get? b = some o → h'.get? b = some o) → h'.get? e = some (excObj C t' (some dx) .none) → h'.get? dx = some (dictOf [⟨hsh, .str fld key, u⟩] 1) → hp.get? dx = none → e < dx → R (.ok (.ret .none)) ⟨h', g, dr, tk', os⟩) :
    wpAny (model prog w) A (execs [.Assign [.Attribute (.Name a1.arg p6) fld p7] (.Name a2.arg p8) p9] (ksEnv fd.qualname fd.scope L fI (.ref cda) cc)) (fun f s' => R (.ok (.ret (match f with | .ret v => v | _ => .none))) s') E ⟨hC, g, dr, tkC, os⟩ := by
  have nE : ∀ x ∈ [(t1, excTup tv), (qq, kxs_mw initId e), (so, ks_superObj C e C), (e, excObj C t1 none .none)], x.1 = e → x = (e, excObj C t1 none .none) := fun x hx z => by
    rcases List.mem_cons.mp hx with rfl | hx
    · exact absurd z.symm nC
    · rcases List.mem_cons.mp hx with rfl | hx
      · exact absurd z.symm nB
      · rcases List.mem_cons.mp hx with rfl | hx
        · exact absurd z.symm nA
        · simpa using hx
  have U : UpdF e (excObj C t1 none .none) [(t1, excTup tv), (qq, kxs_mw initId e), (so, ks_superObj C e C), (e, excObj C t1 none .none)] (fun o' => [(t1, excTup tv), (qq, kxs_mw initId e), (so, ks_superObj C e C), (e, o')]) :=
    .tail (Ne.symm nC) (.tail (Ne.symm nB) (.tail (Ne.symm nA) (.head fun _ z => by cases z)))
  refine wpAny_execs_cons (plainObj_wpAny_Assign_Attribute (wpAny_Name (wpAny_loadName_local T.knd T.k2 FC.ns m2 (wpAny_Name (wpAny_loadName_local T.knd T.k1 FC.ns m1 ?_) T.n1)) T.n2) rfl)
  refine set_exc0 (s := ⟨hC, g, dr, tkC, os⟩) SF FC X₀ NC (List.mem_cons_of_mem _ (List.mem_cons_of_mem _ (List.mem_cons_of_mem _ (List.mem_cons_self ..)))) T.sa T.over T.tk T.hdct rfl U (show (1 : Nat) ≤ 1000 by decide) fun dx hD FD ND lD => ?_
  show wpAny _ _ (execs [] _) _ _ _
  refine wpAny_execs_nil (post hD dx t1 _ (PyData.keyHash w.params fld) (tkC + 1) FD.keep ?_ ?_ ?_ ?_)
  · exact (ND _ (List.mem_cons_of_mem _ (List.mem_cons_of_mem _ (List.mem_cons_of_mem _ (List.mem_cons_of_mem _ (List.mem_cons_self ..)))))).1
  · exact (ND _ (List.mem_cons_self ..)).1
  · exact (ND _ (List.mem_cons_self ..)).2.2
  · exact lD _ (List.mem_cons_of_mem _ (List.mem_cons_of_mem _ (List.mem_cons_of_mem _ (List.mem_cons_self ..))))
theorem init_run (T : XI prog K C fld B newId initId bmB fI cda cc fd a1 a2 txt) (FB : ExcBaseFacts B newId initId bmB) (KF : KxsFacts B initId) (SF : StoreFacts B bmB "object.__setattr__" "object") (M : Mod K mg base) (kb : ∀ b o, base.get? b = some o → hp.get? b = some o) (hsuper : mg "super" = none)
    (hroom : A.depth < recursionLimit) (k1 : ∀ b o, hp.get? b = some o → h1.get? b = some o) (he : h1.get? e = some (excObj C t0 none .none)) (he0 : hp.get? e = none) (hle : hp.objs.size ≤ h1.objs.size)
    (post : ∀ h' dx t' tk' hsh key, (∀ b o, hp.get? b = some o → h'.get? b = some o) → h'.get? e = some (excObj C t' (some dx) .none) → h'.get? dx = some (dictOf [⟨hsh, .str fld key, u⟩] 1) → hp.get? dx = none → e < dx → R (.ok (.ret .none)) ⟨h', g, dr, tk', os⟩) :
    codeAny (model prog w) A (.call (.ref fI) ⟨[.ref e, u], []⟩) R ⟨h1, g, dr, tk, os⟩ := by
  obtain ⟨oc, od, osl, lk⟩ := T.lk
  obtain ⟨p0, p1, p2, p3, p4, p5, p6, p7, p8, p9, k0, hbody, hpos⟩ := T.fdb
  obtain ⟨ccl, cdd, vs, ccs, file, tf, hcode, hvs, hfile⟩ := T.fil
  obtain ⟨cl, cld, csl, hcell⟩ := T.cel
  obtain ⟨cdD, hD⟩ := T.cls
  have X₀ : K.In hp := M.kin.keeps kb
  have X1 : K.In h1 := X₀.keeps k1
  have lim : h1.NoLimit := M.nolimit.keeps fun b o z => k1 b o (kb b o z)
  refine ks_codeAny_call_defAt (fd := fd) (binds := [(a1.arg, .ref e), (a2.arg, u)]) hroom (X1 _ _ lk) rfl lim (by rw [T.fdo]; exact codeRec_of X1 T.cod) hbody (bind_two T) T.nocell (fun y hy => ?_) (fun h₁ hns hk₁ => ?_) T.co T.gen T.knd
  · rcases List.mem_cons.mp hy with rfl | hy
    · exact T.k1
    · rcases List.mem_cons.mp hy with rfl | hy
      · exact T.k2
      · cases hy
  have env_eq : callEnv fd h1.objs.size fI = ksEnv fd.qualname fd.scope h1.objs.size fI (.ref cda) cc := by
    unfold callEnv
    rw [T.fdo, T.fdc, T.fdg, T.fdu]
    unfold newEnv
    simp only [T.knd]
  rw [env_eq]
  have e0 : hp.get? h1.objs.size = none := Heap.get?_none_of_le hle
  have F : Fr hp h1.objs.size h₁ (fun y => ([(a1.arg, Value.ref e), (a2.arg, u)] : List (Str × Value)).reverse.lookup y) := ⟨hns, fun b o z => hk₁ b o (k1 b o z), hle⟩
  have N : News hp h1.objs.size h₁ [(e, excObj C t0 none .none)] := fun p hp' => by
    obtain rfl : p = (e, excObj C t0 none .none) := by simpa using hp'
    exact ⟨hk₁ _ _ he, Nat.ne_of_lt (Heap.lt_size he), he0⟩
  have m1 : (fun y => ([(a1.arg, Value.ref e), (a2.arg, u)] : List (Str × Value)).reverse.lookup y) a1.arg = some (.ref e) := by
    have n : (a1.arg == a2.arg) = false := by simpa using T.ne
    simp [List.lookup, n]
  have m2 : (fun y => ([(a1.arg, Value.ref e), (a2.arg, u)] : List (Str × Value)).reverse.lookup y) a2.arg = some u := by simp [List.lookup]
  have hint : interactive (ksEnv fd.qualname fd.scope h1.objs.size fI (.ref cda) cc) = false := by simp [interactive, T.knd]
  refine ks_wpAt_execs_cons (ks_wpAt_Expr_any (ks_wpAt_MethodCall (sup_node F X₀ N M kb lk (by rw [T.fdp]; rfl) m1 (InstAt.of_exc0 N (List.mem_cons_self ..)) hcode hvs hfile hcell hD T.mro hsuper (by decide) T.ks T.kc T.k1 T.knd T.top fun so hA FA NA lA => ?_) (sup_call hpos)) hint rfl)
  have nA : e ≠ so := Nat.ne_of_lt (lA _ (List.mem_cons_self ..))
  refine kxs_method KF FA X₀ NA (List.mem_cons_self ..) (InstAt.of_exc0 NA (List.mem_cons_of_mem _ (List.mem_cons_self ..))) T.th T.sup T.exS (by decide) fun qq hB FB' NB lB => ?_
  have nB : e ≠ qq := Nat.ne_of_lt (lB _ (List.mem_cons_of_mem _ (List.mem_cons_self ..)))
  refine kxs_callWith1 NB (List.mem_cons_self ..) (spliced_more (Calls.Constant_str (spliced_none ⟨kxs_at NB (List.mem_cons_self ..), ?_⟩)))
  have UB : UpdF e (excObj C t0 none .none) ((qq, kxs_mw initId e) :: (so, ks_superObj C e C) :: [(e, excObj C t0 none .none)]) (fun o' => (qq, kxs_mw initId e) :: (so, ks_superObj C e C) :: [(e, o')]) :=
    .tail (Ne.symm nB) (.tail (Ne.symm nA) (.head fun _ z => by cases z))
  refine kxs_call (s := ⟨hB, g, dr, _, os⟩) FB' X₀ NB FB T.q (List.mem_cons_self ..) UB (by show 1 ≤ sizeLine; rw [sizeLine_eq]; omega) fun t1 hC FC NC lC => ?_
  have nC : e ≠ t1 := Nat.ne_of_lt (lC _ (List.mem_cons_of_mem _ (List.mem_cons_of_mem _ (List.mem_cons_self ..))))
  exact wpAt_of_wpAny (init_end T SF X₀ FC m1 m2 NC nC nB nA fun h' dx t' tk' hsh key => post h' dx t' tk' hsh key)
end
theorem ns1_one {h : Heap} {dx : Addr} {hsh : Int} {fld : Str} {key : Tok} {u : Value} (hd : h.get? dx = some (dictOf [⟨hsh, .str fld key, u⟩] 1)) : h.Ns1 dx (fun y => if y = fld then some u else none) := by
  refine ⟨_, _, _, hd, rfl, fun en he => ⟨fld, key, ?_⟩, ?_, fun y => ?_⟩
  · have : en = ⟨hsh, .str fld key, u⟩ := by simpa using he
    rw [this]
  · simp [UniqKeys]
  · by_cases hy : y = fld
    · subst hy
      simp [nsFind, findBy, Value.isStr]
    · have hy' : ¬ fld = y := fun z => hy z.symm
      simp [nsFind, findBy, Value.isStr, hy, hy']
section
variable {X : Cx} {C fI cda cc : Addr} {fld txt : Str} {B newId initId : String} {bmB : List Value} {fd : FuncData} {a1 a2 : Arg} {e : Expr} {ta : TA} {x : Str} {p pos : Pos} {k : Nat}
/-- C(e) -/
theorem pmk_init (T : XI X.prog X.K C fld B newId initId bmB fI cda cc fd a1 a2 txt) (FB : ExcBaseFacts B newId initId bmB) (KF : KxsFacts B initId) (SF : StoreFacts B bmB "object.__setattr__" "object") (hsuper : X.mg "super" = none) (hr : Room (k + 1) X.A) (hg : Gl X x) (hm : X.mg x = some (.ref C)) (ha : PA X [e] ta)
    (hdb : (x == ("__debug__" : Str)) = false) (hst : noStar e = true) :
    PMk X (.Call (.Name x p) [e] [] pos) (fun σ H Q => ta σ H fun vs H1 => ∃ v, vs = [v] ∧ ∀ dx, H1 dx = none → Q (.ref C) (some dx) (upd H1 dx (.xd [(fld, v)]))) := by
  intro pins s σ H Q I h
  refine wpAny_Call_Name_kw (ld_glob I hg hm ?_ hdb)
  refine callWith_K (h₀ := X.base) I.ok.mod.kin T.kC (thn (ha.run pos pins s σ H _ I h) fun us s1 ⟨vs, H1, I1, r1, v, ev, q1⟩ => ⟨I1.kIn, ?_⟩) (star_cons hst) rfl
  subst ev
  obtain ⟨u, rfl, ru⟩ : ∃ u, us = [u] ∧ L2.RelV v u := by
    cases r1 with
    | cons p q =>
      cases q
      exact ⟨_, rfl, p⟩
  obtain ⟨nm, N, qn, bs, bm, hdct, sn, sub, ab, col, dd, k0, k1, k2, k3, k5, hC, hT⟩ := excInit_of I1.kIn T.q
  have kb := I1.bk
  obtain ⟨hp, g, dr, tk, os⟩ := s1
  have kk : ∀ b o, hp.get? b = some o → ((hp.push (kdv_tup [u])).push (PySem.HandSPX.excO C hp.objs.size)).get? b = some o := fun b o z => Heap.get?_push_of_some _ (Heap.get?_push_of_some _ z)
  have hget : ((hp.push (kdv_tup [u])).push (PySem.HandSPX.excO C hp.objs.size)).get? (hp.objs.size + 1) = some (PySem.HandSPX.excO C hp.objs.size) := by heap_get
  have hsz : hp.objs.size ≤ ((hp.push (kdv_tup [u])).push (PySem.HandSPX.excO C hp.objs.size)).objs.size := by
    rw [Heap.size_push, Heap.size_push]
    omega
  have e0 : hp.get? (hp.objs.size + 1) = none := Heap.get?_none_of_le (Nat.le_succ _)
  show wpAny _ _ (call (.ref C) [u]) _ _ _
  refine wpAny_call (PySem.HandSPX.call_own FB hT hC (looks_findIn I1.kIn T.ini) (fun self => bind_fn I1.kIn self T.tI) (by show 1 ≤ sizeLine; rw [sizeLine_eq]; omega)
    (init_run T FB KF SF I1.ok.mod kb hsuper (hr.make C [u] []).depth kk hget e0 hsz fun h' dx t' tk' hsh key kp he hd n0 lt => ⟨rfl, ?_⟩))
  have hn : H1 dx = none := I1.hok.gone n0
  obtain ⟨G, gg, gn⟩ := restrict h' fun b => decide (b ≠ hp.objs.size + 1)
  have gk : ∀ b, b ≠ hp.objs.size + 1 → G.get? b = h'.get? b := fun b hb => gg b (decide_eq_true hb)
  have ge : G.get? (hp.objs.size + 1) = none := gn _ (by simp)
  have ndx : dx ≠ hp.objs.size + 1 := Nat.ne_of_gt lt
  have kG : ∀ b o, hp.get? b = some o → G.get? b = some o := fun b o z => (gk b fun w => by rw [w, e0] at z; cases z).trans (kp b o z)
  have okx : ObjOk X.prog X.w (upd H1 dx (.xd [(fld, v)])) G dx (.xd [(fld, v)]) := by
    refine ⟨fun y => if y = fld then some u else none, ns1_one ((gk dx ndx).trans hd), fun f => ?_⟩
    by_cases hf : f = fld
    · subst hf
      simp [List.lookup]
      exact ru
    · have hf' : (f == fld) = false := by simpa using hf
      simp [List.lookup, hf, hf']
      exact trivial
  have J : Inv X pins σ (upd H1 dx (.xd [(fld, v)])) { (⟨hp, g, dr, tk, os⟩ : Shared) with heap := G, toks := tk' } := I1.laid (t' := tk') kG (Nat.le_of_lt (Nat.lt_of_succ_lt lt)) okx
  refine ⟨_, _, _, _, _, .ref C, some dx, rfl, J, fun b o z => ?_, ge, he, ⟨rfl, rfl⟩, rfl, rfl, ?_, rfl, I1.bare, raises_own T.exB T.ty, q1 dx hn⟩
  · by_cases hb : b = hp.objs.size + 1
    · rw [hb] at z
      rw [show ({ (⟨hp, g, dr, tk, os⟩ : Shared) with heap := G, toks := tk' } : Shared).heap = G from rfl, ge] at z
      cases z
    · exact (gk b hb).symm.trans z
  · rw [upd_ne (Ne.symm ndx)]
    exact I1.hok.gone e0
end
end Mn


set_option Elab.async false
set_option linter.all false
set_option maxHeartbeats 4000000
set_option maxRecDepth 20000
/-! Raise; what a def's end forgets. -/
namespace Mn
open PySem PySem.Spec PyProof.Rows L2
/-! ### an object beside -/
theorem ob_there {B : BP} {ι : List Addr} {H : Hp} {a : Addr} {o : O} (x : OB B ι H a o) : ∃ u, H a = some u ∧ ∀ ps, u ≠ .tbl ps := by
  cases o with
  | lst ds => obtain ⟨vs, e, _⟩ := x; exact ⟨_, e, fun _ z => by cases z⟩
  | rol ds => obtain ⟨o, vs, e, _⟩ := x; exact ⟨_, e, fun _ z => by cases z⟩
  | dK kvs => obtain ⟨_, e⟩ := x; exact ⟨_, e, fun _ z => by cases z⟩
  | xd f d => exact x.elim
theorem Sim.side {B : BP} {ι : List Addr} {h : Hh} {H : Hp} {dx : Addr} {u : HO} (S : Sim B ι h H) (hn : H dx = none) : Gr ι H ι (upd H dx u) ∧ Sim B ι h (upd H dx u) := by
  have g : Gr ι H ι (upd H dx u) := ⟨List.prefix_refl _, fun b o e _ => by rw [upd_ne (ne_of_none e hn)]; exact e⟩
  refine ⟨g, S.len, S.nd, fun n a o e1 e2 => ?_, tabs_upd S.tabs fun o e => by rw [hn] at e; cases e⟩
  have x := S.ob n a o e1 e2
  obtain ⟨u', e, _⟩ := ob_there x
  exact x.grow g (upd_ne (ne_of_none e hn))
/-! ### raise -/
structure KcOk (P : Program) (K : PySem.W.Frag) (C : Addr) (f : Option Str) : Prop where
  some_ : ∀ n, f = some n → ∃ (B newId initId : String) (bmB : List Value) (fI cda cc : Addr) (fd : FuncData) (a1 a2 : Arg) (txt : Str), XI P K C n B newId initId bmB fI cda cc fd a1 a2 txt ∧ ExcBaseFacts B newId initId bmB ∧ PySem.W.KxsFacts B initId ∧ StoreFacts B bmB "object.__setattr__" "object"
  none_ : f = none → ∃ (B newId initId : String) (bmB : List Value), ExcBaseFacts B newId initId bmB ∧ PySem.W.excIn K C bmB newId = true ∧ PySem.W.keepIn K (.ref C) = true ∧ PySem.W.subIn K (.ref C) (.type "BaseException") = some true ∧ PySem.W.typeIn K (.ref C) = some (.type "type")
theorem pmk_txt {X : Cx} {C : Addr} {bmB : List Value} {B newId initId : String} {x : Str} {e : Expr} {ta : TA} {p pos : Pos} (F : ExcBaseFacts B newId initId bmB) (q : PySem.W.excIn X.K C bmB newId = true) (gC : X.mg x = some (.ref C)) (kC : PySem.W.keepIn X.K (.ref C) = true) (r : Raises X (.ref C)) (hg : Gl X x)
    (ha : PA X [e] ta) (hst : noStar e = true) (hdb : (x == ("__debug__" : Str)) = false) : PMk X (.Call (.Name x p) [e] [] pos) (fun σ H Q => ta σ H fun vs H1 => ∃ v, vs = [v] ∧ Q (.ref C) none H1) := by
  intro pins s σ H Q I h
  refine wpAny_Call_Name_kw (ld_glob I hg gC ?_ hdb)
  refine PySem.W.callWith_K (h₀ := X.base) I.ok.mod.kin kC (thn (ha.run pos pins s σ H _ I h) fun us s1 ⟨vs, H1, I1, r1, v, ev, q1⟩ => ⟨I1.kIn, ?_⟩) (star_cons hst) rfl
  subst ev
  obtain ⟨u, rfl, ru⟩ : ∃ u, us = [u] ∧ L2.RelV v u := by
    cases r1 with
    | cons p q =>
      cases q
      exact ⟨_, rfl, p⟩
  show wpAny _ _ (call (.ref C) [u]) _ _ _
  obtain ⟨bm, N, nm, qn, bs, hdct, sn, sub, ab, col, dd, k0, k1, k2, k3, k5, mN, hC, hN, hni, T⟩ := exc_obj I1.kIn q
  exact wpAny_call_exc_subT F T hC hN hni (fun h' e' hm => mk_of I1 hm r q1 (I1.hok.gone hm.new)) (by show 1 ≤ sizeLine; rw [sizeLine_eq]; omega)
theorem rai_ok {X : Cx} {B : BP} {q : Q0} {ct : CT} {k : Nat} {n : Str} {z : Expr} {p pos pos2 : Pos} {f : Sl → Hh → RL} {W : WX} {kk : Nat} (hc : X.calm = true) (tk : Takes X W) (kc : KcOk X.prog X.K (q.B.cad k) (ct.fld k)) (hsup : X.mg "super" = none) (hr : Room (kk + 1) X.A)
    (hm : X.mg n = some (.ref (q.B.cad k))) (hg : Gl X n) (hdb : (n == ("__debug__" : Str)) = false) (hz : noStar z = true) (ha : PA X [z] (tA { q with W := W } f)) :
    PS X (.Raise (some (.Call (.Name n p) [z] [] pos)) none pos2) (tSt { q with W := W } (raiR ct.fld f k)) := by
  cases e : ct.fld k with
  | some fn =>
    obtain ⟨Bn, newId, initId, bmB, fI, cda, cc, fd, a1, a2, txt, T, FB, KF, SF⟩ := kc.some_ fn e
    have pm := pmk_init (p := p) (pos := pos) T FB KF SF hsup hr hg hm ha hdb hz
    refine ⟨fun pins s σ H D I ⟨ι, h, σd, a0, p0⟩ => (ps_raise hc tk pm).run pins s σ H D I ⟨ι, h, σd, a0, ?_⟩⟩
    refine PRL.impl (PRL.bindS a0.2.2 p0) fun vs H1 ⟨ds, h1, ι1, g1, S1, b1, s1, p1⟩ => ?_
    rw [e] at p1
    cases b1 with
    | nil => exact (show False from p1).elim
    | @cons v vs d ds b1 l1 =>
      cases l1 with
      | nil =>
        refine ⟨v, rfl, fun dx hn => ?_⟩
        obtain ⟨g2, S2⟩ := S1.side (u := .xd [(fn, v)]) hn
        exact p1 ι1 _ σ _ (some dx) g2 S2 (s1.grow g2) ⟨rfl, dx, v, rfl, upd_same, b1.grow g2⟩
      | cons _ _ => exact (show False from p1).elim
  | none =>
    obtain ⟨Bn, newId, initId, bmB, FB, q1, q2, q3, q4⟩ := kc.none_ e
    have pm := pmk_txt (p := p) (pos := pos) FB q1 hm q2 (raises_own q3 q4) hg ha hz hdb
    refine ⟨fun pins s σ H D I ⟨ι, h, σd, a0, p0⟩ => (ps_raise hc tk pm).run pins s σ H D I ⟨ι, h, σd, a0, ?_⟩⟩
    refine PRL.impl (PRL.bindS a0.2.2 p0) fun vs H1 ⟨ds, h1, ι1, g1, S1, b1, s1, p1⟩ => ?_
    rw [e] at p1
    cases b1 with
    | nil => exact (show False from p1).elim
    | @cons v vs d ds b1 l1 =>
      cases l1 with
      | nil =>
        cases d with
        | str x => exact ⟨v, rfl, p1 ι1 _ σ _ none Gr.refl S1 s1 ⟨rfl, trivial⟩⟩
        | _ => exact (show False from p1).elim
      | cons _ _ => cases d <;> exact (show False from p1).elim
/-! ### a def's end -/
section
variable {B : BP} {ι ι' : List Addr} {h h' : Hh} {H H' : Hp}
theorem cut_ok {v : V} {d : D} (hl : ι.length = h.length) (g : Gr ι H ι' H') (S : Sim B ι' h' H') (b : Be B ι' H' v d) : ∃ ι2, Gr ι H ι2 H' ∧ Sim B ι2 (Mn.cut h.length d h') H' ∧ Be B ι2 H' v d := by
  unfold Mn.cut
  split
  · rename_i hz
    rw [Bool.and_eq_true] at hz
    refine ⟨ι'.take ι.length, g.cut, by rw [hl]; exact S.cut hz.2, by rw [hl]; exact b.cut 60 hz.1⟩
  · exact ⟨ι', g, S, b⟩
theorem fin_ok {xa : Nat → Addr} {E : XK} {Q : VK} {r : RS} (hl : ι.length = h.length) (p : PR B ι H E (fin h.length r) Q) : PRS B xa ι H (fun c d _ H' => E c d H') r { nx := fun _ H' => Q .non H', rt := Q } := by
  cases r with
  | nx σ h1 =>
    intro ι' H' σ' g S s
    obtain ⟨ι2, g2, S2, b2⟩ := cut_ok hl g S (.non : Be B ι' H' .non .non)
    exact p ι2 H' _ g2 S2 b2
  | rt d h1 =>
    intro ι' H' v g S b
    obtain ⟨ι2, g2, S2, b2⟩ := cut_ok hl g S b
    exact p ι2 H' _ g2 S2 b2
  | bk σ h1 => exact (show False from p).elim
  | ct σ h1 => exact (show False from p).elim
  | no => exact (show False from p).elim
  | ex c f σ h1 =>
    intro ι' H' σ' cls dd g S s x
    cases f with
    | none =>
      obtain ⟨ι2, g2, S2, b2⟩ := cut_ok hl g S (.non : Be B ι' H' .non .non)
      exact p ι2 H' cls dd g2 S2 x
    | some fd =>
      obtain ⟨fn, d⟩ := fd
      obtain ⟨e1, da, v, e2, e3, b⟩ := x
      obtain ⟨ι2, g2, S2, b2⟩ := cut_ok hl g S b
      exact p ι2 H' cls dd g2 S2 ⟨e1, da, v, e2, e3, b2⟩
end
end Mn


set_option Elab.async false
set_option linter.all false
set_option maxHeartbeats 4000000
set_option maxRecDepth 20000
/-! A lambda handed to a def: what the def's call of it does, slots and exceptions kept apart. -/
namespace Mn
open PySem PySem.Spec PyProof.Rows L2 LamX
section
variable {X : Cx} {pins : List (Addr × Obj)} {σ : L2.St} {H : Hp} {s : Shared}
/-- the call of the lambda, in the def that got it -/
theorem act_S {Ng : List Str} {qg : Str} {sg : Scope} {g f c' : Addr} {cdg pm ctv : Value} {params : Arguments} {body : Expr} {scope : Scope} {k i : Nat} {a : Str} {pn : List (Addr × Obj)} {xe : Value → Shared → Prop} {W : WX} {tb : XK → TE} {p1 p2 : Pos}
    (I : Inv X pins σ H s) (L : LamS X.env.scope scope) (hf : s.heap.get? f = some (PySem.W.kla_obj "<lambda>" (X.env.qual ++ "<lambda>") params body scope (cloFrom X.env.cells scope.names []) pm c' ctv)) (hfn : H f = none) (hfr : f ∉ frs X.stack)
    (hbind : bindArgs (PySem.W.kla_fn "<lambda>" (X.env.qual ++ "<lambda>") params body scope (cloFrom X.env.cells scope.names []) pm (.ref c') ctv) ⟨[], []⟩ = pure [])
    (tk : Takes ((cxOf C8.CX0 X.prog X.w X.K X.mg X.base Ng qg sg g cdg X.A X.stack s H C8.E0).tr pn xe) W) (hr : Room (k + 1) (X.A.deeper (envOfC qg sg s.heap.objs.size g cdg)))
    (hbody : ∀ (A : Around) (outer : List Env) (s : Shared) (H : Hp) (E : XK), Room k (A.deeper (lamEnv X scope s.heap.objs.size f c')) → PE (lamCx X A outer s H E scope f c') body (tb E))
    (hN : Ng[i]? = some a) (hv : Vis sg a) (hd : (a == ("__debug__" : Str)) = false) (hcd : (a == ("__classdict__" : Str)) = false) :
    PE ((cxOf C8.CX0 X.prog X.w X.K X.mg X.base Ng qg sg g cdg X.A X.stack s H C8.E0).tr pn xe) (.Call (.Name a p1) [] [] p2)
      (fun σZ HZ Q => σZ[i]? = some (some (.ref f)) ∧ HZ c' = some (CodeO c' (X.env.qual ++ "<lambda>")) ∧ tb (fun cls d H => W cls d σZ H) σ HZ Q) := by
  refine ⟨fun pinsZ sZ σZ HZ Q IZ ⟨hs, hc, ht⟩ => ?_⟩
  refine wpAny_Call_Name_kw (thn ((pe_var (pos := p1) (i := i) hN hv hd hcd).run pinsZ sZ σZ HZ (fun v H1 => v = .ref f ∧ H1 = HZ) IZ ⟨.ref f, hs, rfl, rfl⟩) fun u s1 ⟨v, H1, I1, r1, ev, eH⟩ => ?_)
  subst ev
  rw [eH] at I1
  obtain rfl : u = Value.ref f := r1
  have lamf : s1.heap.get? f = some (PySem.W.kla_obj "<lambda>" (X.env.qual ++ "<lambda>") params body scope (cloFrom X.env.cells scope.names []) pm c' ctv) := I1.base.keep f _ hf hfn hfr (fun z => nomatch (show f ∈ ([] : List Addr) from z))
  refine PySem.W.callWith_F0 ⟨_, _, _, _, lamf⟩ ?_
  have unZ : Un (frs X.stack) [] H HZ s.heap s1.heap := I1.base
  obtain ⟨⟨oc, vs, t, cod1, cod2, cod3⟩, _, _⟩ := I1.hok c' _ hc
  have rcd : codeAny (model X.prog X.w) (X.A.deeper (envOfC qg sg s.heap.objs.size g cdg)) (.call (.ref f) ⟨[], []⟩) (CR (L2.CX X.prog X.w) (envOfC qg sg s.heap.objs.size g cdg :: X.stack) X.prog X.w HZ s1 Q fun cls d H => W cls d σZ H) s1 := by
    refine PySem.W.kla_callFunE hr.depth lamf rfl L.co L.gen rfl ⟨c', oc, vs, t, rfl, cod1, cod2, cod3⟩ ?_
    rw [hbind]
    refine wpAny_pure (wpAny_newFunctionEnv (fun y hy => (L.own y hy).2) (fun y hy => absurd hy (by simp)) (fun hnew hns hsb => ⟨I1.nolimit.fresh _ hsb, ?_⟩) L.kind)
    show codeAny _ _ (.expr body (lamEnv X scope s1.heap.objs.size f c')) _ _
    have kp : ∀ b o, s1.heap.get? b = some o → hnew.get? b = some o := fun b o e => hsb.extBut b o (Nat.ne_of_lt (Heap.lt_size e)) (Heap.get?_push_of_some _ e)
    have JJ : Inv (lamCx X (X.A.deeper (envOfC qg sg s.heap.objs.size g cdg)) (envOfC qg sg s.heap.objs.size g cdg :: X.stack) s1 HZ (fun cls d H => W cls d σZ H) scope f c') [] σ HZ { s1 with heap := hnew, toks := s1.toks + ([] : List (Str × Value)).length } :=
      lam_start2 I L I1.env0 hr.hd unZ hns kp
    refine PySem.W.kla_codeExpr (wpAny_mono ((hbody _ _ s1 HZ _ (hr.deeper _)).run [] _ _ HZ Q JJ ht) (fun v s' hq => ?_) fun e s' hq => hq)
    obtain ⟨v', H', J', rv, q⟩ := hq
    exact ⟨v', H', J'.os, J'.bare, J'.base, J'.hok, rv, q⟩
  refine wpAny_call (codeAny_mono rcd fun r s' hq => ?_)
  cases r with
  | error e => exact passAt tk σZ pinsZ HZ s1 e s' I1 hq
  | ok fl =>
    cases fl with
    | ret u => exact I1.after hq
    | next => exact False.elim hq
    | brk => exact False.elim hq
    | cont => exact False.elim hq
/-- the def that got it: act is what its calls do -/
def Given (k : Nat) (X : Cx) (Ng : List Str) (x : Str) (sg : Scope) (g : Addr) (cdg : Value) (bg : List Stmt) (a : Str) (qq : Str) (TT : (XK → Hp → VK → Prop) → Hp → VK → Prop) : Prop :=
  ∀ (f c' : Addr) (s : Shared) (H : Hp) (Q : VK) (tl : XK → Hp → VK → Prop), Room (k + 1) (X.A.deeper (envOfC x sg s.heap.objs.size g cdg)) →
    (∀ (W : WX) (pn : List (Addr × Obj)) (xe : Value → Shared → Prop) (p1 p2 : Pos), Takes ((cxOf C8.CX0 X.prog X.w X.K X.mg X.base Ng x sg g cdg X.A X.stack s H C8.E0).tr pn xe) W →
      PE ((cxOf C8.CX0 X.prog X.w X.K X.mg X.base Ng x sg g cdg X.A X.stack s H C8.E0).tr pn xe) (.Call (.Name a p1) [] [] p2) (fun σZ HZ Q => σZ[0]? = some (some (.ref f)) ∧ HZ c' = some (CodeO c' qq) ∧ tl (fun cls d H => W cls d σZ H) HZ Q)) →
    H c' = some (CodeO c' qq) → TT tl H Q →
    ∃ t, PSs (cxOf C8.CX0 X.prog X.w X.K X.mg X.base Ng x sg g cdg X.A X.stack s H C8.E0).nox bg t ∧ t { nx := fun _ H' => Q .non H', rt := Q } (L2.start Ng [.ref f]) H
/-- x(lambda: body) -/
theorem pe_lamS {T : List (Addr × Str)} {TT : (XK → Hp → VK → Prop) → Hp → VK → Prop} {x a : Str} {g c P : Addr} {k : Nat} {pg : Arguments} {bg : List Stmt} {sg : Scope} {dV kV doc pm cdv ct oc : Value} {an od : Option Addr} {osl : Array (Option Value)} {Ng : List Str}
    {params : Arguments} {body : Expr} {scope : Scope} {t : XK → TE} {p lpos pos : Pos} (hg : Gl X x) (hm : X.mg x = some (.ref g)) (hk : PySem.W.keepIn X.K (.ref g) = true)
    (lk : X.K.lookup g = some ⟨oc, od, .func (PySem.W.fnOf x x pg bg sg dV kV doc pm an cdv ct), osl⟩) (hcg : PySem.W.codeIn X.K cdv x = true) (hb : L2.Binds X.K (PySem.W.fnOf x x pg bg sg dV kV doc pm an cdv ct) [a] []) (Sg : FnScope Ng [a] sg) (hNg : Ng[0]? = some a) (hva : Vis sg a)
    (hG : Given k X Ng x sg g cdv bg a (X.env.qual ++ "<lambda>") TT)
    (TB : TabB X.base X.mg c P) (hcode : X.env.code = .ref c) (hmT : (P, X.env.qual ++ "<lambda>") ∈ T) (hu : ∀ p ∈ T, p.1 = P → p.2 = X.env.qual ++ "<lambda>") (hr : Room (k + 2) X.A) (L : LamS X.env.scope scope) (hdef : defaultsOf params X.env = ([], []))
    (hbind : ∀ (q : Str) (cl : List (Str × Addr)) (pm cv ctv : Value), bindArgs (PySem.W.kla_fn "<lambda>" q params body scope cl pm cv ctv) ⟨[], []⟩ = pure [])
    (hbody : ∀ (A : Around) (outer : List Env) (s : Shared) (H : Hp) (E : XK) (f c' : Addr), Room k (A.deeper (lamEnv X scope s.heap.objs.size f c')) → PE (lamCx X A outer s H E scope f c') body (t E))
    (hdb : (x == ("__debug__" : Str)) = false) (hd : (a == ("__debug__" : Str)) = false) (hcd : (a == ("__classdict__" : Str)) = false) :
    PE X (.Call (.Name x p) [.Lambda params body scope lpos] [] pos) (tLam T TT t) := by
  refine ⟨fun pins s σ H Q I ⟨hT, h⟩ => ?_⟩
  refine wpAny_Call_Name_kw (ld_glob I hg hm ?_ hdb)
  refine PySem.W.callWith_K (h₀ := X.base) I.ok.mod.kin hk ?_ rfl rfl
  show wpAny _ _ (spliced ((false, eval (.Lambda params body scope lpos) X.env) :: backTo pos (starEach [] X.env))) _ _ s
  refine Calls.spliced_cons (lam_make2 I TB hcode hmT hu hT hdef (L.has I.ok) fun f c' pm' ctv H1 s' I1 eN T1 hf hfn hfr hco => ?_)
  refine Calls.spliced_nil ⟨I1.kIn, ?_⟩
  have rcd : codeAny (model X.prog X.w) X.A (.call (.ref g) ⟨[.ref f], []⟩) (CR C8.CX0 X.stack X.prog X.w H1 s' Q C8.E0) s' := by
    refine run_ofS (N := Ng) (ps := [a]) (us := [.ref f]) (vs := [.ref f]) lk hcg Sg hr I1.env0 (hb s' [.ref f] I1.kIn rfl) (.cons rfl .nil) rfl fun hr' => ?_
    obtain ⟨t', ht', hq'⟩ := hG f c' s' H1 Q (fun E H' Q' => t E σ H' Q') hr' (fun W pn xe p1 p2 tk => act_S (i := 0) I1 L hf hfn hfr (hbind _ _ _ _ _) tk hr' (fun A outer s H E hr2 => hbody A outer s H E f c' hr2) hNg hva hd hcd) hco (h H1 eN T1)
    exact ⟨t', ht'.nox, hq'⟩
  refine wpAny_call (codeAny_mono rcd fun r s2 hq => ?_)
  cases r with
  | error e => exact (show False from hq).elim
  | ok fl =>
    cases fl with
    | ret u => exact I1.after hq
    | next => exact False.elim hq
    | brk => exact False.elim hq
    | cont => exact False.elim hq
end
end Mn


set_option Elab.async false
set_option linter.all false
set_option maxHeartbeats 4000000
set_option maxRecDepth 20000
/-! The defs of a text: what the written part says of them; levels. -/
namespace Mn
open PySem PySem.Spec PyProof.Rows L2 LamX
/-- names and flags that all defs share -/
structure Cs where
  fnm : List Str
  cnm : List Str
  knm : List Str
  free : List Str
  gcd : Bool
/-- a def's own -/
structure Dq where
  name : Str
  params : Arguments
  body : List Stmt
  scope : Scope
  N : List Str
  ps : List Str
  pv : Option Str
  thk : Option Str
  tab : Bool
def Cs.cc (s : Cs) (d : Dq) : Cc where
  N := d.N
  sc := d.scope
  fnm := s.fnm
  cnm := s.cnm
  knm := s.knm
  free := s.free
  gcd := s.gcd
  st := true
  cm := true
  fnB := true
  thk := d.thk
  xc := false
  lam := fun sc => d.tab && lamSB d.scope sc
/-- what is known of a def -/
structure DefOk (K : PySem.W.Frag) (mg : Str → Option Value) (base : Heap) (B : BP) (cs : Cs) (k : Nat) (f : FnI) (d : Dq) : Prop where
  lk : ∃ dV kV doc pm cdv ct oc an od osl, K.lookup (B.adr k) = some ⟨oc, od, .func (PySem.W.fnOf d.name d.name d.params d.body d.scope dV kV doc pm an cdv ct), osl⟩ ∧ PySem.W.codeIn K cdv d.name = true ∧
    (d.pv = none → L2.Binds K (PySem.W.fnOf d.name d.name d.params d.body d.scope dV kV doc pm an cdv ct) d.ps []) ∧
    (∀ pv, d.pv = some pv → ∀ us rest : List Value, us.length = d.ps.length → bindArgs (PySem.W.fnOf d.name d.name d.params d.body d.scope dV kV doc pm an cdv ct) ⟨us ++ rest, []⟩ = (newTuple rest >>= fun t => pure (d.ps.zip us ++ [(pv, t)]))) ∧
    (d.tab = true → ∃ c P, cdv = .ref c ∧ TabB base mg c P ∧ (P, (d.name ++ ".<locals>.") ++ "<lambda>") ∈ B.T ∧ ∀ p ∈ B.T, p.1 = P → p.2 = (d.name ++ ".<locals>.") ++ "<lambda>")
  S : FnScope d.N (d.ps ++ d.pv.toList) d.scope
  chk : mSs (cs.cc d) f.body d.body = true
  np : f.np = (d.ps ++ d.pv.toList).length
  nv : f.nv = d.N.length
  star : f.star = d.pv.isSome
  dfl : f.dfl = []
  th : f.th = true → ∃ a, d.thk = some a
  thk : ∀ a, d.thk = some a → d.tab = false ∧ d.ps = [a] ∧ d.pv = none ∧ visB d.scope a = true ∧ nmB a = true
structure Sy (P : Program) (w : World) (K : PySem.W.Frag) (mg : Str → Option Value) (base : Heap) (ct : CT) (cst : Nat → Option D) (fns : Nat → Option FnI) (dqs : Nat → Dq) (cs : Cs) (B : BP) : Prop where
  kB : K = B.K
  fnv : ∀ (k : Nat) (x : Str), cs.fnm[k]? = some x → mg x = some (.ref (B.adr k))
  kp : ∀ k : Nat, PySem.W.keepIn K (.ref (B.adr k)) = true
  cnv : ∀ (k : Nat) (x : Str) (d : D), cs.cnm[k]? = some x → cst k = some d → ∃ u v, mg x = some u ∧ L2.RelV v u ∧ ∀ ι H, Be B ι H v d
  fre : ∀ x ∈ cs.free, mg x = none
  knv : ∀ (k : Nat) (x : Str), cs.knm[k]? = some x → mg x = some (.ref (B.cad k))
  exm : ∀ k1 k2, k1 < ct.n → k2 < ct.n → PySem.W.exmOne K (.ref (B.cad k1)) (.ref (B.cad k2)) = some (ct.sub k1 k2)
  xf : ∀ k n, ct.fld k = some n → XfC K (B.cad k) ∧ PySem.W.findIn K (.ref (B.cad k)) n = some none
  gcd : cs.gcd = true → mg "gcd" = some (.builtin "math.gcd")
  sup : mg "super" = none
  kc : ∀ (k : Nat) (x : Str), cs.knm[k]? = some x → KcOk P K (B.cad k) (ct.fld k)
  df : ∀ k f, fns k = some f → DefOk K mg base B cs k f (dqs k)
  nm : ∀ (k : Nat) (x : Str) f, cs.fnm[k]? = some x → fns k = some f → (dqs k).name = x
  lamx : ∀ x ∈ cs.fnm, nmB x = true
section
variable {ct : CT} {cst : Nat → Option D} {fns : Nat → Option FnI} {dqs : Nat → Dq} {cs : Cs} {B : BP} {L : Lv} {A : Ar} {c : Cc} {q : Q0} {X : Cx}
/-- a context's facts, from those of the text -/
theorem gd_of {j : Nat} (Y : Sy X.prog X.w X.K X.mg X.base ct cst fns dqs cs q.B) (h1 : c.fnm = cs.fnm) (h2 : c.cnm = cs.cnm) (h3 : c.knm = cs.knm) (h4 : c.free = cs.free) (h5 : c.gcd = cs.gcd) (h6 : c.xc = false) (hN : X.N = c.N) (nd : c.N.Nodup) (hsc : X.env.scope = c.sc) (hc : X.calm = true)
    (gu : A.gd = true → X.A.guards = some []) (hr : Room (j + 1) X.A) (calls : ∀ k : Nat, FnG A.gd X.prog X.w X.K X.mg X.base (j + 1) (q.B.adr k) (spF q.B L k)) (pxm : ∀ ι H ι' H', Gr ι H ι' H' → q.px ι H → q.px ι' H')
    (thk : ∀ x, c.thk = some x → ∀ (pn : List (Addr × Obj)) (xe : Value → Shared → Prop) (W : WX), Takes (X.tr pn xe) W → ∀ p1 p2 i, c.N[i]? = some x → PE (X.tr pn xe) (.Call (.Name x p1) [] [] p2) (tE { q with W := W } (thkR A i)))
    (lam : ∀ (pn : List (Addr × Obj)) (xe : Value → Shared → Prop) (W : WX), Takes (X.tr pn xe) W → ∀ k x e y scope p lp pos, c.fnm[k]? = some x → glB c.sc x = true → c.lam scope = true → mE (c.lm scope) e y = true →
      PE (X.tr pn xe) (.Call (.Name x p) [.Lambda ⟨[], [], none, [], [], none, []⟩ y scope lp] [] pos) (tE { q with W := W } (lamR L k e)))
    (st : PassesOwn (model X.prog X.w) X.A X.env X.xe ∧ X.stack = X.env :: X.outer ∧ X.env.frame = some X.env.locals) (fnB : c.fnB = true → ∀ x, X.fn x = true) (tk : Takes X q.W) : Gd ct cst L A c q X where
  hN := hN
  nd := nd
  hsc := hsc
  hK := Y.kB
  un := by have := hr.un; omega
  gu := gu
  cm := fun _ => hc
  pxm := pxm
  fnv := by rw [h1]; exact Y.fnv
  kp := Y.kp
  cnv := by rw [h2]; exact Y.cnv
  fre := by rw [h4]; exact Y.fre
  knv := by rw [h3]; exact Y.knv
  exm := Y.exm
  xf := Y.xf
  gcd := by rw [h5]; exact Y.gcd
  call := fun _ => ⟨j + 1, hr, calls⟩
  thk := thk
  xat := fun z => by rw [h6] at z; cases z
  lam := fun _ => lam
  rai := fun _ _ pn xe W tk k n z p pos pos2 f hk hg hz ha => by
    rw [h3] at hk
    have hs : X.env.scope.names.lookup n = some .globalImplicit := by
      rw [hsc]
      unfold glB at hg
      rw [Bool.and_eq_true] at hg
      have h2 := hg.2
      split at h2
      · assumption
      · cases h2
    have hd : (n == ("__debug__" : Str)) = false := by
      unfold glB at hg
      rw [Bool.and_eq_true] at hg
      exact (nm_of hg.1).1
    exact rai_ok (B := q.B) (X := X.tr pn xe) (q := q) hc tk (Y.kc k n hk) Y.sup hr (Y.knv k n hk) hs hd hz ha
  st := fun _ => st
  fnB := fnB
  tk := tk
end
end Mn


set_option Elab.async false
set_option linter.all false
set_option maxHeartbeats 4000000
set_option maxRecDepth 20000
/-! Calls, by levels. -/
namespace Mn
open PySem PySem.Spec PyProof.Rows L2 LamX
def okR : R → R
  | .ok d h => .ok d h
  | _ => .no
theorem PR.okW {B : BP} {ι : List Addr} {H : Hp} {W W' : XK} {r : R} {Q : VK} (p : PR B ι H W (okR r) Q) : PR B ι H W' r Q := by
  cases r with
  | ok d h => exact p
  | ex c f h => exact (show False from p).elim
  | no => exact p
theorem PR.okI {B : BP} {ι : List Addr} {H : Hp} {W W' : XK} {r : R} {Q : VK} (p : PR B ι H W (okR r) Q) : PR B ι H W' (okR r) Q := by
  cases r with
  | ok d h => exact p
  | ex c f h => exact p
  | no => exact p
theorem Sim.ext {B : BP} {ι : List Addr} {h : Hh} {H H1 : Hp} (S : Sim B ι h H) (e : ExtN H H1) (t : Tabs B.T H1) : Gr ι H ι H1 ∧ Sim B ι h H1 := by
  have g : Gr ι H ι H1 := ⟨List.prefix_refl _, fun b o q f => e b o q fun ps z => by subst z; exact f⟩
  refine ⟨g, S.len, S.nd, fun n a o e1 e2 => ?_, t⟩
  have x := S.ob n a o e1 e2
  obtain ⟨u, hu, hn⟩ := ob_there x
  exact x.grow g (by rw [hu]; exact e a u hu hn)
section
variable (ct : CT) (cst : Nat → Option D) (fns : Nat → Option FnI)
def levG (gd : Bool) (n : Nat) : Lv := if gd then lev1 ct cst fns n else lev0 ct cst fns n
theorem levG_succ (gd : Bool) (n : Nat) : levG ct cst fns gd (n + 1) = levStep ct cst fns gd (lev0 ct cst fns n).pe (levG ct cst fns gd n) := by cases gd <;> rfl
theorem lev0_succ (n : Nat) : lev0 ct cst fns (n + 1) = levStep ct cst fns false (lev0 ct cst fns n).pe (lev0 ct cst fns n) := rfl
theorem step_pe (gd : Bool) (low : E → Sl → Hh → R) (L : Lv) : (levStep ct cst fns gd low L).pe = (evF ct cst L ⟨fun _ => .no, none, gd⟩ (suite ct cst gd) Fuel).e := by
  unfold levStep
  with_reducible rfl
theorem low_succ (n : Nat) : (lev0 ct cst fns (n + 1)).pe = (evF ct cst (lev0 ct cst fns n) ⟨fun _ => .no, none, false⟩ (suite ct cst false) Fuel).e := (congrArg Lv.pe (lev0_succ ct cst fns n)).trans (step_pe ct cst fns false _ _)
theorem levG_zero (gd : Bool) : levG ct cst fns gd 0 = Lv.no := by cases gd <;> rfl
end
section
variable {ct : CT} {cst : Nat → Option D} {fns : Nat → Option FnI} {dqs : Nat → Dq} {cs : Cs} {c : Cc} {q : Q0} {X : Cx}
theorem FnG.mono {gd : Bool} {P : Program} {w : World} {K : PySem.W.Frag} {mg : Str → Option Value} {base : Heap} {j k : Nat} {f : Addr} {sp : Sp} (F : FnG gd P w K mg base j f sp) (h : j ≤ k) : FnG gd P w K mg base k f sp := fun A outer s H us vs Q E hr => F A outer s H us vs Q E (hr.mono h)
theorem sims_raw {B : BP} {xa : Nat → Addr} {ι : List Addr} {H : Hp} {N : List Str} {f : Addr} (hf : xa 0 = f) (h0 : 0 < N.length) : SimS B xa ι (.raw 0 :: List.replicate (N.length - 1) .no) (L2.start N [.ref f]) H := by
  refine ⟨by simp [L2.start], fun i => ?_⟩
  cases i with
  | zero => exact ⟨fun x e => (by cases e), fun t e => (by cases e; rw [hf]; rfl)⟩
  | succ i =>
    refine ⟨fun x e => ?_, fun t e => ?_⟩
    · rw [List.getElem?_cons_succ] at e
      have := List.eq_of_mem_replicate (List.mem_of_getElem? e)
      cases this
    · rw [List.getElem?_cons_succ] at e
      have := List.eq_of_mem_replicate (List.mem_of_getElem? e)
      cases this
theorem sims_map {B : BP} {xa : Nat → Addr} {ι : List Addr} {H : Hp} : ∀ {vs : List V} {ds : List D} {n : Nat}, BeL B ι H vs ds → SimS B xa ι (ds.map .d ++ List.replicate n .no) (vs.map some ++ List.replicate n none) H
  | [], [], n, .nil => by
    refine ⟨by simp, fun i => ⟨fun x e => ?_, fun t e => ?_⟩⟩
    · have := List.eq_of_mem_replicate (List.mem_of_getElem? (by simpa using e))
      cases this
    · have := List.eq_of_mem_replicate (List.mem_of_getElem? (by simpa using e))
      cases this
  | v :: vs, d :: ds, n, .cons b l => by
    have ih := sims_map (xa := xa) (n := n) l
    refine ⟨by simpa using ih.1, fun i => ?_⟩
    cases i with
    | zero => exact ⟨fun x e => (by cases e; exact ⟨v, rfl, b⟩), fun t e => (by cases e)⟩
    | succ i => exact ih.2 i
theorem thk_no {A : Ar} (h : A.th = fun _ => .no) (i : Nat) (σ : Sl) (hh : Hh) : thkR A i σ hh = .no := by
  unfold thkR
  split
  · rw [h]
  · rfl
/-- x(lambda: e) -/
theorem lam_ok {n : Nat} {gd : Bool} (Y : Sy X.prog X.w X.K X.mg X.base ct cst fns dqs cs q.B) (IH : ∀ m, m ≤ n → ∀ (gd : Bool) (k : Nat), FnG gd X.prog X.w X.K X.mg X.base (4 * m + 4) (q.B.adr k) (spF q.B (levG ct cst fns gd m) k)) {d : Dq} {cdv : Value}
    (htab : ∃ c P, cdv = .ref c ∧ TabB X.base X.mg c P ∧ (P, (d.name ++ ".<locals>.") ++ "<lambda>") ∈ q.B.T ∧ ∀ p ∈ q.B.T, p.1 = P → p.2 = (d.name ++ ".<locals>.") ++ "<lambda>") (hN : X.N = d.N) (nd : d.N.Nodup) (hsc : X.env.scope = d.scope) (hcode : X.env.code = cdv)
    (hq : X.env.qual = d.name ++ ".<locals>.") (hc : X.calm = true) (hr : Room (4 * n + 6) X.A) (gu : gd = true → X.A.guards = some []) (pxm : ∀ ι H ι' H', Gr ι H ι' H' → q.px ι H → q.px ι' H') {k : Nat} {x : Str} {e : E} {y : Expr} {scope : Scope} {p lp pos : Pos}
    (hk : cs.fnm[k]? = some x) (hg : glB d.scope x = true) (hl : lamSB d.scope scope = true) (m : mE ((cs.cc d).lm scope) e y = true) :
    PE X (.Call (.Name x p) [.Lambda ⟨[], [], none, [], [], none, []⟩ y scope lp] [] pos) (tE q (lamR (levG ct cst fns gd (n + 1)) k e)) := by
  rw [levG_succ]
  have bad : (∀ th h, (levStep ct cst fns gd (lev0 ct cst fns n).pe (levG ct cst fns gd n)).callT k th h = .no) → PE X (.Call (.Name x p) [.Lambda ⟨[], [], none, [], [], none, []⟩ y scope lp] [] pos) (tE q (lamR (levStep ct cst fns gd (lev0 ct cst fns n).pe (levG ct cst fns gd n)) k e)) := fun hb =>
    pe_bad fun σ h => by
      unfold lamR
      rw [hb]
  cases hf : fns k with
  | none => exact bad fun th h => by show (match fns k with | some f => _ | none => R.no) = _; rw [hf]
  | some f =>
    rcases (Decidable.em (f.np = 1 ∧ f.star = false ∧ f.th = true)).symm with hz | hz
    · exact bad fun th h => by
        show (match fns k with | some f => (if f.np = 1 ∧ f.star = false ∧ f.th = true then _ else R.no) | none => R.no) = _
        rw [hf]
        exact if_neg hz
    have DF := Y.df k f hf
    obtain ⟨a, ha⟩ := DF.th hz.2.2
    obtain ⟨t1, t2, t3, t4, t5⟩ := DF.thk a ha
    obtain ⟨dV, kV, doc, pm, cdg, ct', oc, an, od, osl, lk, hcd, hbd, _, _⟩ := DF.lk
    obtain ⟨cc, P, ecd, TB, mT, hu⟩ := htab
    have hx := Y.nm k x f hk hf
    have hgl : Gl X x ∧ (x == ("__debug__" : Str)) = false := by
      unfold glB at hg
      rw [Bool.and_eq_true] at hg
      refine ⟨?_, (nm_of hg.1).1⟩
      show X.env.scope.names.lookup x = _
      rw [hsc]
      have h2 := hg.2
      split at h2
      · assumption
      · cases h2
    have Sg : FnScope (dqs k).N [a] (dqs k).scope := by
      have := DF.S
      rw [t2, t3] at this
      exact this
    have hlen : 0 < (dqs k).N.length := by
      have := congrArg List.length Sg.pre
      rw [List.length_take] at this
      simp at this
      omega
    have hN0 : (dqs k).N[0]? = some a := by
      have := Sg.pre
      cases hh : (dqs k).N with
      | nil => rw [hh] at hlen; cases hlen
      | cons b l =>
        rw [hh] at this
        simp at this
        rw [this]
        rfl
    have lamS : LamS X.env.scope scope := by rw [hsc]; exact lamS_by hl
    let qL : XK → Q0 := fun E => { B := q.B, xa := q.xa, px := q.px, W := fun cls d _ H => E cls d H }
    let low := (lev0 ct cst fns n).pe
    let TTm : (XK → Hp → VK → Prop) → Hp → VK → Prop := fun tl H Q => ∃ ι h th, Sim q.B ι h H ∧ (∀ E ι' h' HZ Q', Gr ι H ι' HZ → Sim q.B ι' h' HZ → PR q.B ι' HZ E (th h') Q' → tl E HZ Q') ∧
      PR q.B ι H noX (okR ((levStep ct cst fns gd low (levG ct cst fns gd n)).callT k th h)) Q
    have hG : Given (4 * n + 4) X (dqs k).N x (dqs k).scope (q.B.adr k) cdg (dqs k).body a (X.env.qual ++ "<lambda>") TTm := by
      intro fL c' s H Q tl hr' act hco ⟨ι, h, th, S, htl, p⟩
      let qZ : Q0 := { B := q.B, xa := fun _ => fL, px := fun ι' HZ => Gr ι H ι' HZ, W := fun _ _ _ _ => False }
      have GZ : Gd ct cst (levG ct cst fns gd n) ⟨th, none, gd⟩ (cs.cc (dqs k)) qZ (cxOf C8.CX0 X.prog X.w X.K X.mg X.base (dqs k).N x (dqs k).scope (q.B.adr k) cdg X.A X.stack s H C8.E0).nox := by
        refine gd_of (j := 4 * n + 3) Y rfl rfl rfl rfl rfl rfl rfl Sg.nd rfl rfl gu (hr'.mono (by omega)) (fun k => IH n (Nat.le_refl _) gd k) (fun ι1 H1 ι2 H2 g px => px.trans g) ?_ ?_ ⟨PassesOwn.never, rfl, rfl⟩ (fun _ _ => rfl) (fun _ _ ⟨_, _, _, _, _, _, _, _, _, _, _, _, _, _, _, _, w⟩ => w.elim)
        · intro x' hx' pn xe W tk p1 p2 i hi
          rw [show (cs.cc (dqs k)).thk = (dqs k).thk from rfl, ha] at hx'
          cases hx'
          have hi0 : i = 0 := nodup_ix Sg.nd hi hN0
          subst hi0
          refine ⟨fun pins s1 σZ HZ Q1 I1 ⟨ι1, h1, σd, a1, p1'⟩ => ?_⟩
          have p2' : PR q.B ι1 HZ (fun c d H' => W c d σZ H') (match σd[0]? with
            | some (SV.raw 0) => th h1
            | _ => .no) Q1 := p1'
          split at p2'
          · rename_i e0
            have hs0 : σZ[0]? = some (some (.ref fL)) := (a1.2.2.2 0).2 0 e0
            exact (act W pn xe p1 p2 tk).run pins s1 σZ HZ Q1 I1 ⟨hs0, a1.2.1.keep _ _ hco trivial, htl _ ι1 h1 HZ Q1 a1.2.1 a1.1 p2'⟩
          · exact (PR.no p2').elim
        · intro pn xe W tk k' x' e' y' sc' p' lp' pos' _ _ hl' _
          have z : ((dqs k).tab && lamSB (dqs k).scope sc') = true := hl'
          rw [t1] at z
          cases z
      have SS := (s_all (hd_suite gd) Fuel Fuel (Nat.le_refl _) _ _ _ GZ).ss f.body (dqs k).body DF.chk
      refine ⟨_, SS, ι, h, .raw 0 :: List.replicate ((dqs k).N.length - 1) .no, ⟨S, Gr.refl, sims_raw rfl hlen⟩, ?_⟩
      have p3 : PR q.B ι H noX (fin h.length ((evF ct cst (levG ct cst fns gd n) ⟨th, none, gd⟩ (suite ct cst gd) Fuel).ss f.body (.raw 0 :: List.replicate ((dqs k).N.length - 1) .no) h)) Q := by
        refine PR.okW (W := noX) ?_
        have p4 : PR q.B ι H noX (okR (match fns k with
          | some f => if f.np = 1 ∧ f.star = false ∧ f.th = true then body ct cst gd (levG ct cst fns gd n) th f (.raw 0 :: List.replicate (f.nv - 1) .no) h else .no
          | none => .no)) Q := p
        rw [hf] at p4
        have p5 : PR q.B ι H noX (okR (if f.np = 1 ∧ f.star = false ∧ f.th = true then body ct cst gd (levG ct cst fns gd n) th f (.raw 0 :: List.replicate (f.nv - 1) .no) h else .no)) Q := p4
        rw [if_pos hz, DF.nv] at p5
        unfold body at p5
        exact p5
      exact fin_ok S.len p3
    have hbody : ∀ (A : Around) (outer : List Env) (s : Shared) (H : Hp) (E : XK) (f c' : Addr), Room (4 * n + 4) (A.deeper (lamEnv X scope s.heap.objs.size f c')) → PE (lamCx X A outer s H E scope f c') y (tE (qL E) (low e)) := by
      intro A outer s H E f c' hr2
      cases n with
      | zero => exact pe_bad fun _ _ => rfl
      | succ n' =>
        have GL : Gd ct cst (lev0 ct cst fns n') ⟨fun _ => .no, none, false⟩ ((cs.cc d).lm scope) (qL E) (lamCx X A outer s H E scope f c') := by
          refine gd_of (j := 4 * n' + 3) Y rfl rfl rfl rfl rfl rfl hN nd rfl rfl (fun z => by cases z) (hr2.mono (by omega)) (fun k => IH n' (Nat.le_succ _) false k) pxm (fun _ z => by cases z) (fun _ _ _ _ _ _ _ _ _ _ _ _ _ _ z => by cases z) ⟨passes_of rfl, rfl, rfl⟩ (fun z => by cases z) (takes_of rfl rfl rfl rfl)
        have SL := (snd_all (hd := suite ct cst false) Fuel Fuel (Nat.le_refl _) _ _ _ GL).e e y m
        rw [← low_succ ct cst fns n'] at SL
        exact SL
    have pe := pe_lamS (T := q.B.T) (TT := TTm) (t := fun E => tE (qL E) (low e)) (p := p) (lpos := lp) (pos := pos) (params := ⟨[], [], none, [], [], none, []⟩) hgl.1 (Y.fnv k x hk) (Y.kp k) (by rw [← hx]; exact lk) (by rw [← hx]; exact hcd) (by rw [← hx]; have := hbd t3; rw [t2] at this; exact this) Sg hN0 (vis_of t4) hG
      TB (hcode.trans ecd) (by rw [hq]; exact mT) (by rw [hq]; exact hu) hr lamS rfl (fun _ _ _ _ _ => rfl) hbody hgl.2 (nm_of t5).1 (nm_of t5).2
    refine ⟨fun pins s σ H Q I ⟨ι, h, σd, a0, p0⟩ => pe.run pins s σ H Q I ⟨a0.1.tabs, fun H1 eN T1 => ?_⟩⟩
    obtain ⟨g1, S1⟩ := a0.1.ext eN T1
    have p1 : PR q.B ι H (fun c d H' => q.W c d σ H') (okR ((levStep ct cst fns gd low (levG ct cst fns gd n)).callT k (fun h1 => low e σd h1) h)) Q := by
      have p2 : PR q.B ι H (fun c d H' => q.W c d σ H') (match (levStep ct cst fns gd low (levG ct cst fns gd n)).callT k (fun h1 => low e σd h1) h with
        | .ok d h1 => .ok d h1
        | _ => .no) Q := p0
      revert p2
      cases (levStep ct cst fns gd low (levG ct cst fns gd n)).callT k (fun h1 => low e σd h1) h <;> exact fun z => z
    exact ⟨ι, h, fun h1 => low e σd h1, S1, fun E ι' h' HZ Q' g S' pr => ⟨ι', h', σd, ⟨S', pxm _ _ _ _ (g1.trans g) a0.2.1, a0.2.2.grow (g1.trans g)⟩, pr⟩, PR.step g1 (PR.okI p1)⟩
end
end Mn


set_option Elab.async false
set_option linter.all false
set_option maxHeartbeats 4000000
set_option maxRecDepth 20000
/-! Every def, at every level. -/
namespace Mn
open PySem PySem.Spec PyProof.Rows L2 LamX
section
variable {P : Program} {w : World} {K : PySem.W.Frag} {mg : Str → Option Value} {base : Heap} {ct : CT} {cst : Nat → Option D} {fns : Nat → Option FnI} {dqs : Nat → Dq} {cs : Cs} {B : BP}
theorem vals_take : ∀ {vs : List V} {us : List Value} {n : Nat}, Vals vs us → Vals (vs.take n) (us.take n)
  | _, _, 0, _ => by simpa using Paired.nil
  | _, _, _ + 1, .nil => by simpa using Paired.nil
  | _, _, n + 1, .cons r rr => by simpa using Paired.cons r (vals_take (n := n) rr)
theorem vals_drop : ∀ {vs : List V} {us : List Value} {n : Nat}, Vals vs us → Vals (vs.drop n) (us.drop n)
  | _, _, 0, r => by simpa using r
  | _, _, _ + 1, .nil => by simpa using Paired.nil
  | _, _, n + 1, .cons r rr => by simpa using vals_drop (n := n) rr
def q0 (B : BP) (E : XK) : Q0 := { B := B, xa := fun _ => 0, px := fun _ _ => True, W := fun cls d _ H => E cls d H }
/-- a def's body, called -/
theorem body_gd {m : Nat} {gd : Bool} (Y : Sy P w K mg base ct cst fns dqs cs B) (IH : ∀ n, n ≤ m → ∀ (gd : Bool) (k : Nat), FnG gd P w K mg base (4 * n + 4) (B.adr k) (spF B (levG ct cst fns gd n) k)) {k : Nat} {f : FnI} (DF : DefOk K mg base B cs k f (dqs k)) {cdv : Value}
    (htab : (dqs k).tab = true → ∃ c P, cdv = .ref c ∧ TabB base mg c P ∧ (P, ((dqs k).name ++ ".<locals>.") ++ "<lambda>") ∈ B.T ∧ ∀ p ∈ B.T, p.1 = P → p.2 = ((dqs k).name ++ ".<locals>.") ++ "<lambda>") {A : Around} {outer : List Env} {s : Shared} {H : Hp} {E : XK}
    (hr : Room (4 * m + 7) (A.deeper (envOfC (dqs k).name (dqs k).scope s.heap.objs.size (B.adr k) cdv))) (hg : gd = true → A.guards = some []) :
    Gd ct cst (levG ct cst fns gd m) ⟨fun _ => .no, none, gd⟩ (cs.cc (dqs k)) (q0 B E) (cxOf (L2.CX P w) P w K mg base (dqs k).N (dqs k).name (dqs k).scope (B.adr k) cdv A outer s H E) := by
  refine gd_of (j := 4 * m + 3) (q := q0 B E) Y rfl rfl rfl rfl rfl rfl rfl DF.S.nd rfl rfl hg (hr.mono (by omega)) (fun k => IH m (Nat.le_refl _) gd k) (fun _ _ _ _ _ _ => trivial) (fun x _ pn xe W tk p1 p2 i _ => pe_bad fun σ h => thk_no rfl i σ h) ?_ ⟨passes_of rfl, rfl, rfl⟩ (fun _ _ => rfl) (takes_of rfl rfl rfl rfl)
  intro pn xe W tk k' x e y scope p lp pos hk hgl hl me
  cases m with
  | zero =>
    rw [levG_zero]
    exact pe_bad fun _ _ => rfl
  | succ m' =>
    have hl' : ((dqs k).tab && lamSB (dqs k).scope scope) = true := hl
    rw [Bool.and_eq_true] at hl'
    exact lam_ok (X := (cxOf (L2.CX P w) P w K mg base (dqs k).N (dqs k).name (dqs k).scope (B.adr k) cdv A outer s H E).tr pn xe) (q := { q0 B E with W := W }) (d := dqs k) (n := m') Y (fun n hn => IH n (Nat.le_succ_of_le hn)) (htab hl'.1) rfl DF.S.nd rfl rfl rfl rfl (hr.mono (by omega)) hg (fun _ _ _ _ _ _ => trivial) hk hgl hl'.2 me
theorem levels (Y : Sy P w K mg base ct cst fns dqs cs B) : ∀ n, ∀ m, m ≤ n → ∀ (gd : Bool) (k : Nat), FnG gd P w K mg base (4 * m + 4) (B.adr k) (spF B (levG ct cst fns gd m) k)
  | 0, m, hm, gd, k => by
    obtain rfl : m = 0 := by omega
    rw [levG_zero]
    exact fun A outer s H us vs Q E _ _ _ _ ⟨ι, h, ds, _, _, p⟩ => (show False from p).elim
  | n + 1, m, hm, gd, k => by
    by_cases hlt : m ≤ n
    · exact levels Y n m hlt gd k
    obtain rfl : m = n + 1 := by omega
    rw [levG_succ]
    intro A outer s H us vs Q E hr hg e0 rv ⟨ι, h, ds, S, l, p⟩
    have p1 : PR B ι H E (match fns k with
      | some f => (match slots f ds with
        | some σ => body ct cst gd (levG ct cst fns gd n) (fun _ => .no) f σ h
        | none => .no)
      | none => .no) Q := p
    cases hf : fns k with
    | none =>
      rw [hf] at p1
      exact (show False from p1).elim
    | some f =>
      rw [hf] at p1
      have p2 : PR B ι H E (match slots f ds with
        | some σ => body ct cst gd (levG ct cst fns gd n) (fun _ => .no) f σ h
        | none => .no) Q := p1
      have DF := Y.df k f hf
      obtain ⟨dV, kV, doc, pm, cdv, ct', oc, an, od, osl, lk, hcd, hbd, hst, htab⟩ := DF.lk
      have IH := levels Y n
      cases hs : slots f ds with
      | none =>
        rw [hs] at p2
        exact (show False from p2).elim
      | some σd =>
        rw [hs] at p2
        have p3 : PR B ι H E (fin h.length ((evF ct cst (levG ct cst fns gd n) ⟨fun _ => .no, none, gd⟩ (suite ct cst gd) Fuel).ss f.body σd h)) Q := by
          have p4 : PR B ι H E (body ct cst gd (levG ct cst fns gd n) (fun _ => .no) f σd h) Q := p2
          unfold body at p4
          exact p4
        cases hpv : (dqs k).pv with
        | none =>
          have S0 : FnScope (dqs k).N (dqs k).ps (dqs k).scope := by
            have := DF.S
            rw [hpv] at this
            simpa using this
          have hstar : f.star = false := by rw [DF.star, hpv]; rfl
          have hnp : f.np = (dqs k).ps.length := by rw [DF.np, hpv]; simp
          unfold slots at hs
          rw [hstar, DF.dfl] at hs
          simp only [Bool.false_eq_true, if_false, List.length_nil, Nat.add_zero, Nat.zero_sub, List.drop_nil, List.append_nil] at hs
          by_cases hz : ds.length ≤ f.np ∧ f.np ≤ ds.length
          · rw [if_pos hz] at hs
            cases hs
            have hl : vs.length = (dqs k).ps.length := by rw [l.length]; omega
            refine run_ofS (N := (dqs k).N) (ps := (dqs k).ps) (us := us) (vs := vs) lk hcd S0 (k := 4 * n + 7) hr e0 ?_ rv hl fun hr' => ?_
            · have hb := hbd hpv s us (e0.mod.kin.keeps fun b o e => (e0.bs b o e).1) (by rw [List.append_nil, ← rv.length]; exact hl)
              rw [List.append_nil] at hb
              exact hb
            · have G := body_gd (gd := gd) (E := E) (outer := outer) (s := s) (H := H) (A := A) (cdv := cdv) Y IH DF htab hr' hg
              refine ⟨_, (s_all (hd_suite gd) Fuel Fuel (Nat.le_refl _) _ _ _ G).ss f.body (dqs k).body DF.chk, ι, h, _, ⟨S, trivial, ?_⟩, fin_ok S.len p3⟩
              have e1 : f.nv - f.np = (dqs k).N.length - vs.length := by rw [DF.nv, hnp, hl]
              rw [e1]
              exact sims_map l
          · rw [if_neg hz] at hs
            cases hs
        | some pv =>
          have S0 : FnScope (dqs k).N ((dqs k).ps ++ [pv]) (dqs k).scope := by
            have := DF.S
            rw [hpv] at this
            exact this
          have hstar : f.star = true := by rw [DF.star, hpv]; rfl
          have hnp : f.np = (dqs k).ps.length + 1 := by rw [DF.np, hpv]; simp
          unfold slots at hs
          rw [hstar] at hs
          simp only [if_true] at hs
          by_cases hz : f.np ≤ ds.length + 1 ∧ 0 < f.np ∧ ds.length ≤ 1000000
          · rw [if_pos hz] at hs
            cases hs
            have hlv : vs.length = ds.length := l.length
            have hu : us.length = vs.length := rv.length.symm
            have np1 : f.np - 1 = (dqs k).ps.length := by omega
            have hu1 : (us.take (dqs k).ps.length).length = (dqs k).ps.length := by rw [List.length_take]; omega
            have hv1 : (vs.take (dqs k).ps.length).length = (dqs k).ps.length := by rw [List.length_take]; omega
            have r1 : Vals (vs.take (dqs k).ps.length) (us.take (dqs k).ps.length) := vals_take rv
            have r2 : Vals (vs.drop (dqs k).ps.length) (us.drop (dqs k).ps.length) := vals_drop rv
            have hz2 : (us.drop (dqs k).ps.length).length ≤ sizeLine := by
              rw [List.length_drop]
              exact size_ok (by omega)
            have hz3 : (vs.drop (dqs k).ps.length).length ≤ sizeLine := by
              rw [List.length_drop]
              exact size_ok (by omega)
            have hn : H s.heap.objs.size = none := e0.hok.fresh (Nat.le_refl _)
            refine StX.run_bnd (k := 4 * n + 7) (G := fun xs H2 => ∃ p, H p = none ∧ xs = vs.take (dqs k).ps.length ++ [V.ref p] ∧ H2 = upd H p (.tup (vs.drop (dqs k).ps.length))) lk hcd S0 hr e0 (fun A' Ex Q' hh => ?_) fun s2 H2 xs ⟨p, hp, ex, eH⟩ hr' => ?_
            · rw [show (⟨us, []⟩ : PySem.Args) = ⟨us.take (dqs k).ps.length ++ us.drop (dqs k).ps.length, []⟩ by rw [List.take_append_drop], hst pv hpv _ _ hu1]
              refine wpAny_bind (wpAny_newTuple (wpAny_pure ?_) hz2)
              have nw : ObjOk P w (upd H s.heap.objs.size (.tup (vs.drop (dqs k).ps.length))) (s.heap.push ({ cls := .type "tuple", data := .seq (us.drop (dqs k).ps.length).toArray } : Obj)) s.heap.objs.size (.tup (vs.drop (dqs k).ps.length)) := ⟨hz3, _, r2, ⟨_, Heap.get?_push_size _ rfl, rfl, _, rfl⟩⟩
              have un := StX.un_laid (fs := frs outer) (s := s) (o := ({ cls := .type "tuple", data := .seq (us.drop (dqs k).ps.length).toArray } : Obj)) (u := .tup (vs.drop (dqs k).ps.length)) hn
              have zz := hh _ _ (vs.take (dqs k).ps.length ++ [V.ref s.heap.objs.size]) (us.take (dqs k).ps.length ++ [Value.ref s.heap.objs.size]) (StX.env0_laid e0 nw) un rfl (fun e s' => StX.cxUp outer s H _ _ E e s' un (fun b o q => Heap.get?_push_of_some _ q) rfl) (r1.append (.cons rfl .nil))
                (by rw [List.length_append, List.length_append, hv1]; rfl) ⟨_, hn, rfl, rfl⟩
              rw [List.zip_append hu1.symm] at zz
              exact zz
            · subst ex eH
              have G := body_gd (gd := gd) (E := E) (outer := outer) (s := s2) (H := upd H p (.tup (vs.drop (dqs k).ps.length))) (A := A) (cdv := cdv) Y IH DF htab hr' hg
              obtain ⟨g2, S2⟩ := S.side (u := .tup (vs.drop (dqs k).ps.length)) hp
              refine ⟨_, (s_all (hd_suite gd) Fuel Fuel (Nat.le_refl _) _ _ _ G).ss f.body (dqs k).body DF.chk, ι, h, _, ⟨S2, trivial, ?_⟩, PRS.step g2 (fin_ok S.len p3)⟩
              have bt : Be B ι (upd H p (.tup (vs.drop (dqs k).ps.length))) (.ref p) (.tup (ds.drop (dqs k).ps.length)) := .tup (.inl (.inl upd_same)) ((l.drop _).grow g2)
              have ll : BeL B ι (upd H p (.tup (vs.drop (dqs k).ps.length))) (vs.take (dqs k).ps.length ++ [V.ref p]) (ds.take (dqs k).ps.length ++ [.tup (ds.drop (dqs k).ps.length)]) := ((l.take _).grow g2).app (.cons bt .nil)
              have e1 : f.nv - f.np = (dqs k).N.length - (vs.take (dqs k).ps.length ++ [V.ref p]).length := by rw [List.length_append, hv1, DF.nv, hnp]; rfl
              have e2 : ((ds.take (f.np - 1)).map SV.d ++ [SV.d (.tup (ds.drop (f.np - 1)))] ++ List.replicate (f.nv - f.np) SV.no) = ((ds.take (dqs k).ps.length ++ [D.tup (ds.drop (dqs k).ps.length)]).map SV.d ++ List.replicate ((dqs k).N.length - (vs.take (dqs k).ps.length ++ [V.ref p]).length) SV.no) := by
                rw [e1, np1, List.map_append]
                rfl
              rw [e2]
              exact sims_map ll
          · rw [if_neg hz] at hs
            cases hs
end
end Mn


set_option Elab.async false
set_option linter.all false
set_option maxHeartbeats 4000000
set_option maxRecDepth 20000
/-! What the written part says, by Bools. -/
namespace Mn
open PySem PySem.Spec PyProof.Rows L2 LamX
def gNames : List Str := ["given", "name", "limit", "reason", "steps"]
theorem bind_sg {fd : FuncData} {n1 n2 : _} {q1 q2 : Pos} {g : Str} (hp : fd.params = ⟨[], [⟨"self", n1, q1⟩, ⟨g, n2, q2⟩], none, [], [], none, []⟩) (hd : fd.defaults = .none) (hg : g ∈ gNames) (v u : Value) : bindArgs fd ⟨[v, u], []⟩ = pure [(("self" : Str), v), (g, u)] := by
  unfold gNames at hg
  simp only [List.mem_cons, List.not_mem_nil, or_false] at hg
  unfold bindArgs
  rw [hp, hd]
  rcases hg with rfl | rfl | rfl | rfl | rfl <;> rfl
/-! ### exception classes -/
inductive Bs where
  | ie | oe | ae | le | ve
def Bs.B : Bs → String
  | .ie => "IndexError" | .oe => "OverflowError" | .ae => "ArithmeticError" | .le => "LookupError" | .ve => "ValueError"
def Bs.newId : Bs → String
  | .ie => "IndexError.__new__" | .oe => "OverflowError.__new__" | .ae => "ArithmeticError.__new__" | .le => "LookupError.__new__" | .ve => "ValueError.__new__"
def Bs.initId : Bs → String
  | .ie => "IndexError.__init__" | .oe => "OverflowError.__init__" | .ae => "ArithmeticError.__init__" | .le => "LookupError.__init__" | .ve => "ValueError.__init__"
def Bs.bm : Bs → List Value
  | .ie => [.type "IndexError", .type "LookupError", .type "Exception", .type "BaseException", .type "object"]
  | .oe => [.type "OverflowError", .type "ArithmeticError", .type "Exception", .type "BaseException", .type "object"]
  | .ae => [.type "ArithmeticError", .type "Exception", .type "BaseException", .type "object"]
  | .le => [.type "LookupError", .type "Exception", .type "BaseException", .type "object"]
  | .ve => [.type "ValueError", .type "Exception", .type "BaseException", .type "object"]
theorem Bs.fb (b : Bs) : ExcBaseFacts b.B b.newId b.initId b.bm := by
  cases b
  · exact PySem.F.excBase_IndexError
  · exact PySem.F.excBase_OverflowError
  · exact PySem.F.excBase_ArithmeticError
  · exact PySem.F.excBase_LookupError
  · exact PySem.F.excBase_ValueError
theorem Bs.kx (b : Bs) : PySem.W.KxsFacts b.B b.initId := by
  cases b
  · exact PySem.W.kxs_IndexError
  · exact PySem.W.kxs_OverflowError
  · exact PySem.W.kxs_ArithmeticError
  · exact PySem.W.kxs_LookupError
  · exact PySem.W.kxs_ValueError
theorem Bs.sf (b : Bs) : StoreFacts b.B b.bm "object.__setattr__" "object" := by
  cases b
  · exact PySem.F.store_IndexError
  · exact PySem.F.store_OverflowError
  · exact PySem.F.store_ArithmeticError
  · exact PySem.F.store_LookupError
  · exact PySem.F.store_ValueError
structure Ck where
  name : Str
  base : Bs
  fld : Option Str
def lkFn (K : PySem.W.Frag) (C : Addr) : Option (Addr × FuncData) := match PySem.W.findIn K (.ref C) "__init__" with
  | some (some (.ref fI)) => (match K.lookup fI with
    | some ⟨_, _, .func fd, _⟩ => some (fI, fd)
    | _ => none)
  | _ => none
theorem lkFn_ok {K : PySem.W.Frag} {C fI : Addr} {fd : FuncData} (h : lkFn K C = some (fI, fd)) : PySem.W.findIn K (.ref C) "__init__" = some (some (.ref fI)) ∧ ∃ oc od osl, K.lookup fI = some ⟨oc, od, .func fd, osl⟩ := by
  unfold lkFn at h
  split at h
  · rename_i fI' e1
    split at h
    · rename_i oc od fd' osl e2
      cases h
      exact ⟨e1, _, _, _, e2⟩
    · cases h
  · cases h
/-- its body: the names within -/
def fdBody (fd : FuncData) : Option (Str × Str × Str × Str × Str × Str × Bool) := match fd.body with
  | .stmts [.Expr (.Call (.Attribute (.Call (.Name s0 _) [] [] _) i0 p2) [.Constant (.str txt) _ _] [] p4) _, .Assign [.Attribute (.Name n1 _) f0 _] (.Name n2 _) _] => some (s0, i0, txt, n1, f0, n2, p2.endLine == p4.line)
  | _ => none
theorem fdBody_ok {fd : FuncData} {s0 i0 txt n1 f0 n2 : Str} {b : Bool} (h : fdBody fd = some (s0, i0, txt, n1, f0, n2, b)) : ∃ p0 p1 p2 p3 p4 p5 p6 p7 p8 p9 k0, fd.body = .stmts [.Expr (.Call (.Attribute (.Call (.Name s0 p0) [] [] p1) i0 p2) [.Constant (.str txt) k0 p3] [] p4) p5, .Assign [.Attribute (.Name n1 p6) f0 p7] (.Name n2 p8) p9] ∧ (p2.endLine == p4.line) = b := by
  unfold fdBody at h
  split at h
  · rename_i e
    cases h
    exact ⟨_, _, _, _, _, _, _, _, _, _, _, e, rfl⟩
  · cases h
def fdPars (fd : FuncData) : Option (Arg × Arg) := match fd.params with
  | ⟨[], [a1, a2], none, [], [], none, []⟩ => some (a1, a2)
  | _ => none
theorem fdPars_ok {fd : FuncData} {a1 a2 : Arg} (h : fdPars fd = some (a1, a2)) : fd.params = ⟨[], [a1, a2], none, [], [], none, []⟩ := by
  unfold fdPars at h
  split at h
  · rename_i e
    cases h
    exact e
  · cases h
def fdClo (fd : FuncData) : Option (Str × Addr × Addr) := match fd.closure, fd.code, fd.defaults with
  | [(cl, cc)], .ref cda, .none => some (cl, cc, cda)
  | _, _, _ => none
theorem fdClo_ok {fd : FuncData} {cl : Str} {cc cda : Addr} (h : fdClo fd = some (cl, cc, cda)) : fd.closure = [(cl, cc)] ∧ fd.code = .ref cda ∧ fd.defaults = .none := by
  unfold fdClo at h
  split at h
  · rename_i e1 e2 e3
    cases h
    exact ⟨e1, e2, e3⟩
  · cases h
def filB (K : PySem.W.Frag) (prog : Program) (cda : Addr) : Bool := match K.lookup cda with
  | some ⟨_, _, .fields vs, _⟩ => (match (vs[2]? : Option Value) with
    | some (Value.str file _) => ((prog.main.file : Str) == file)
    | _ => false)
  | _ => false
theorem filB_ok {K : PySem.W.Frag} {prog : Program} {cda : Addr} (h : filB K prog cda = true) : ∃ ccl cdd vs ccs file tf, K.lookup cda = some ⟨ccl, cdd, .fields vs, ccs⟩ ∧ vs[2]? = some (.str file tf) ∧ ((prog.main.file : Str) == file) = true := by
  unfold filB at h
  split at h
  · rename_i e1
    split at h
    · rename_i e2
      exact ⟨_, _, _, _, _, _, e1, e2, h⟩
    · cases h
  · cases h
def celB (K : PySem.W.Frag) (cc C : Addr) : Bool := match K.lookup cc with
  | some ⟨_, _, .cell (some (.ref D)), _⟩ => decide (D = C)
  | _ => false
theorem celB_ok {K : PySem.W.Frag} {cc C : Addr} (h : celB K cc C = true) : ∃ cl cld csl, K.lookup cc = some ⟨cl, cld, .cell (some (.ref C)), csl⟩ := by
  unfold celB at h
  split at h
  · rename_i e1
    have := of_decide_eq_true h
    subst this
    exact ⟨_, _, _, e1⟩
  · cases h
def fdScB (sc : Scope) (g : Str) : Bool := decide (sc.kind = .function) && !sc.isCoroutine && !sc.isGenerator && sc.names.all (fun x => !decide (x.2 = .cell)) && decide (sc.names.lookup ("super" : Str) = some .globalImplicit) && decide (sc.names.lookup ("__class__" : Str) = some .free) && decide (sc.names.lookup ("self" : Str) = some .local) && decide (sc.names.lookup g = some .local)
def clB (K : PySem.W.Frag) (C : Addr) (f : Str) (b : Bs) : Bool := PySem.W.excInitIn K C b.bm b.newId && PySem.W.excOver K C b.bm && He.eqO (PySem.W.findIn K (.ref C) "__setattr__") (some (some (.builtin "object.__setattr__"))) && He.eqO (PySem.W.takerIn K C f) (some none) && PySem.W.hasDictIn K C &&
  decide (PySem.W.subIn K (.ref C) (.type "BaseException") = some true) && decide (PySem.W.subIn K (.ref C) (.type b.B) = some true) && decide (PySem.W.typeIn K (.ref C) = some (.type "type")) && PySem.W.keepIn K (.ref C) && He.eqO (PySem.W.ks_superIn K C C "__init__") (some (some (.builtin b.initId))) &&
  He.eqO (PySem.W.nsIn K cStatics "thirdparty.any") (some none) && decide (PySem.W.mroIn K C (.ref C) = some true) && (PySem.W.clsIn K C).isSome
def xiB (prog : Program) (K : PySem.W.Frag) (C : Addr) (f : Str) (b : Bs) : Bool := clB K C f b && (match lkFn K C with
  | some (fI, fd) => (match fdBody fd, fdPars fd, fdClo fd with
    | some (s0, i0, _, n1, f0, n2, pb), some (a1, a2), some (cl, cc, cda) => decide (s0 = ("super" : Str)) && decide (i0 = ("__init__" : Str)) && decide (n1 = ("self" : Str)) && decide (f0 = f) && decide (n2 = a2.arg) && pb && decide (a1.arg = ("self" : Str)) && decide (a2.arg ∈ gNames) && decide (cl = ("__class__" : Str)) &&
      decide (fd.globals = mainGlobals) && decide (fd.builtins = builtinsNs) && PySem.W.codeIn K (.ref cda) fd.qualname && filB K prog cda && celB K cc C && fdScB fd.scope a2.arg && decide (PySem.W.typeIn K (.ref fI) = some (.type "function"))
    | _, _, _ => false)
  | none => false) && !(prog.main.scope.names.lookup ("super" : Str)).isSome
theorem xiB_ok {prog : Program} {K : PySem.W.Frag} {C : Addr} {f : Str} {b : Bs} (h : xiB prog K C f b = true) : ∃ fI cda cc fd a1 a2 txt, XI prog K C f b.B b.newId b.initId b.bm fI cda cc fd a1 a2 txt := by
  unfold xiB at h
  rw [Bool.and_eq_true, Bool.and_eq_true] at h
  obtain ⟨⟨h1, h2⟩, h3⟩ := h
  unfold clB at h1
  simp only [Bool.and_eq_true, decide_eq_true_eq] at h1
  obtain ⟨⟨⟨⟨⟨⟨⟨⟨⟨⟨⟨⟨c1, c2⟩, c3⟩, c4⟩, c5⟩, c6⟩, c7⟩, c8⟩, c9⟩, c10⟩, c11⟩, c12⟩, c13⟩ := h1
  split at h2
  · rename_i fI fd e1
    obtain ⟨l1, l2⟩ := lkFn_ok e1
    split at h2
    · rename_i s0 i0 txt n1 f0 n2 pb a1 a2 cl cc cda b1 b2 b3
      simp only [Bool.and_eq_true, decide_eq_true_eq] at h2
      obtain ⟨⟨⟨⟨⟨⟨⟨⟨⟨⟨⟨⟨⟨⟨⟨d1, d2⟩, d3⟩, d4⟩, d5⟩, d6⟩, d7⟩, d8⟩, d9⟩, d10⟩, d11⟩, d12⟩, d13⟩, d14⟩, d15⟩, d16⟩ := h2
      subst d1 d2 d3 d4 d5 d6 d9
      have bp := fdPars_ok b2
      obtain ⟨k1, k2, k3⟩ := fdClo_ok b3
      unfold fdScB at d15
      simp only [Bool.and_eq_true, decide_eq_true_eq, Bool.not_eq_true', List.all_eq_true, decide_eq_false_iff_not] at d15
      obtain ⟨⟨⟨⟨⟨⟨⟨s1, s2⟩, s3⟩, s4⟩, s5⟩, s6⟩, s7⟩, s8⟩ := d15
      obtain ⟨p0, p1, p2, p3, p4, p5, p6, p7, p8, p9, k0, eb, ep⟩ := fdBody_ok b1
      have hne : ∀ g ∈ gNames, g ≠ ("self" : Str) ∧ (g == ("__debug__" : Str)) = false := by decide +kernel
      obtain ⟨z1, z2⟩ := hne _ d8
      refine ⟨fI, cda, cc, fd, a1, a2, txt, c1, c2, He.eqO_ok c3, He.eqO_ok c4, c5, c6, c7, c8, c9, He.eqO_ok c10, He.eqO_ok c11, c12, Option.isSome_iff_exists.mp c13, l1, d16, l2, ⟨p0, p1, p2, p3, p4, p5, p6, p7, p8, p9, k0, by rw [d7]; exact eb, ep⟩, bp, fun v u => ?_, k1, k2, d10, d11, d12, filB_ok d13, celB_ok d14, s1, s2, s3, s4, s5, s6, by rw [d7]; exact s7, s8, by rw [d7]; decide, z2, fun z => z1 (by rw [← z]; exact d7), by simpa using h3⟩
      obtain ⟨an1, nn1, q1⟩ := a1
      obtain ⟨an2, nn2, q2⟩ := a2
      have d7' : an1 = ("self" : Str) := d7
      subst d7'
      exact bind_sg bp k3 d8 v u
    · cases h2
  · cases h2
/-- a class's facts -/
def ckB (prog : Program) (K : PySem.W.Frag) (c : Ck) : Bool := match c.fld with
  | some f => xiB prog K (He.ga K c.name) f c.base
  | none => PySem.W.excIn K (He.ga K c.name) c.base.bm c.base.newId && PySem.W.keepIn K (.ref (He.ga K c.name)) && decide (PySem.W.subIn K (.ref (He.ga K c.name)) (.type "BaseException") = some true) && decide (PySem.W.typeIn K (.ref (He.ga K c.name)) = some (.type "type"))
theorem ckB_ok {prog : Program} {K : PySem.W.Frag} {c : Ck} (h : ckB prog K c = true) : KcOk prog K (He.ga K c.name) c.fld := by
  unfold ckB at h
  refine ⟨fun n e => ?_, fun e => ?_⟩
  · rw [e] at h
    obtain ⟨fI, cda, cc, fd, a1, a2, txt, T⟩ := xiB_ok h
    exact ⟨_, _, _, _, fI, cda, cc, fd, a1, a2, txt, T, c.base.fb, c.base.kx, c.base.sf⟩
  · rw [e] at h
    simp only [Bool.and_eq_true, decide_eq_true_eq] at h
    exact ⟨_, _, _, _, c.base.fb, h.1.1.1, h.1.1.2, h.1.2, h.2⟩
end Mn


set_option Elab.async false
set_option linter.all false
set_option maxHeartbeats 4000000
set_option maxRecDepth 100000
/-! The end of a law: the call by the machine's own caller. -/
namespace Mn
open PySem PySem.Spec PyProof.Rows L2 LamX
theorem law_callG {P : Program} {w : World} {K : PySem.W.Frag} {mg mb : Str → Option Value} {k : Nat} {fa a : Addr} {cs : List (Addr × Addr)} {sp : Sp} {s₁ : Shared} {vs : List Value} {ns : List Int} (KX : K.In s₁.heap) (hns : s₁.heap.Ns mainGlobals mg) (hb : s₁.heap.Ns builtinsNs mb)
    (hbb : ∀ x : Str, x ≠ "__name__" → mb x = bootBuiltins x) (hlim : s₁.heap.NoLimit) (hg : s₁.gens = #[]) (hT : ∀ p ∈ cs, s₁.heap.get? p.2 = some { cls := .none, data := .fields #[] }) (nT : ∀ p ∈ cs, K.lookup p.2 = none) (C : ∀ p ∈ cs, PySem.W.CodeHd s₁.heap p.1 p.2) (nL : ∀ b o, K.lookup b = some o → o.cls ≠ .type "list")
    (hbm : ∃ (b0 : Addr) (o0 : Obj), mg "__builtins__" = some (.ref b0) ∧ b0 ≠ builtinsNs ∧ s₁.heap.get? b0 = some o0 ∧ o0.cls = .type "module" ∧ o0.dict = some builtinsNs ∧ o0.data = .plain) (ha : s₁.heap.get? a = some { cls := .type "list", data := .seq vs.toArray }) (hi : IntsAre vs ns)
    (hl : ns.length ≤ sizeLine) (hr : Room k callerA) (F : ∀ base : Heap, K.In base → base.Ns mainGlobals mg → (∀ p ∈ cs, TabB base mg p.1 p.2) → FnG true P w K mg base k fa sp)
    (hsp : ∀ H : Hp, (∀ p ∈ cs, H p.2 = some (.tbl #[])) → (∃ o, H a = some (.frz o (.lst (ns.map V.int)))) → sp [.ref a] H (fun v _ => v = .bl true) fun _ _ _ => False) :
    codeAny (model P w) callerA (.call (.ref fa) ⟨[.ref a], []⟩) (fun r s2 => r = .ok (.ret (.bool true)) ∧ OldK s₁.heap s2.heap ∧ s2.os = s₁.os ∧ AllBare s2.gens) s₁ := by
  have rvs := vals_ints hi
  have lnV := hi.length
  have tbT : ∀ b : Addr, b ∈ cs.map (·.2) → s₁.heap.get? b = some { cls := .none, data := .fields #[] } := fun b hb => by
    obtain ⟨p, hp, e⟩ := List.mem_map.mp hb
    rw [← e]
    exact hT p hp
  have anT : a ∉ cs.map (·.2) := fun z => by
    have q := tbT a z
    rw [ha] at q
    have z' : Data.seq vs.toArray _ = Data.fields #[] := congrArg Obj.data (Option.some.inj q)
    cases z'
  have mmT : ∀ p ∈ cs, p.2 ∈ cs.map (·.2) := fun p hp => List.mem_map.mpr ⟨p, hp, rfl⟩
  -- from an abstract heap in which nothing but the script and the tables may be tracked
  have corr : ∀ H : Hp, (∀ p ∈ cs, H p.2 = some (.tbl #[])) → (∀ b, H b = none ∨ b ∈ cs.map (·.2) ∨ ∃ o xs, H b = some (.frz o (.lst xs))) → (∃ o, H a = some (.frz o (.lst (ns.map V.int)))) → HOk P w H s₁.heap → (∀ b, H b ≠ none → b = a ∨ b ∈ cs.map (·.2)) → (H a ≠ none → K.lookup a = none) →
      codeAny (model P w) callerA (.call (.ref fa) ⟨[.ref a], []⟩) (fun r s' => r = .ok (.ret (.bool true)) ∧ OldK s₁.heap s'.heap ∧ s'.os = s₁.os ∧ AllBare s'.gens) s₁ := by
    intro H hTb hOn hFz hob hAt hKn
    have bsOf : ∀ {b : Addr} {o : Obj}, s₁.heap.get? b = some o → H b = none → (hidT s₁.heap H).get? b = some o := fun e n => hidT_get e n
    have nDt : ∀ {b : Addr} {o : Obj}, s₁.heap.get? b = some o → (∀ vs n, o.data ≠ .seq vs n) → o.data ≠ .fields #[] → H b = none := fun {b o} e h1 h2 => by
      cases q : H b with
      | none => rfl
      | some u =>
        rcases hAt b (by rw [q]; simp) with e' | e'
        · rw [e', ha] at e
          cases e
          exact (h1 _ _ rfl).elim
        · rw [tbT b e'] at e
          cases e
          exact (h2 rfl).elim
    have nAr : ∀ {b : Addr} {o : Obj} {es : Array DictEntry} {ep : Nat}, s₁.heap.get? b = some o → o.data = .dict es ep → H b = none := fun {b o es ep} e d => by
      refine nDt e (fun vs n z => ?_) fun z => ?_
      · rw [d] at z
        cases z
      · rw [d] at z
        cases z
    have nsQ : ∀ {b : Addr} {m : Str → Option Value}, s₁.heap.Ns b m → (hidT s₁.heap H).Ns b m := fun {b m} ⟨o, es, ep, e, d, r⟩ => ⟨o, es, ep, bsOf e (nAr e d), d, r⟩
    have hKB : K.In (hidT s₁.heap H) := fun b o e => bsOf (KX b o e) (by
      cases q : H b with
      | none => rfl
      | some u =>
        rcases hAt b (by rw [q]; simp) with e' | e'
        · rw [e'] at e q
          rw [hKn (by rw [q]; simp)] at e
          cases e
        · obtain ⟨p, hp, ep⟩ := List.mem_map.mp e'
          rw [← ep, nT p hp] at e
          cases e)
    have hMd : L2.Mod K mg (hidT s₁.heap H) := ⟨hKB, nsQ hns, ⟨mb, nsQ hb, hbb⟩, let ⟨mc, h1, h2⟩ := hlim; ⟨mc, nsQ h1, h2⟩⟩
    have tBs : ∀ p ∈ cs, TabB (hidT s₁.heap H) mg p.1 p.2 := fun p hp => by
      have hTq := hT p hp
      refine ⟨?_, ?_, fun z => ?_⟩
      · obtain ⟨o, uz, fil, tfk, flg, tgk, inf, txt, ttk, e1, r1, r2, r3, r4, r5, r6, r7, r8, hne⟩ := C p hp
        refine ⟨o, uz, fil, tfk, flg, tgk, inf, txt, ttk, bsOf e1 (nDt e1 (fun vs n z => ?_) fun z => ?_), r1, r2, r3, r4, r5, r6, r7, r8, hne⟩
        · rw [r2] at z
          cases z
        · rw [r2] at z
          cases z
          simp at r3
      · obtain ⟨bmo, obo, b1, b2, b3, b4, b5, b6⟩ := hbm
        have nGl : bmo ≠ mainGlobals := fun q => by
          obtain ⟨o, es, ep, e, hd, _⟩ := hns
          rw [q, e] at b3
          cases b3
          rw [hd] at b6
          cases b6
        have nPl : bmo ≠ p.2 := fun q => by
          rw [q, hTq] at b3
          cases b3
          cases b6
        refine ⟨bmo, obo, b1, b2, nGl, nPl, bsOf b3 (nDt b3 (fun vs n z => ?_) fun z => ?_), b4, b5, b6⟩
        · rw [b6] at z
          cases z
        · rw [b6] at z
          cases z
      · obtain ⟨o, es, ep, e, hd, _⟩ := hns
        rw [z, hTq] at e
        cases e
        cases hd
    have env0 : Env0 P w K mg (hidT s₁.heap H) callerA [] s₁ H := ⟨rfl, hMd, fun b o e => of_hidT e, Nat.le_of_eq (hidT_size _ _), trivial, fun b hb => absurd (show b ∈ ([] : List Addr) from hb) (by simp), hob, .of_eq hg⟩
    refine codeAny_mono (F _ hKB (nsQ hns) tBs callerA [] s₁ H [.ref a] [.ref a] _ _ hr (fun _ => rfl) env0 (.cons rfl .nil) (hsp H hTb hFz)) fun r s' h => ?_
    cases r with
    | error e =>
      obtain ⟨_, _, _, _, _, _, _, _, _, _, _, _, z⟩ := h
      exact z.elim
    | ok flw =>
      cases flw with
      | next => exact False.elim h
      | brk => exact False.elim h
      | cont => exact False.elim h
      | ret u =>
        obtain ⟨v, H', oss, barr, unn, hob', r', q⟩ := h
        have q' : v = .bl true := q
        subst q'
        obtain rfl : u = Value.bool true := r'
        have kyp : ∀ b o, b ∉ cs.map (·.2) → s₁.heap.get? b = some o → s'.heap.get? b = some o := fun b o nb e => by
          cases q : H b with
          | none => exact unn.keep b o e q (by intro z; exact absurd (show b ∈ ([] : List Addr) from z) (by simp)) (by simp)
          | some u =>
            rcases hOn b with z | z | ⟨obo, xs, z⟩
            · rw [q] at z; cases z
            · exact absurd z nb
            · have z2 := unn.frzs b obo _ z
              obtain ⟨e1, _⟩ := hob b _ z
              obtain ⟨e2, _⟩ := hob' b _ z2
              rw [e] at e1; cases e1
              exact e2
        have grwn : ∀ p ∈ cs, ∃ mre : Array Value, s'.heap.get? p.2 = some { cls := .none, data := .fields mre } := fun p hp => by
          obtain ⟨mre, z⟩ := unn.tbls p.2 #[] (hTb p hp)
          exact ⟨_, hob' p.2 _ z⟩
        refine ⟨rfl, ⟨fun b o e => ?_, fun b o e => ?_⟩, oss, barr⟩
        · by_cases hb : b ∈ cs.map (·.2)
          · obtain ⟨p, hp, ep⟩ := List.mem_map.mp hb
            obtain ⟨mre, hm⟩ := grwn p hp
            rw [← ep] at e ⊢
            rw [hT p hp] at e
            cases e
            exact .inr (.inl ⟨((C p hp).tab (hT p hp)).isCodeTable, rfl, #[], mre, rfl, by rw [Array.empty_append]; exact hm⟩)
          · exact .inl (kyp b o hb e)
        · by_cases hb : b ∈ cs.map (·.2)
          · obtain ⟨p, hp, ep⟩ := List.mem_map.mp hb
            obtain ⟨mre, hm⟩ := grwn p hp
            rw [← ep]
            exact ⟨_, hm⟩
          · exact ⟨o, kyp b o hb e⟩
  have hk : K.lookup a = none := by
    cases q : K.lookup a with
    | none => rfl
    | some o =>
      have e := KX a o q
      rw [ha] at e
      cases e
      exact absurd rfl (nL a _ q)
  refine corr (fun b => if b = a then some (.frz { cls := .type "list", data := .seq vs.toArray } (.lst (ns.map V.int))) else if b ∈ cs.map (·.2) then some (.tbl #[]) else none) (fun p hp => (if_neg (show ¬ p.2 = a from fun z => anT (by rw [← z]; exact mmT p hp))).trans (if_pos (mmT p hp))) (fun b => ?_) ⟨_, if_pos rfl⟩ (fun b u z => ?_) (fun b z => ?_) fun _ => hk
  · by_cases h1 : b = a
    · exact .inr (.inr ⟨_, _, if_pos h1⟩)
    · by_cases h2 : b ∈ cs.map (·.2)
      · exact .inr (.inl h2)
      · exact .inl ((if_neg h1).trans (if_neg h2))
  · by_cases h1 : b = a
    · have z1 := (if_pos h1).symm.trans z
      cases z1
      rw [h1]
      exact ⟨ha, by rw [List.length_map]; exact hl, vs, _, rvs, ha⟩
    · have z1 := (if_neg h1).symm.trans z
      by_cases h2 : b ∈ cs.map (·.2)
      · have z2 := (if_pos h2).symm.trans z1
        cases z2
        exact tbT b h2
      · have z2 := (if_neg h2).symm.trans z1
        cases z2
  · by_cases h1 : b = a
    · exact .inl h1
    · by_cases h2 : b ∈ cs.map (·.2)
      · exact .inr h2
      · exact absurd ((if_neg h1).trans (if_neg h2)) z
/-- what is known at the head's heap -/
def LawAtG (l : PySem.W.OpenLaw) (w : World) (k n : Nat) (mg : Str → Option Value) (fa : Addr) (h : Heap) : Prop :=
  ∃ (K : PySem.W.Frag) (cs : List (Addr × Addr)) (sp : Sp), K.In h ∧ (∀ p ∈ cs, h.get? p.2 = some { cls := .none, data := .fields #[] }) ∧ (∀ p ∈ cs, K.lookup p.2 = none) ∧ (∀ p ∈ cs, PySem.W.CodeHd h p.1 p.2) ∧ (∀ b o, K.lookup b = some o → o.cls ≠ .type "list") ∧
    (∀ (H : Hp) (a : Addr) (ns : List Int), ns.length ≤ n → (∀ z ∈ ns, Builtin.Int.intBits z ≤ 1048576) → (∀ p ∈ cs, H p.2 = some (.tbl #[])) → (∃ o, H a = some (.frz o (.lst (ns.map V.int)))) → sp [.ref a] H (fun v _ => v = .bl true) fun _ _ _ => False) ∧
    ∀ base : Heap, K.In base → base.Ns mainGlobals mg → (∀ p ∈ cs, TabB base mg p.1 p.2) → FnG true l.prog w K mg base k fa sp
theorem walk_ofG {l : PySem.W.OpenLaw} {n k : Nat} {q : Program} {loose : List Str} {XP : (Str → Option Value) → Heap → Prop} {YP : World → Heap → Prop} {d : DefRec} (hn : l.most = some n) (hn2 : n ≤ sizeLine) (hdf : d.params.defaults = []) (hr : Room k callerA)
    (F : ∀ (w : World) (mg : Str → Option Value) (fa : Addr) (h : Heap), YP w h → h.Ns mainGlobals mg → mg d.name = some (.ref fa) → LawAtG l w k n mg fa h) : PySem.W.WalkO q loose XP YP l.row.toRowW d [] (fun f vs => PySem.call f vs) := by
  refine Att.attach_callB hn hdf fun w s0 s1 mg mb fa o pm cd doc a vs ns G Y ho hd hcd hmg hobj hints hlen hbits hg => ?_
  obtain ⟨K, cs, sp, KX, hT, nT, C, nL, hsp, hF⟩ := F w mg fa _ Y G.T.g hmg
  exact law_callG KX G.T.g G.T.b G.T.builtins G.T.nolimit hg hT nT C nL G.T.bmain hobj hints (Nat.le_trans hlen hn2) hr hF fun H hH hS => hsp H a ns hlen hbits hH hS
end Mn


set_option Elab.async false
set_option linter.all false
set_option maxHeartbeats 4000000
set_option maxRecDepth 20000
/-! A law's data; the written part's facts give the defs' facts. -/
namespace Mn
open PySem PySem.Spec PyProof.Rows L2 LamX
structure Lw where
  cs : Cs
  ct : CT
  cl : List D
  fl : List FnI
  dql : List Dq
  cks : List Ck
def Lw.fns (l : Lw) (k : Nat) : Option FnI := l.fl[k]?
def Lw.cst (l : Lw) (k : Nat) : Option D := l.cl[k]?
def dq0 : Dq := ⟨Str.empty, ⟨[], [], none, [], [], none, []⟩, [], { kind := .function, names := [], isGenerator := false, isCoroutine := false }, [], [], none, none, false⟩
def Lw.dq (l : Lw) (k : Nat) : Dq := l.dql.getD k dq0
def dOk (cs : Cs) (f : FnI) (d : Dq) : Bool := mSs (cs.cc d) f.body d.body && C8.scC d.N (d.ps ++ d.pv.toList) d.scope && decide (f.np = (d.ps ++ d.pv.toList).length) && decide (f.nv = d.N.length) && (f.star == d.pv.isSome) && f.dfl.isEmpty && (!f.th || d.thk.isSome) && (match d.thk with
  | none => true
  | some a => !d.tab && decide (d.ps = [a]) && d.pv.isNone && visB d.scope a && nmB a)
def zipOk (cs : Cs) : List FnI → List Dq → Bool
  | f :: fs, d :: ds => dOk cs f d && zipOk cs fs ds
  | [], [] => true
  | _, _ => false
theorem zipOk_at {cs : Cs} : ∀ {fs : List FnI} {ds : List Dq} {k : Nat} {f : FnI}, zipOk cs fs ds = true → fs[k]? = some f → ∃ d, ds[k]? = some d ∧ dOk cs f d = true
  | [], _, _, _, _, e => by simp at e
  | _ :: _, [], _, _, h, _ => by cases h
  | g :: fs, d :: ds, 0, f, h, e => by
    have h' : (dOk cs g d && zipOk cs fs ds) = true := h
    simp at e
    subst e
    exact ⟨d, rfl, (andB h').1⟩
  | g :: fs, d :: ds, k + 1, f, h, e => by
    have h' : (dOk cs g d && zipOk cs fs ds) = true := h
    obtain ⟨d', e1, e2⟩ := zipOk_at (k := k) (andB h').2 (by simpa using e)
    exact ⟨d', by simpa using e1, e2⟩
/-- what the text itself says -/
structure LwOk (l : Lw) : Prop where
  fnm : l.cs.fnm = l.dql.map (·.name)
  knm : l.cs.knm = l.cks.map (·.name)
  ctn : l.ct.n = l.cks.length
  ctf : ∀ k n, l.ct.fld k = some n → ∃ c, l.cks[k]? = some c ∧ c.fld = some n
  ctg : ∀ k c, l.cks[k]? = some c → l.ct.fld k = c.fld
  zip : zipOk l.cs l.fl l.dql = true
  nms : l.cs.fnm.all nmB = true
  pos : 0 < l.dql.length
  bnd : ∀ d ∈ l.dql, d.pv = none → ∀ (kV doc pm : Value) (an : Option Addr) (cdv ct : Value) (us : List Value), us.length = d.ps.length → bindArgs (PySem.W.fnOf d.name d.name d.params d.body d.scope .none kV doc pm an cdv ct) ⟨us, []⟩ = pure (d.ps.zip us)
  bns : ∀ d ∈ l.dql, ∀ pv, d.pv = some pv → ∀ (kV doc pm : Value) (an : Option Addr) (cdv ct : Value) (us rest : List Value), us.length = d.ps.length → bindArgs (PySem.W.fnOf d.name d.name d.params d.body d.scope .none kV doc pm an cdv ct) ⟨us ++ rest, []⟩ = (newTuple rest >>= fun t => pure (d.ps.zip us ++ [(pv, t)]))
def Lw.tf (l : Lw) : List He.Defn := (l.dql.filter (·.tab)).map fun d => (d.name, none)
def Lw.fn (l : Lw) : List He.DefD := l.dql.map fun d => ⟨(d.name, none), d.name, d.name, d.params, d.body, d.scope, [], []⟩
def Lw.fa (l : Lw) : List He.Fa := l.cs.fnm.map .glo ++ (l.cs.knm.map .glo ++ (l.cs.free.map .free ++ [.free "super"]))
def Lw.fn1 (l : Lw) : Str := l.cs.fnm.getD 0 Str.empty
def dvOf : D → Option He.Dv
  | .int i => some (.int i)
  | .bl b => some (.bl b)
  | .str x => some (.str x)
  | .non => some .non
  | _ => none
def conB (K : PySem.W.Frag) (x : Str) : D → Bool
  | .int i => (He.Fa.int x i).ok K
  | .str z => (He.Fa.str x z).ok K
  | .tup ds => (He.Fa.glo x).ok K && (match ds.mapM dvOf with
    | some vs => He.tupB K x vs
    | none => false)
  | _ => false
def consB (K : PySem.W.Frag) : List Str → List D → Bool
  | x :: xs, d :: ds => conB K x d && consB K xs ds
  | _, _ => true
def noLst (K : PySem.W.Frag) : Bool := K.all fun q => match q.2.cls with
  | .type c => !decide (c = "list")
  | _ => true
def exB (prog : Program) (l : Lw) (K : PySem.W.Frag) : Bool := l.cks.all (ckB prog K) && ((List.range l.cks.length).all fun i => (List.range l.cks.length).all fun j => decide (PySem.W.exmOne K (.ref (He.ga K (l.cs.knm.getD i Str.empty))) (.ref (He.ga K (l.cs.knm.getD j Str.empty))) = some (l.ct.sub i j))) &&
  l.cks.all (fun c => match c.fld with
    | some f => xfB K (He.ga K c.name) && He.eqO (PySem.W.findIn K (.ref (He.ga K c.name)) f) (some none)
    | none => true) && (!l.cs.gcd || He.eqO (PySem.W.nsIn K mainGlobals "gcd") (some (some (.builtin "math.gcd")))) && consB K l.cs.cnm l.cl && noLst K && decide (l.tf.map fun p => (He.cT K p).2).Nodup
/-- the Hook: what the module's names lead to, the interpreter's own statics beside -/
def asM (g : Addr → Option Obj) : List Addr := He.asD g 4 ++ [cStatics]
def obsM (fa : List He.Fa) (fn : List He.DefD) (tf : List He.Defn) (ex : PySem.W.Frag → Bool) (g : Addr → Option Obj) : He.AlX := (He.obsT fa fn [] (He.frT g (asM g)), ex (He.frT g (asM g)) && He.tabsB g tf (He.frT g (asM g)))
theorem saysM_of {fa : List He.Fa} {fn : List He.DefD} {tf : List He.Defn} {ex : PySem.W.Frag → Bool} {w : World} {h : Heap} (e : obsM fa fn tf ex h.get? = He.valX fn [] w) : He.SaysX fa fn [] tf ex w h (He.frT h.get? (asM h.get?)) := by
  have e1 : He.obsT fa fn [] (He.frT h.get? (asM h.get?)) = He.valT fn [] w := congrArg (fun z : He.AlX => z.1) e
  have e2 : (ex (He.frT h.get? (asM h.get?)) && He.tabsB h.get? tf (He.frT h.get? (asM h.get?))) = true := congrArg (fun z : He.AlX => z.2) e
  obtain ⟨a1, a2⟩ := andB e2
  have kk : ∀ p ∈ tf, PySem.W.codeHdIn (He.frT h.get? (asM h.get?)) (He.cT (He.frT h.get? (asM h.get?)) p).1 (He.cT (He.frT h.get? (asM h.get?)) p).2 = true ∧ ∃ o, h.get? (He.cT (He.frT h.get? (asM h.get?)) p).2 = some o ∧ He.emptyTab o = true := fun p hp => by
    obtain ⟨a3, a4⟩ := andB (List.all_eq_true.mp a2 p hp)
    refine ⟨a3, ?_⟩
    cases q : h.get? (He.cT (He.frT h.get? (asM h.get?)) p).2 with
    | none => rw [q] at a4; cases a4
    | some o => rw [q] at a4; exact ⟨o, rfl, a4⟩
  refine ⟨e1, a1, fun p hp => (kk p hp).1, fun p hp => ?_, fun p hp => ?_⟩
  · obtain ⟨_, o, q, z⟩ := kk p hp
    exact He.frT_none q z
  · obtain ⟨_, o, q, z⟩ := kk p hp
    rw [q, He.emptyTab_eq z]
def Lw.hook (prog : Program) (l : Lw) : PySem.W.Hook where
  α := He.AlX
  obs := fun s => obsM l.fa l.fn l.tf (exB prog l) s.heap.get?
  val := fun w => He.valX l.fn [] w
  says := fun w h => ∃ K : PySem.W.Frag, K.In h ∧ He.SaysX l.fa l.fn [] l.tf (exB prog l) w h K
  of := fun _ _ e => ⟨_, He.frT_in, saysM_of e⟩
  keeps := fun _ _ _ ⟨K, hK, c⟩ k => ⟨K, PySem.W.Frag.In.keeps hK k, ⟨c.t, c.more, c.hd, c.out, fun p hp => k _ _ (c.empty p hp)⟩⟩
def Lw.ob (prog : Program) (l : Lw) (s : PySem.W.SharedT) : He.AlX := obsM l.fa l.fn l.tf (exB prog l) (HandSHeadRun.getT s)
def Lw.bp (l : Lw) (K : PySem.W.Frag) : BP where
  K := K
  adr := fun k => He.ga K (l.cs.fnm.getD k l.fn1)
  cad := fun k => He.ga K (l.cs.knm.getD k Str.empty)
  T := l.tf.map fun p => ((He.cT K p).2, (p.1 ++ ".<locals>.") ++ "<lambda>")
theorem getD_at {α : Type} {l : List α} {k : Nat} {x d : α} (h : l[k]? = some x) : l.getD k d = x := by rw [List.getD_eq_getElem?_getD, h]; rfl
theorem bel_dv {B : BP} {ι : List Addr} {H : Hp} {K : PySem.W.Frag} : ∀ {ds : List D} {vs : List He.Dv}, ds.mapM dvOf = some vs → BeL B ι H (vs.map (He.Dv.v K)) ds
  | [], vs, h => by
    rw [List.mapM_nil] at h
    cases h
    exact .nil
  | d :: ds, vs, h => by
    rw [List.mapM_cons] at h
    cases e1 : dvOf d with
    | none => rw [e1] at h; cases h
    | some v =>
      cases e2 : ds.mapM dvOf with
      | none => rw [e1, e2] at h; cases h
      | some ws =>
        rw [e1, e2] at h
        cases h
        refine .cons ?_ (bel_dv e2)
        cases d with
        | int i => cases e1; exact .int i
        | bl b => cases e1; exact .bl b
        | str x => cases e1; exact .str x
        | non => cases e1; exact .non
        | _ => cases e1
theorem consB_at {K : PySem.W.Frag} : ∀ {xs : List Str} {ds : List D} {k : Nat} {x : Str} {d : D}, consB K xs ds = true → xs[k]? = some x → ds[k]? = some d → conB K x d = true
  | [], _, _, _, _, _, e, _ => by simp at e
  | _ :: _, [], _, _, _, _, _, e => by simp at e
  | y :: xs, c :: ds, 0, x, d, h, e1, e2 => by
    have h' : (conB K y c && consB K xs ds) = true := h
    simp at e1 e2
    subst e1 e2
    exact (andB h').1
  | y :: xs, c :: ds, k + 1, x, d, h, e1, e2 => by
    have h' : (conB K y c && consB K xs ds) = true := h
    exact consB_at (k := k) (andB h').2 (by simpa using e1) (by simpa using e2)
theorem inj_of {α β : Type} {f : α → β} : ∀ {l : List α} {a b : α}, (l.map f).Nodup → a ∈ l → b ∈ l → f a = f b → a = b
  | [], _, _, _, h, _, _ => by cases h
  | x :: l, a, b, hn, ha, hb, e => by
    rw [List.map_cons, List.nodup_cons] at hn
    rcases List.mem_cons.mp ha with e1 | ha2
    · rcases List.mem_cons.mp hb with e2 | hb2
      · rw [e1, e2]
      · exact absurd (by rw [← e1, e]; exact List.mem_map_of_mem hb2) hn.1
    · rcases List.mem_cons.mp hb with e2 | hb2
      · exact absurd (by rw [← e2, ← e]; exact List.mem_map_of_mem ha2) hn.1
      · exact inj_of hn.2 ha2 hb2 e
theorem sy_of {prog : Program} {w : World} {l : Lw} {K : PySem.W.Frag} {mg : Str → Option Value} {base h : Heap} (O : LwOk l) (c : He.SaysX l.fa l.fn [] l.tf (exB prog l) w h K) (X : K.In base) (G : base.Ns mainGlobals mg) (TB : ∀ p ∈ l.tf.map (He.cT K), TabB base mg p.1 p.2) :
    Sy prog w K mg base l.ct l.cst l.fns l.dq l.cs (l.bp K) := by
  have cD : He.SaysD l.fa l.fn K := c.t.d
  have ex := c.more
  unfold exB at ex
  simp only [Bool.and_eq_true] at ex
  obtain ⟨⟨⟨⟨⟨⟨x1, x2⟩, x3⟩, x4⟩, x5⟩, x6⟩, x7⟩ := ex
  have gloF : ∀ x ∈ l.cs.fnm, mg x = some (.ref (He.ga K x)) := fun x hx => He.glo_ok X G (cD.facts (List.mem_append_left _ (List.mem_map_of_mem hx)))
  have gloK : ∀ x ∈ l.cs.knm, mg x = some (.ref (He.ga K x)) := fun x hx => He.glo_ok X G (cD.facts (List.mem_append_right _ (List.mem_append_left _ (List.mem_map_of_mem hx))))
  have fre : ∀ x ∈ l.cs.free, mg x = none := fun x hx => He.free_ok X G (cD.facts (List.mem_append_right _ (List.mem_append_right _ (List.mem_append_left _ (List.mem_map_of_mem hx)))))
  have sup : mg "super" = none := He.free_ok X G (cD.facts (List.mem_append_right _ (List.mem_append_right _ (List.mem_append_right _ (List.mem_singleton.mpr rfl)))))
  have defsD : ∀ d ∈ l.dql, ∃ fd, FunD K d.name d.name d.params d.body d.scope [] [] (He.ga K d.name) fd := fun d hd => cD.defs (d := ⟨(d.name, none), d.name, d.name, d.params, d.body, d.scope, [], []⟩) (List.mem_map.mpr ⟨d, hd, rfl⟩)
  have keepA : ∀ k : Nat, PySem.W.keepIn K (.ref ((l.bp K).adr k)) = true := fun k => by
    show PySem.W.keepIn K (.ref (He.ga K (l.cs.fnm.getD k l.fn1))) = true
    have hm : l.cs.fnm.getD k l.fn1 ∈ l.cs.fnm := by
      rw [List.getD_eq_getElem?_getD]
      cases e : l.cs.fnm[k]? with
      | some x => exact List.mem_of_getElem? e
      | none =>
        show l.fn1 ∈ _
        unfold Lw.fn1
        have hp : 0 < l.cs.fnm.length := by rw [O.fnm, List.length_map]; exact O.pos
        rw [getD_at (List.getElem?_eq_getElem hp)]
        exact List.getElem_mem _
    rw [O.fnm] at hm
    obtain ⟨d, hd, e⟩ := List.mem_map.mp hm
    obtain ⟨fd, F⟩ := defsD d hd
    rw [O.fnm, ← e]
    exact F.kp
  refine ⟨rfl, fun k x e => ?_, keepA, fun k x d e1 e2 => ?_, fre, fun k x e => ?_, fun k1 k2 h1 h2 => ?_, fun k n e => ?_, fun e => ?_, sup, fun k x e => ?_, fun k f e => ?_, fun k x f e1 e2 => ?_, fun x hx => List.all_eq_true.mp O.nms x hx⟩
  · show mg x = some (.ref (He.ga K (l.cs.fnm.getD k l.fn1)))
    rw [getD_at e]
    exact gloF x (List.mem_of_getElem? e)
  · have hc := consB_at x5 e1 e2
    cases d with
    | int i =>
      obtain ⟨t, ht⟩ := He.int_ok X G hc
      exact ⟨_, .int i, ht, ⟨t, rfl⟩, fun _ _ => .int i⟩
    | str z =>
      obtain ⟨t, ht⟩ := He.str_ok X G hc
      exact ⟨_, .str z, ht, ⟨t, rfl⟩, fun _ _ => .str z⟩
    | tup ds =>
      have hc' : ((He.Fa.glo x).ok K && (match ds.mapM dvOf with
        | some vs => He.tupB K x vs
        | none => false)) = true := hc
      obtain ⟨g1, g2⟩ := andB hc'
      cases e3 : ds.mapM dvOf with
      | none => rw [e3] at g2; cases g2
      | some vs =>
        rw [e3] at g2
        exact ⟨_, .ref (He.ga K x), He.glo_ok X G g1, rfl, fun _ H => .tup (He.tupB_ok g2 H) (bel_dv e3)⟩
    | _ => cases hc
  · show mg x = some (.ref (He.ga K (l.cs.knm.getD k Str.empty)))
    rw [getD_at e]
    exact gloK x (List.mem_of_getElem? e)
  · rw [O.ctn] at h1 h2
    exact of_decide_eq_true (List.all_eq_true.mp (List.all_eq_true.mp x2 k1 (List.mem_range.mpr h1)) k2 (List.mem_range.mpr h2))
  · obtain ⟨ck, hk, hf⟩ := O.ctf k n e
    have hx := List.all_eq_true.mp x3 ck (List.mem_of_getElem? hk)
    rw [hf] at hx
    obtain ⟨y1, y2⟩ := andB hx
    have en : l.cs.knm.getD k Str.empty = ck.name := getD_at (by rw [O.knm, List.getElem?_map, hk]; rfl)
    show XfC K (He.ga K (l.cs.knm.getD k Str.empty)) ∧ PySem.W.findIn K (.ref (He.ga K (l.cs.knm.getD k Str.empty))) n = some none
    rw [en]
    exact ⟨xfB_ok y1, He.eqO_ok y2⟩
  · rw [e] at x4
    exact PySem.W.mg_of X G (He.eqO_ok (by simpa using x4))
  · rw [O.knm, List.getElem?_map] at e
    obtain ⟨ck, hk, en⟩ := Option.map_eq_some_iff.mp e
    have hx := ckB_ok (List.all_eq_true.mp x1 ck (List.mem_of_getElem? hk))
    have en2 : l.cs.knm.getD k Str.empty = ck.name := getD_at (by rw [O.knm, List.getElem?_map, hk]; rfl)
    show KcOk prog K (He.ga K (l.cs.knm.getD k Str.empty)) (l.ct.fld k)
    rw [en2, O.ctg k ck hk]
    exact hx
  · obtain ⟨d, hd, hok⟩ := zipOk_at O.zip e
    have ed : l.dq k = d := getD_at hd
    have hm := List.mem_of_getElem? hd
    obtain ⟨fd, F⟩ := defsD d hm
    obtain ⟨oc, od, dV, kV, doc, pm, an, cdv, ct, osl, rfl, lk, hcd, hD, _⟩ := F.ex
    have hdv : dV = .none := by
      rcases hD with ⟨_, z⟩ | ⟨z, _⟩
      · exact z
      · exact absurd rfl z
    subst hdv
    have ea : (l.bp K).adr k = He.ga K d.name := by
      show He.ga K (l.cs.fnm.getD k l.fn1) = _
      rw [getD_at (by rw [O.fnm, List.getElem?_map, hd]; rfl)]
    unfold dOk at hok
    simp only [Bool.and_eq_true, decide_eq_true_eq, beq_iff_eq] at hok
    obtain ⟨⟨⟨⟨⟨⟨⟨o1, o2⟩, o3⟩, o4⟩, o5⟩, o6⟩, o7⟩, o8⟩ := hok
    rw [ed]
    refine ⟨⟨.none, kV, doc, pm, cdv, ct, oc, an, od, osl, by rw [ea]; exact lk, hcd, fun hpv => .all (O.bnd d hm hpv kV doc pm an cdv ct), fun pv hpv => O.bns d hm pv hpv kV doc pm an cdv ct, fun ht => ?_⟩, C8.fnScope_by o2, o1, o3, o4, o5, List.isEmpty_iff.mp o6, fun ht => ?_, fun a ha => ?_⟩
    · obtain ⟨cc, rfl⟩ := He.codeIn_ref hcd
      have mT : (d.name, none) ∈ l.tf := List.mem_map.mpr ⟨d, List.mem_filter.mpr ⟨hm, ht⟩, rfl⟩
      have ec : He.codeOf K (d.name, none) = cc := He.codeOf_eq lk rfl
      refine ⟨cc, He.tabOf K cc, rfl, ?_, ?_, ?_⟩
      · have := TB _ (List.mem_map_of_mem (f := He.cT K) mT)
        unfold He.cT at this
        rw [ec] at this
        exact this
      · refine List.mem_map.mpr ⟨_, mT, ?_⟩
        unfold He.cT
        rw [ec]
      · intro p hp e1
        obtain ⟨q, hq, rfl⟩ := List.mem_map.mp hp
        have e2 : (He.cT K q).2 = (He.cT K (d.name, none)).2 := by
          rw [show (He.cT K (d.name, none)).2 = He.tabOf K cc by unfold He.cT; rw [ec]]
          exact e1
        have : q = (d.name, none) := inj_of (of_decide_eq_true x7) hq mT e2
        rw [this]
    · rw [ht] at o7
      exact Option.isSome_iff_exists.mp (by simpa using o7)
    · rw [ha] at o8
      simp only [Bool.and_eq_true, decide_eq_true_eq, Bool.not_eq_true', Option.isNone_iff_eq_none] at o8
      exact ⟨o8.1.1.1.1, o8.1.1.1.2, o8.1.1.2, o8.1.2, o8.2⟩
  · obtain ⟨d, hd, hok⟩ := zipOk_at O.zip e2
    rw [show l.dq k = d from getD_at hd]
    rw [O.fnm, List.getElem?_map, hd] at e1
    exact Option.some.inj e1
theorem ob_eq (prog : Program) (l : Lw) (s : PySem.W.SharedT) : l.ob prog s = (l.hook prog).obs s.abs := by
  have e : HandSHeadRun.getT s = s.abs.heap.get? := funext (HandSHeadRun.getT_eq s)
  show obsM l.fa l.fn l.tf (exB prog l) (HandSHeadRun.getT s) = obsM l.fa l.fn l.tf (exB prog l) s.abs.heap.get?
  rw [e]
theorem noLst_ok {K : PySem.W.Frag} (h : noLst K = true) {b : Addr} {o : Obj} (e : K.lookup b = some o) : o.cls ≠ .type "list" := fun z => by
  have := List.all_eq_true.mp h _ (He.lookup_mem e)
  have h2 : (match o.cls with
    | .type c => !decide (c = "list")
    | _ => true) = true := this
  rw [z] at h2
  simp at h2
theorem ints_bel {B : BP} {ι : List Addr} {H : Hp} : ∀ ns : List Int, BeL B ι H (ns.map V.int) (ns.map D.int)
  | [] => .nil
  | i :: ns => .cons (.int i) (ints_bel ns)
/-- a law that the evaluator answers True at every script -/
theorem law_at {row : PySem.W.OpenLaw} {l : Lw} (O : LwOk l) {n N kl : Nat} (hk : l.cs.fnm[kl]? = some ("law" : Str)) (pl : ∀ ns : List Int, ns.length ≤ n → (∀ z ∈ ns, Builtin.Int.intBits z ≤ 1048576) → ∃ h', (levG l.ct l.cst l.fns true N).call kl [.ref 0] [.rol (ns.map D.int)] = .ok (.bl true) h')
    {w : World} {mg : Str → Option Value} {fa : Addr} {h : Heap} (Y : (l.hook row.prog).says w h) (G : h.Ns mainGlobals mg) (hfa : mg ("law" : Str) = some (.ref fa)) : LawAtG row w (4 * N + 4) n mg fa h := by
  obtain ⟨K, KX, c⟩ := Y
  have cm : ∀ p ∈ l.tf.map (He.cT K), ∃ q ∈ l.tf, p = He.cT K q := fun p hp => by
    obtain ⟨q, hq, e⟩ := List.mem_map.mp hp
    exact ⟨q, hq, e.symm⟩
  refine ⟨K, l.tf.map (He.cT K), spF (l.bp K) (levG l.ct l.cst l.fns true N) kl, KX, fun p hp => ?_, fun p hp => ?_, fun p hp => ?_, fun b o e => ?_, fun H a ns hl hb hT ⟨o, ha⟩ => ?_, fun base X Gb TB => ?_⟩
  · obtain ⟨q, hq, rfl⟩ := cm p hp
    exact c.empty q hq
  · obtain ⟨q, hq, rfl⟩ := cm p hp
    exact c.out q hq
  · obtain ⟨q, hq, rfl⟩ := cm p hp
    exact PySem.W.codeHd_of_K KX (c.hd q hq)
  · have ex := c.more
    unfold exB at ex
    simp only [Bool.and_eq_true] at ex
    exact noLst_ok ex.1.2 e
  · obtain ⟨h', e⟩ := pl ns hl hb
    have S : Sim (l.bp K) [a] [.rol (ns.map D.int)] H := by
      refine ⟨rfl, by simp, fun i b ob e1 e2 => ?_, fun p hp => ?_⟩
      · cases i with
        | zero =>
          cases e1
          cases e2
          exact ⟨o, _, ha, ints_bel ns, by simp [flat]⟩
        | succ i => simp at e1
      · obtain ⟨q, hq, rfl⟩ := List.mem_map.mp hp
        exact TabS.nil (hT _ (List.mem_map_of_mem (f := He.cT K) hq))
    refine ⟨[a], [.rol (ns.map D.int)], [.ref 0], S, .cons (.ref rfl) .nil, ?_⟩
    rw [e]
    intro ι' H' v _ _ b
    cases b
    rfl
  · have cD : He.SaysD l.fa l.fn K := c.t.d
    have hm : ("law" : Str) ∈ l.cs.fnm := List.mem_of_getElem? hk
    have e := hfa.symm.trans (He.glo_ok KX G (cD.facts (f := .glo "law") (List.mem_append_left _ (List.mem_map_of_mem hm))))
    have e2 : fa = (l.bp K).adr kl := by
      show fa = He.ga K (l.cs.fnm.getD kl l.fn1)
      rw [getD_at hk]
      cases e
      rfl
    rw [e2]
    exact levels (sy_of (h := h) O c X Gb TB) N N (Nat.le_refl _) true kl
def ctOf (subs : List (List Nat)) (cks : List Ck) : CT := ⟨cks.length, fun a b => (subs.getD a []).contains b, fun k => (cks[k]?).bind (·.fld)⟩
theorem ctOf_f {subs : List (List Nat)} {cks : List Ck} (k : Nat) (n : Str) (h : (ctOf subs cks).fld k = some n) : ∃ c, cks[k]? = some c ∧ c.fld = some n := by
  have h' : (cks[k]?).bind (·.fld) = some n := h
  cases e : cks[k]? with
  | none => rw [e] at h'; cases h'
  | some c => rw [e] at h'; exact ⟨c, rfl, h'⟩
theorem ctOf_g {subs : List (List Nat)} {cks : List Ck} (k : Nat) (c : Ck) (h : cks[k]? = some c) : (ctOf subs cks).fld k = c.fld := by
  show (cks[k]?).bind (·.fld) = c.fld
  rw [h]
  rfl
def BdN (d : Dq) : Prop := d.pv = none → ∀ (kV doc pm : Value) (an : Option Addr) (cdv ct : Value) (us : List Value), us.length = d.ps.length → bindArgs (PySem.W.fnOf d.name d.name d.params d.body d.scope .none kV doc pm an cdv ct) ⟨us, []⟩ = pure (d.ps.zip us)
def BdS (d : Dq) : Prop := ∀ pv, d.pv = some pv → ∀ (kV doc pm : Value) (an : Option Addr) (cdv ct : Value) (us rest : List Value), us.length = d.ps.length → bindArgs (PySem.W.fnOf d.name d.name d.params d.body d.scope .none kV doc pm an cdv ct) ⟨us ++ rest, []⟩ = (newTuple rest >>= fun t => pure (d.ps.zip us ++ [(pv, t)]))
theorem allC {P : Dq → Prop} {d : Dq} {l : List Dq} (h : P d) (hl : ∀ x ∈ l, P x) : ∀ x ∈ d :: l, P x := fun x hx => (List.mem_cons.mp hx).elim (fun e => e ▸ h) (hl x)
end Mn


set_option Elab.async false
set_option linter.all false
set_option maxHeartbeats 4000000
set_option maxRecDepth 20000
/-! The evaluator's steps, as equations. -/
namespace Mn
open PySem
section
variable {ct : CT} {cst : Nat → Option D} {L : Lv} {A : Ar} {hd : HdR} {n : Nat} {σ : Sl} {h : Hh}
theorem x_var {i : Nat} : (evF ct cst L A hd (n + 1)).e (.var i) σ h = (match σ[i]? with | some (.d d) => .ok d h | _ => .no) := rfl
theorem x_int {i : Int} : (evF ct cst L A hd (n + 1)).e (.int i) σ h = .ok (.int i) h := rfl
theorem x_bin {op : Bop} {a b : E} : (evF ct cst L A hd (n + 1)).e (.bin op a b) σ h = ((evF ct cst L A hd n).e a σ h).bind fun x h1 => ((evF ct cst L A hd n).e b σ h1).bind fun y h2 => ofO (bop op x y h2) := rfl
theorem x_ix {a b : E} : (evF ct cst L A hd (n + 1)).e (.ix a b) σ h = ((evF ct cst L A hd n).e a σ h).bind fun x h1 => ((evF ct cst L A hd n).e b σ h1).bind fun y h2 => (match dix x y h2 with | some d => .ok d h2 | none => .no) := rfl
theorem x_callB {b : Bl} {es : Es} : (evF ct cst L A hd (n + 1)).e (.callB b es) σ h = ((evF ct cst L A hd n).es es σ h).bind fun ds h1 => ofO (bltG A.gd b ds h1) := rfl
theorem x_call {k : Nat} {es : Es} : (evF ct cst L A hd (n + 1)).e (.call k es) σ h = ((evF ct cst L A hd n).es es σ h).bind fun ds h1 => L.call k ds h1 := rfl
theorem x_lst {es : Es} : (evF ct cst L A hd (n + 1)).e (.lst es) σ h = ((evF ct cst L A hd n).es es σ h).bind fun ds h1 => if ds.length ≤ 1000000 then .ok (.ref h1.length) (h1 ++ [.lst ds]) else .no := rfl
theorem x_ite {c a b : E} : (evF ct cst L A hd (n + 1)).e (.ite c a b) σ h = ((evF ct cst L A hd n).t c σ h).bind fun x h1 => (match x with | .bl true => (evF ct cst L A hd n).e a σ h1 | .bl false => (evF ct cst L A hd n).e b σ h1 | _ => .no) := rfl
theorem x_cmp {op : Cop} {a b : E} : (evF ct cst L A hd (n + 1)).e (.cmp op a b) σ h = ((evF ct cst L A hd n).e a σ h).bind fun x h1 => ((evF ct cst L A hd n).e b σ h1).bind fun y h2 => ofB h2 (cop op x y h2) := rfl
theorem t_cmpE {op : Cop} {a b : E} : (evF ct cst L A hd (n + 1)).t (.cmp op a b) σ h = ((evF ct cst L A hd n).e a σ h).bind fun x h1 => ((evF ct cst L A hd n).e b σ h1).bind fun y h2 => ofB h2 (cop op x y h2) := rfl
theorem t_notE {a : E} : (evF ct cst L A hd (n + 1)).t (.not a) σ h = ((evF ct cst L A hd n).t a σ h).bind fun x h1 => (match x with | .bl b => .ok (.bl !b) h1 | _ => .no) := rfl
theorem t_callE {k : Nat} {es : Es} : (evF ct cst L A hd (n + 1)).t (.call k es) σ h = ((evF ct cst L A hd n).e (.call k es) σ h).bind fun x h1 => ofB h1 (truth h1 x) := rfl
theorem a_nil : (evF ct cst L A hd (n + 1)).es .nil σ h = .ok [] h := rfl
theorem a_cons {e : E} {es : Es} : (evF ct cst L A hd (n + 1)).es (.cons e es) σ h = ((evF ct cst L A hd n).e e σ h).bindL fun x h1 => ((evF ct cst L A hd n).es es σ h1).bindL fun ds h2 => .ok (x :: ds) h2 := rfl
theorem st_asg {g : G} {e : E} : (evF ct cst L A hd (n + 1)).s (.asg g e) σ h = ((evF ct cst L A hd n).e e σ h).bindS σ fun d h1 => (evF ct cst L A hd n).g g d σ h1 := rfl
theorem st_ret {e : E} : (evF ct cst L A hd (n + 1)).s (.ret e) σ h = ((evF ct cst L A hd n).e e σ h).bindS σ fun d h1 => .rt d h1 := rfl
theorem st_iff {c : E} {a b : Ss} : (evF ct cst L A hd (n + 1)).s (.iff c a b) σ h = ((evF ct cst L A hd n).t c σ h).bindS σ fun x h1 => (match x with | .bl true => (evF ct cst L A hd n).ss a σ h1 | .bl false => (evF ct cst L A hd n).ss b σ h1 | _ => .no) := rfl
theorem ss_nilE : (evF ct cst L A hd (n + 1)).ss .nil σ h = .nx σ h := rfl
theorem ss_consE {s : S} {r : Ss} : (evF ct cst L A hd (n + 1)).ss (.cons s r) σ h = ((evF ct cst L A hd n).s s σ h).bind fun σ1 h1 => (evF ct cst L A hd n).ss r σ1 h1 := rfl
theorem g_nmE {i : Nat} {d : D} : (evF ct cst L A hd (n + 1)).g (.nm i) d σ h = .nx (σ.set i (.d d)) h := rfl
theorem g_subE {a b : E} {d : D} : (evF ct cst L A hd (n + 1)).g (.sub a b) d σ h = ((evF ct cst L A hd n).e a σ h).bindS σ fun x h1 => ((evF ct cst L A hd n).e b σ h1).bindS σ fun y h2 => (match x, y with
      | .ref n, .int i => (match h2[n]? with
        | some (.lst xs) => (match ixOf xs.length i with
          | some j => .nx σ (h2.set n (.lst (xs.set j d)))
          | none => .no)
        | _ => .no)
      | _, _ => .no) := rfl
theorem loop_rng {k : Bool} {g : G} {b : Ss} {N : Int} {i : Nat} : (evF ct cst L A hd (n + 1)).loop k g b (.int N) i σ h = if i < N.toNat then (((evF ct cst L A hd n).g g (.int i) σ h).bind fun σ1 h1 => (match (evF ct cst L A hd n).ss b σ1 h1 with
      | .nx σ2 h2 => (evF ct cst L A hd n).loop k g b (.int N) (i + 1) σ2 (cutK k h.length σ2 h2)
      | .ct σ2 h2 => (evF ct cst L A hd n).loop k g b (.int N) (i + 1) σ2 (cutK k h.length σ2 h2)
      | .bk σ2 h2 => .nx σ2 h2
      | q => q)) else .nx σ h := by
  by_cases hi : i < N.toNat
  · rw [if_pos hi]
    show (match (if i < N.toNat then Nxt.item (.int i) else Nxt.stop) with
      | .no => RS.no
      | .stop => .nx σ h
      | .item d => _) = _
    rw [if_pos hi]
    rfl
  · rw [if_neg hi]
    show (match (if i < N.toNat then Nxt.item (.int i) else Nxt.stop) with
      | .no => RS.no
      | .stop => .nx σ h
      | .item d => _) = _
    rw [if_neg hi]
end
theorem cut_len {n0 : Nat} {d : D} {h : Hh} (hl : h.length ≤ n0) : cut n0 d h = h := by
  unfold cut
  split
  · exact List.take_of_length_le hl
  · rfl
theorem log_of {x : Int} {b : Nat} (h0 : 0 < b) (h : x.natAbs < 2 ^ b) : x.natAbs.log2 < b := PySem.Flt.log2_lt_of h0 h
theorem fmod_lt {x m : Int} (h : 0 < m) : 0 ≤ x.fmod m ∧ x.fmod m < m := ⟨Int.fmod_nonneg_of_pos x h, Int.fmod_lt_of_pos x h⟩
theorem ixOf_nat {n : Nat} {i : Int} (h0 : 0 ≤ i) (h : i < n) : ixOf n i = some i.toNat := by
  unfold ixOf
  rw [if_pos h0, if_pos h]
section
variable {ct : CT} {cst : Nat → Option D} {fns : Nat → Option FnI}
theorem lev_call {gd : Bool} {N k : Nat} {f : FnI} {ds : List D} {h : Hh} {σ : Sl} (hf : fns k = some f) (hs : slots f ds = some σ) : (levG ct cst fns gd (N + 1)).call k ds h = fin h.length ((evF ct cst (levG ct cst fns gd N) ⟨fun _ => .no, none, gd⟩ (suite ct cst gd) Fuel).ss f.body σ h) := by
  rw [levG_succ]
  show (match fns k with
    | some f => (match slots f ds with
      | some σ => body ct cst gd (levG ct cst fns gd N) (fun _ => .no) f σ h
      | none => .no)
    | none => .no) = _
  rw [hf]
  show (match slots f ds with
      | some σ => body ct cst gd (levG ct cst fns gd N) (fun _ => .no) f σ h
      | none => .no) = _
  rw [hs]
  unfold body
  with_reducible rfl
end
theorem rb_ok {d : D} {h : Hh} {k : D → Hh → R} : (R.ok d h).bind k = k d h := rfl
theorem rs_ok {d : D} {h : Hh} {σ : Sl} {k : D → Hh → RS} : (R.ok d h).bindS σ k = k d h := rfl
theorem rl_ok {d : D} {h : Hh} {k : D → Hh → RL} : (R.ok d h).bindL k = k d h := rfl
theorem lb_ok {ds : List D} {h : Hh} {k : List D → Hh → R} : (RL.ok ds h).bind k = k ds h := rfl
theorem ll_ok {ds : List D} {h : Hh} {k : List D → Hh → RL} : (RL.ok ds h).bindL k = k ds h := rfl
theorem sb_nx {σ : Sl} {h : Hh} {k : Sl → Hh → RS} : (RS.nx σ h).bind k = k σ h := rfl
theorem sb_rt {d : D} {h : Hh} {k : Sl → Hh → RS} : (RS.rt d h).bind k = .rt d h := rfl
theorem o_some {d : D} {h : Hh} : ofO (some (d, h)) = .ok d h := rfl
theorem ob_some {b : Bool} {h : Hh} : ofB h (some b) = .ok (.bl b) h := rfl
section
variable {o : O} {x y z : D} {rest h : Hh} {i j : Int}
theorem dx0 : dix (.ref 1) (.int 0) (o :: .lst [x, y, z] :: rest) = some x := rfl
theorem dx1 : dix (.ref 1) (.int 1) (o :: .lst [x, y, z] :: rest) = some y := rfl
theorem dx2 : dix (.ref 1) (.int 2) (o :: .lst [x, y, z] :: rest) = some z := rfl
theorem ix30 : ixOf [x, y, z].length 0 = some 0 := rfl
theorem ix32 : ixOf [x, y, z].length 2 = some 2 := rfl
theorem c_gt : cop .gt (.int i) (.int j) h = some (decide (j < i)) := rfl
theorem c_lt : cop .lt (.int i) (.int j) h = some (decide (i < j)) := rfl
theorem l_int {gd : Bool} : bltG gd .int [.int i] h = some (.int i, h) := by cases gd <;> rfl
theorem l_intb {gd b : Bool} : bltG gd .int [.bl b] h = some (.int (if b then 1 else 0), h) := by cases gd <;> rfl
theorem l_abs {gd : Bool} : bltG gd .abs [.int i] h = some (.int (if i < 0 then -i else i), h) := by cases gd <;> rfl
theorem l_max {gd : Bool} : bltG gd .max [.int i, .int j] h = some (.int (if j > i then j else i), h) := by cases gd <;> rfl
theorem l_min {gd : Bool} : bltG gd .min [.int i, .int j] h = some (.int (if j < i then j else i), h) := by cases gd <;> rfl
theorem p_add : bop .add (.int i) (.int j) h = some (.int (i + j), h) := rfl
theorem p_sub : bop .sub (.int i) (.int j) h = some (.int (i - j), h) := rfl
theorem p_mod (hj : j ≠ 0) : bop .mod (.int i) (.int j) h = some (.int (i.fmod j), h) := if_pos hj
theorem p_fdiv (hj : j ≠ 0 ∧ j.natAbs.log2 < 9000) : bop .fdiv (.int i) (.int j) h = some (.int (i.fdiv j), h) := if_pos hj
theorem p_mul (hj : i.natAbs < 2 ^ 1000 ∧ j.natAbs < 2 ^ 1000) : bop .mul (.int i) (.int j) h = some (.int (i * j), h) := if_pos (by
  have a := log_of (b := 1000) (by decide) hj.1
  have b := log_of (b := 1000) (by decide) hj.2
  omega)
theorem f_rt {n0 : Nat} {d : D} : fin n0 (.rt d h) = .ok d (cut n0 d h) := rfl
end
end Mn


set_option Elab.async false
set_option linter.all false
set_option maxRecDepth 100000
set_option maxHeartbeats 0
namespace Law
open PySem Mn
/-- 0: is_whole -/
def b0 : Ss := .cons (.ret (.and (.callB .isi (.cons (.var 0) (.cons (.ty .int) (.nil)))) (.last (.not (.callB .isi (.cons (.var 0) (.cons (.ty .bool) (.nil)))))))) (.nil)
def f0 : FnI := ⟨1, 1, false, [], false, b0⟩
/-- 1: is_short -/
def b1 : Ss := .cons (.ret (.and (.call 0 (.cons (.var 0) (.nil))) (.last (.chain .lt .lt (.neg (.gc 0)) (.var 0) (.gc 0))))) (.nil)
def f1 : FnI := ⟨1, 1, false, [], false, b1⟩
/-- 2: is_from -/
def b2 : Ss := .cons (.ret (.and (.call 0 (.cons (.var 0) (.nil))) (.last (.chain .le .le (.var 1) (.var 0) (.var 2))))) (.nil)
def f2 : FnI := ⟨3, 3, false, [], false, b2⟩
/-- 3: require_from -/
def b3 : Ss := .cons (.iff (.not (.call 2 (.cons (.var 0) (.cons (.var 1) (.cons (.var 2) (.nil)))))) (.cons (.raise 3 (.cons (.var 0) (.nil))) (.nil)) (.nil)) (.nil)
def f3 : FnI := ⟨3, 3, false, [], false, b3⟩
/-- 4: lowest_of -/
def b4 : Ss := .cons (.asg (.nm 2) (.ite (.cmp .gt (.var 1) (.int 0)) (.callB .gcd (.cons (.var 0) (.cons (.var 1) (.nil)))) (.neg (.callB .gcd (.cons (.var 0) (.cons (.var 1) (.nil))))))) (.cons (.ret (.tup (.cons (.bin .fdiv (.var 0) (.var 2)) (.cons (.bin .fdiv (.var 1) (.var 2)) (.nil))))) (.nil))
def f4 : FnI := ⟨2, 3, false, [], false, b4⟩
/-- 5: fraction_of -/
def b5 : Ss := .cons (.ret (.ite (.callB .isi (.cons (.var 0) (.cons (.ty .tuple) (.nil)))) (.var 0) (.tup (.cons (.var 0) (.cons (.int 1) (.nil)))))) (.nil)
def f5 : FnI := ⟨1, 1, false, [], false, b5⟩
/-- 6: plus_of -/
def b6 : Ss := .cons (.ret (.call 4 (.cons (.bin .add (.bin .mul (.ix (.var 0) (.int 0)) (.ix (.var 1) (.int 1))) (.bin .mul (.ix (.var 1) (.int 0)) (.ix (.var 0) (.int 1)))) (.cons (.bin .mul (.ix (.var 0) (.int 1)) (.ix (.var 1) (.int 1))) (.nil))))) (.nil)
def f6 : FnI := ⟨2, 2, false, [], false, b6⟩
/-- 7: minus_of -/
def b7 : Ss := .cons (.ret (.call 4 (.cons (.bin .sub (.bin .mul (.ix (.var 0) (.int 0)) (.ix (.var 1) (.int 1))) (.bin .mul (.ix (.var 1) (.int 0)) (.ix (.var 0) (.int 1)))) (.cons (.bin .mul (.ix (.var 0) (.int 1)) (.ix (.var 1) (.int 1))) (.nil))))) (.nil)
def f7 : FnI := ⟨2, 2, false, [], false, b7⟩
/-- 8: times_of -/
def b8 : Ss := .cons (.ret (.call 4 (.cons (.bin .mul (.ix (.var 0) (.int 0)) (.ix (.var 1) (.int 0))) (.cons (.bin .mul (.ix (.var 0) (.int 1)) (.ix (.var 1) (.int 1))) (.nil))))) (.nil)
def f8 : FnI := ⟨2, 2, false, [], false, b8⟩
/-- 9: over_of -/
def b9 : Ss := .cons (.ret (.call 4 (.cons (.bin .mul (.ix (.var 0) (.int 0)) (.ix (.var 1) (.int 1))) (.cons (.bin .mul (.ix (.var 0) (.int 1)) (.ix (.var 1) (.int 0))) (.nil))))) (.nil)
def f9 : FnI := ⟨2, 2, false, [], false, b9⟩
/-- 10: order_in -/
def b10 : Ss := .cons (.iff (.cmp .eq (.var 1) (.int 0)) (.cons (.ret (.non)) (.nil)) (.nil)) (.cons (.par [2, 3] (.cons (.int 0) (.cons (.var 1) (.nil)))) (.cons (.while (.cmp .eq (.bin .mod (.var 3) (.var 0)) (.int 0)) (.cons (.aug 3 .fdiv (.var 0)) (.cons (.aug 2 .add (.int 1)) (.nil)))) (.cons (.ret (.var 2)) (.nil))))
def f10 : FnI := ⟨2, 4, false, [], false, b10⟩
/-- 11: order_of_fraction -/
def b11 : Ss := .cons (.ret (.ite (.cmp .eq (.ix (.var 1) (.int 0)) (.int 0)) (.non) (.bin .sub (.call 10 (.cons (.var 0) (.cons (.ix (.var 1) (.int 0)) (.nil)))) (.call 10 (.cons (.var 0) (.cons (.ix (.var 1) (.int 1)) (.nil))))))) (.nil)
def f11 : FnI := ⟨2, 2, false, [], false, b11⟩
/-- 12: power_of -/
def b12 : Ss := .cons (.par [2, 3, 4] (.cons (.int 1) (.cons (.var 0) (.cons (.var 1) (.nil))))) (.cons (.while (.cmp .gt (.var 4) (.int 0)) (.cons (.iff (.cmp .eq (.bin .mod (.var 4) (.int 2)) (.int 1)) (.cons (.aug 2 .mul (.var 3)) (.nil)) (.nil)) (.cons (.aug 3 .mul (.var 3)) (.cons (.aug 4 .fdiv (.int 2)) (.nil))))) (.cons (.ret (.var 2)) (.nil)))
def f12 : FnI := ⟨2, 5, false, [], false, b12⟩
/-- 13: inverse_of -/
def b13 : Ss := .cons (.asg (.tup (.cons (.nm 2) (.cons (.nm 3) (.cons (.nm 4) (.cons (.nm 5) (.nil)))))) (.tup (.cons (.var 1) (.cons (.bin .mod (.var 0) (.var 1)) (.cons (.int 0) (.cons (.int 1) (.nil))))))) (.cons (.while (.cmp .gt (.var 3) (.int 0)) (.cons (.asg (.nm 6) (.bin .fdiv (.var 2) (.var 3))) (.cons (.par [2, 3] (.cons (.var 3) (.cons (.bin .sub (.var 2) (.bin .mul (.var 6) (.var 3))) (.nil)))) (.cons (.par [4, 5] (.cons (.var 5) (.cons (.bin .sub (.var 4) (.bin .mul (.var 6) (.var 5))) (.nil)))) (.nil))))) (.cons (.ret (.bin .mod (.var 4) (.var 1))) (.nil)))
def f13 : FnI := ⟨2, 7, false, [], false, b13⟩
/-- 14: unit_in -/
def b14 : Ss := .cons (.asg (.nm 2) (.lc (.bin .fdiv (.var 3) (.call 12 (.cons (.var 0) (.cons (.call 10 (.cons (.var 0) (.cons (.var 3) (.nil)))) (.nil))))) (.nm 3) (.seq (.var 1)) [3])) (.cons (.ret (.tup (.cons (.ix (.var 2) (.int 0)) (.cons (.ix (.var 2) (.int 1)) (.nil))))) (.nil))
def f14 : FnI := ⟨2, 4, false, [], false, b14⟩
/-- 15: rest_in -/
def b15 : Ss := .cons (.asg (.nm 3) (.call 12 (.cons (.var 0) (.cons (.var 2) (.nil))))) (.cons (.ret (.bin .mod (.bin .mul (.ix (.var 1) (.int 0)) (.call 13 (.cons (.ix (.var 1) (.int 1)) (.cons (.var 3) (.nil))))) (.var 3))) (.nil))
def f15 : FnI := ⟨3, 4, false, [], false, b15⟩
/-- 16: sign_in -/
def b16 : Ss := .cons (.ret (.ite (.cmp .eq (.bin .mod (.call 12 (.cons (.call 15 (.cons (.var 0) (.cons (.var 1) (.cons (.int 1) (.nil))))) (.cons (.bin .fdiv (.bin .sub (.var 0) (.int 1)) (.int 2)) (.nil)))) (.var 0)) (.int 1)) (.int 1) (.neg (.int 1)))) (.nil)
def f16 : FnI := ⟨2, 2, false, [], false, b16⟩
/-- 17: is_fraction_any -/
def b17 : Ss := .cons (.iff (.or (.not (.callB .isi (.cons (.var 0) (.cons (.ty .tuple) (.nil))))) (.or (.cmp .ne (.callB .len (.cons (.var 0) (.nil))) (.gc 3)) (.last (.not (.callB .all (.cons (.lc (.call 0 (.cons (.var 1) (.nil))) (.nm 1) (.seq (.var 0)) [1]) (.nil))))))) (.cons (.ret (.bl false)) (.nil)) (.nil)) (.cons (.ret (.and (.cmp .gt (.ix (.var 0) (.int 1)) (.int 0)) (.last (.cmp .eq (.callB .gcd (.cons (.ix (.var 0) (.int 0)) (.cons (.ix (.var 0) (.int 1)) (.nil)))) (.int 1))))) (.nil))
def f17 : FnI := ⟨1, 2, false, [], false, b17⟩
/-- 18: is_number_any -/
def b18 : Ss := .cons (.ret (.or (.call 0 (.cons (.var 0) (.nil))) (.last (.call 17 (.cons (.var 0) (.nil)))))) (.nil)
def f18 : FnI := ⟨1, 1, false, [], false, b18⟩
/-- 19: is_short_number -/
def b19 : Ss := .cons (.ret (.or (.call 1 (.cons (.var 0) (.nil))) (.last (.and (.call 17 (.cons (.var 0) (.nil))) (.last (.callB .all (.cons (.lc (.call 1 (.cons (.var 1) (.nil))) (.nm 1) (.seq (.var 0)) [1]) (.nil)))))))) (.nil)
def f19 : FnI := ⟨1, 2, false, [], false, b19⟩
/-- 20: require_prime -/
def b20 : Ss := .cons (.iff (.or (.not (.call 2 (.cons (.var 0) (.cons (.ix (.gc 1) (.int 0)) (.cons (.ix (.gc 1) (.neg (.int 1))) (.nil)))))) (.last (.cmp .notIn (.var 0) (.gc 1)))) (.cons (.raise 3 (.cons (.var 0) (.nil))) (.nil)) (.nil)) (.nil)
def f20 : FnI := ⟨1, 1, false, [], false, b20⟩
/-- 21: require_odd_prime -/
def b21 : Ss := .cons (.expr (.call 20 (.cons (.var 0) (.nil)))) (.cons (.iff (.cmp .eq (.var 0) (.gc 4)) (.cons (.raise 3 (.cons (.var 0) (.nil))) (.nil)) (.nil)) (.nil))
def f21 : FnI := ⟨1, 1, false, [], false, b21⟩
/-- 22: require_numbers -/
def b22 : Ss := .cons (.iff (.not (.callB .all (.cons (.lc (.call 19 (.cons (.var 1) (.nil))) (.nm 1) (.seq (.var 0)) [1]) (.nil)))) (.cons (.raise 1 (.cons (.str (st [97, 110, 32, 105, 110, 116, 101, 103, 101, 114, 32, 111, 114, 32, 97, 32, 102, 114, 97, 99, 116, 105, 111, 110, 32, 105, 115, 32, 101, 120, 112, 101, 99, 116, 101, 100])) (.nil))) (.nil)) (.nil)) (.nil)
def f22 : FnI := ⟨1, 2, true, [], false, b22⟩
/-- 23: is_fraction -/
def b23 : Ss := .cons (.ret (.call 17 (.cons (.var 0) (.nil)))) (.nil)
def f23 : FnI := ⟨1, 1, false, [], false, b23⟩
/-- 24: is_number -/
def b24 : Ss := .cons (.ret (.call 18 (.cons (.var 0) (.nil)))) (.nil)
def f24 : FnI := ⟨1, 1, false, [], false, b24⟩
/-- 25: lowest -/
def b25 : Ss := .cons (.for false (.nm 2) (.seq (.tup (.cons (.var 0) (.cons (.var 1) (.nil))))) (.cons (.iff (.not (.call 1 (.cons (.var 2) (.nil)))) (.cons (.raise 3 (.cons (.var 2) (.nil))) (.nil)) (.nil)) (.nil))) (.cons (.iff (.cmp .eq (.var 1) (.int 0)) (.cons (.raise 3 (.cons (.var 1) (.nil))) (.nil)) (.nil)) (.cons (.ret (.call 4 (.cons (.var 0) (.cons (.var 1) (.nil))))) (.nil)))
def f25 : FnI := ⟨2, 3, false, [], false, b25⟩
/-- 26: plus -/
def b26 : Ss := .cons (.expr (.call 22 (.cons (.var 0) (.cons (.var 1) (.nil))))) (.cons (.ret (.call 6 (.cons (.call 5 (.cons (.var 0) (.nil))) (.cons (.call 5 (.cons (.var 1) (.nil))) (.nil))))) (.nil))
def f26 : FnI := ⟨2, 2, false, [], false, b26⟩
/-- 27: minus -/
def b27 : Ss := .cons (.expr (.call 22 (.cons (.var 0) (.cons (.var 1) (.nil))))) (.cons (.ret (.call 7 (.cons (.call 5 (.cons (.var 0) (.nil))) (.cons (.call 5 (.cons (.var 1) (.nil))) (.nil))))) (.nil))
def f27 : FnI := ⟨2, 2, false, [], false, b27⟩
/-- 28: times -/
def b28 : Ss := .cons (.expr (.call 22 (.cons (.var 0) (.cons (.var 1) (.nil))))) (.cons (.ret (.call 8 (.cons (.call 5 (.cons (.var 0) (.nil))) (.cons (.call 5 (.cons (.var 1) (.nil))) (.nil))))) (.nil))
def f28 : FnI := ⟨2, 2, false, [], false, b28⟩
/-- 29: over -/
def b29 : Ss := .cons (.expr (.call 22 (.cons (.var 0) (.cons (.var 1) (.nil))))) (.cons (.iff (.cmp .eq (.ix (.call 5 (.cons (.var 1) (.nil))) (.int 0)) (.int 0)) (.cons (.raise 2 (.cons (.str (st [97, 32, 110, 117, 109, 98, 101, 114, 32, 111, 116, 104, 101, 114, 32, 116, 104, 97, 110, 32, 48, 32, 105, 115, 32, 101, 120, 112, 101, 99, 116, 101, 100])) (.nil))) (.nil)) (.nil)) (.cons (.ret (.call 9 (.cons (.call 5 (.cons (.var 0) (.nil))) (.cons (.call 5 (.cons (.var 1) (.nil))) (.nil))))) (.nil)))
def f29 : FnI := ⟨2, 2, false, [], false, b29⟩
/-- 30: order_of -/
def b30 : Ss := .cons (.expr (.call 20 (.cons (.var 0) (.nil)))) (.cons (.expr (.call 22 (.cons (.var 1) (.nil)))) (.cons (.ret (.call 11 (.cons (.var 0) (.cons (.call 5 (.cons (.var 1) (.nil))) (.nil))))) (.nil)))
def f30 : FnI := ⟨2, 2, false, [], false, b30⟩
/-- 31: unit_of -/
def b31 : Ss := .cons (.expr (.call 20 (.cons (.var 0) (.nil)))) (.cons (.expr (.call 22 (.cons (.var 1) (.nil)))) (.cons (.iff (.cmp .eq (.ix (.call 5 (.cons (.var 1) (.nil))) (.int 0)) (.int 0)) (.cons (.raise 2 (.cons (.str (st [97, 32, 110, 117, 109, 98, 101, 114, 32, 111, 116, 104, 101, 114, 32, 116, 104, 97, 110, 32, 48, 32, 105, 115, 32, 101, 120, 112, 101, 99, 116, 101, 100])) (.nil))) (.nil)) (.nil)) (.cons (.ret (.call 14 (.cons (.var 0) (.cons (.call 5 (.cons (.var 1) (.nil))) (.nil))))) (.nil))))
def f31 : FnI := ⟨2, 2, false, [], false, b31⟩
/-- 32: rest_of -/
def b32 : Ss := .cons (.expr (.call 20 (.cons (.var 0) (.nil)))) (.cons (.expr (.call 22 (.cons (.var 1) (.nil)))) (.cons (.expr (.call 3 (.cons (.var 2) (.cons (.int 0) (.cons (.gc 2) (.nil)))))) (.cons (.asg (.nm 3) (.call 5 (.cons (.var 1) (.nil)))) (.cons (.iff (.cmp .eq (.bin .mod (.ix (.var 3) (.int 1)) (.var 0)) (.int 0)) (.cons (.raise 2 (.cons (.str (st [97, 32, 110, 117, 109, 98, 101, 114, 32, 119, 104, 111, 115, 101, 32, 111, 114, 100, 101, 114, 32, 105, 115, 32, 110, 111, 116, 32, 98, 101, 108, 111, 119, 32, 48, 32, 105, 115, 32, 101, 120, 112, 101, 99, 116, 101, 100])) (.nil))) (.nil)) (.nil)) (.cons (.ret (.call 15 (.cons (.var 0) (.cons (.var 3) (.cons (.var 2) (.nil)))))) (.nil))))))
def f32 : FnI := ⟨3, 4, false, [], false, b32⟩
/-- 33: square_sign -/
def b33 : Ss := .cons (.expr (.call 21 (.cons (.var 0) (.nil)))) (.cons (.expr (.call 22 (.cons (.var 1) (.nil)))) (.cons (.iff (.cmp .ne (.call 11 (.cons (.var 0) (.cons (.call 5 (.cons (.var 1) (.nil))) (.nil)))) (.int 0)) (.cons (.raise 2 (.cons (.str (st [97, 32, 117, 110, 105, 116, 32, 105, 115, 32, 101, 120, 112, 101, 99, 116, 101, 100])) (.nil))) (.nil)) (.nil)) (.cons (.ret (.call 16 (.cons (.var 0) (.cons (.call 5 (.cons (.var 1) (.nil))) (.nil))))) (.nil))))
def f33 : FnI := ⟨2, 2, false, [], false, b33⟩
/-- 34: _law_dice -/
def b34 : Ss := .cons (.asg (.nm 2) (.ite (.cmp .lt (.var 1) (.callB .len (.cons (.var 0) (.nil)))) (.callB .int (.cons (.ix (.var 0) (.var 1)) (.nil))) (.bin .add (.bin .mul (.int 97) (.var 1)) (.int 59)))) (.cons (.asg (.nm 3) (.bin .mod (.callB .max (.cons (.int 0) (.cons (.bin .sub (.callB .abs (.cons (.var 2) (.nil))) (.bin .pow (.int 10) (.int 17))) (.nil)))) (.bin .mul (.bin .pow (.int 10) (.int 56)) (.bin .pow (.int 10) (.int 60))))) (.cons (.ret (.lst (.cons (.var 3) (.cons (.bin .add (.bin .add (.bin .add (.bin .mul (.bin .mod (.callB .abs (.cons (.var 2) (.nil))) (.int 1152921504606846863)) (.int 73)) (.bin .mul (.int 1013) (.var 1))) (.bin .mul (.int 47) (.callB .int (.cons (.cmp .lt (.var 2) (.int 0)) (.nil))))) (.int 37)) (.cons (.int 0) (.nil)))))) (.nil)))
def f34 : FnI := ⟨2, 4, false, [], false, b34⟩
/-- 35: _law_roll -/
def b35 : Ss := .cons (.iff (.cmp .gt (.ix (.var 0) (.int 0)) (.int 0)) (.cons (.asg (.nm 2) (.bin .mod (.callB .int (.cons (.ix (.var 0) (.int 0)) (.nil))) (.var 1))) (.cons (.asg (.sub (.var 0) (.int 0)) (.bin .fdiv (.ix (.var 0) (.int 0)) (.var 1))) (.cons (.ret (.var 2)) (.nil)))) (.nil)) (.cons (.asg (.sub (.var 0) (.int 2)) (.bin .add (.ix (.var 0) (.int 2)) (.int 1))) (.cons (.asg (.nm 3) (.bin .mod (.callB .int (.cons (.bin .add (.ix (.var 0) (.int 1)) (.bin .mul (.int 32452843) (.ix (.var 0) (.int 2)))) (.nil))) (.int 2305843009213693613))) (.cons (.asg (.nm 4) (.bin .add (.bin .mul (.bin .mod (.callB .int (.cons (.bin .add (.bin .mul (.var 3) (.var 3)) (.bin .mul (.int 109) (.ix (.var 0) (.int 2)))) (.nil))) (.int 2305843009213693381)) (.int 5915587)) (.var 3))) (.cons (.ret (.bin .mod (.callB .int (.cons (.bin .fdiv (.var 4) (.int 65557)) (.nil))) (.var 1))) (.nil)))))
def f35 : FnI := ⟨2, 5, false, [], false, b35⟩
/-- 36: _law_pick -/
def b36 : Ss := .cons (.ret (.ix (.var 1) (.call 35 (.cons (.var 0) (.cons (.callB .len (.cons (.var 1) (.nil))) (.nil)))))) (.nil)
def f36 : FnI := ⟨2, 2, false, [], false, b36⟩
/-- 37: _law_met -/
def b37 : Ss := .cons (.try (.cons (.expr (.thk 0)) (.nil)) (.cons 1 none (.cons (.ret (.tup (.cons (.str (st [114, 101, 102, 117, 115, 101, 100])) (.cons (.str (st [102, 114, 97, 99, 116, 105, 111, 110])) (.nil))))) (.nil)) (.cons 2 none (.cons (.ret (.tup (.cons (.str (st [114, 101, 102, 117, 115, 101, 100])) (.cons (.str (st [111, 112, 101, 114, 97, 116, 105, 111, 110])) (.nil))))) (.nil)) (.cons 3 (some 1) (.cons (.ret (.tup (.cons (.str (st [114, 101, 102, 117, 115, 101, 100])) (.cons (.bin .add (.str (st [110, 117, 109, 98, 101, 114, 32])) (.callB .repr (.cons (.xattr 1 (st [103, 105, 118, 101, 110])) (.nil)))) (.nil))))) (.nil)) (.nil))))) (.cons (.ret (.tup (.cons (.str (st [102, 105, 110, 101])) (.cons (.str (st [])) (.nil))))) (.nil))
def f37 : FnI := ⟨1, 2, false, [], true, b37⟩
/-- 38: _law_right -/
def b38 : Ss := .cons (.asg (.nm 1) (.call 36 (.cons (.var 0) (.cons (.lst (.cons (.non) (.cons (.int 0) (.cons (.int 1) (.cons (.int 4) (.cons (.int 9) (.cons (.int 17) (.cons (.neg (.int 3)) (.cons (.bl true) (.cons (.str (st [51])) (.cons (.tup (.cons (.int 3) (.nil))) (.cons (.tup (.cons (.int 3) (.cons (.int 1) (.nil)))) (.cons (.lst (.cons (.int 3) (.nil))) (.cons (.bin .pow (.int 10) (.int 60)) (.cons (.dnew) (.nil)))))))))))))))) (.nil))))) (.cons (.asg (.nm 2) (.call 36 (.cons (.var 0) (.cons (.lst (.cons (.non) (.cons (.tup (.cons (.int 2) (.cons (.int 4) (.nil)))) (.cons (.tup (.cons (.int 1) (.cons (.int 0) (.nil)))) (.cons (.tup (.cons (.int 1) (.cons (.neg (.int 1)) (.nil)))) (.cons (.tup (.cons (.int 0) (.cons (.int 2) (.nil)))) (.cons (.lst (.cons (.int 1) (.cons (.int 2) (.nil)))) (.cons (.str (st [49])) (.cons (.tup (.cons (.int 1) (.nil))) (.cons (.bl true) (.cons (.tup (.cons (.bl true) (.cons (.int 2) (.nil)))) (.cons (.tup (.cons (.bin .pow (.int 10) (.int 60)) (.cons (.int 1) (.nil)))) (.cons (.bin .pow (.int 10) (.int 60)) (.cons (.dnew) (.nil))))))))))))))) (.nil))))) (.cons (.asg (.nm 3) (.call 36 (.cons (.var 0) (.cons (.lst (.cons (.non) (.cons (.neg (.int 1)) (.cons (.int 201) (.cons (.bl true) (.cons (.str (st [49])) (.cons (.tup (.cons (.int 1) (.nil))) (.cons (.lst (.cons (.int 2) (.nil))) (.cons (.bin .pow (.int 10) (.int 60)) (.nil)))))))))) (.nil))))) (.cons (.asg (.tup (.cons (.nm 4) (.cons (.nm 5) (.nil)))) (.tup (.cons (.call 36 (.cons (.var 0) (.cons (.lst (.cons (.non) (.cons (.bl true) (.cons (.str (st [49])) (.cons (.bin .pow (.int 10) (.int 60)) (.cons (.tup (.cons (.int 1) (.cons (.int 1) (.nil)))) (.cons (.lst (.cons (.int 1) (.nil))) (.nil)))))))) (.nil)))) (.cons (.call 36 (.cons (.var 0) (.cons (.lst (.cons (.non) (.cons (.bl false) (.cons (.int 0) (.cons (.str (st [50])) (.cons (.bin .pow (.int 10) (.int 60)) (.cons (.tup (.cons (.int 2) (.cons (.int 1) (.nil)))) (.nil)))))))) (.nil)))) (.nil))))) (.cons (.asg (.tup (.cons (.nm 6) (.cons (.nm 7) (.nil)))) (.tup (.cons (.call 36 (.cons (.var 0) (.cons (.lst (.cons (.int 3) (.cons (.int 5) (.cons (.int 7) (.cons (.int 11) (.cons (.int 13) (.nil))))))) (.nil)))) (.cons (.lst (.nil)) (.nil))))) (.cons (.for false (.nm 8) (.seq (.tup (.cons (.gv 26) (.cons (.gv 27) (.cons (.gv 28) (.cons (.gv 29) (.nil))))))) (.cons (.expr (.meth (.var 7) .append (.cons (.callT 37 (.callV 8 (.cons (.var 2) (.cons (.var 2) (.nil))))) (.nil)))) (.cons (.expr (.meth (.var 7) .append (.cons (.callT 37 (.callV 8 (.cons (.tup (.cons (.int 1) (.cons (.int 2) (.nil)))) (.cons (.var 2) (.nil))))) (.nil)))) (.nil)))) (.cons (.for false (.nm 8) (.seq (.tup (.cons (.gv 30) (.cons (.gv 31) (.cons (.gv 33) (.nil)))))) (.cons (.expr (.meth (.var 7) .append (.cons (.callT 37 (.callV 8 (.cons (.var 6) (.cons (.var 2) (.nil))))) (.nil)))) (.nil))) (.cons (.expr (.meth (.var 7) .append (.cons (.callT 37 (.call 32 (.cons (.var 6) (.cons (.var 2) (.cons (.var 3) (.nil)))))) (.nil)))) (.cons (.iff (.or (.cmp .ne (.var 7) (.bin .mul (.lst (.cons (.tup (.cons (.str (st [114, 101, 102, 117, 115, 101, 100])) (.cons (.str (st [102, 114, 97, 99, 116, 105, 111, 110])) (.nil)))) (.nil))) (.int 12))) (.or (.call 23 (.cons (.lst (.cons (.int 1) (.cons (.int 2) (.nil)))) (.nil))) (.last (.call 24 (.cons (.str (st [49])) (.nil)))))) (.cons (.ret (.bl false)) (.nil)) (.nil)) (.cons (.asg (.nm 7) (.lst (.nil))) (.cons (.for false (.nm 8) (.seq (.tup (.cons (.gv 30) (.cons (.gv 31) (.cons (.gv 33) (.nil)))))) (.cons (.expr (.meth (.var 7) .append (.cons (.callT 37 (.callV 8 (.cons (.var 1) (.cons (.var 2) (.nil))))) (.nil)))) (.nil))) (.cons (.expr (.meth (.var 7) .append (.cons (.callT 37 (.call 32 (.cons (.var 1) (.cons (.var 2) (.cons (.var 3) (.nil)))))) (.nil)))) (.cons (.iff (.cmp .ne (.var 7) (.bin .mul (.lst (.cons (.tup (.cons (.str (st [114, 101, 102, 117, 115, 101, 100])) (.cons (.bin .add (.str (st [110, 117, 109, 98, 101, 114, 32])) (.callB .repr (.cons (.var 1) (.nil)))) (.nil)))) (.nil))) (.int 4))) (.cons (.ret (.bl false)) (.nil)) (.nil)) (.cons (.asg (.nm 7) (.lst (.cons (.callT 37 (.call 32 (.cons (.var 6) (.cons (.tup (.cons (.int 1) (.cons (.var 6) (.nil)))) (.cons (.var 3) (.nil)))))) (.nil)))) (.cons (.expr (.meth (.var 7) .append (.cons (.callT 37 (.call 32 (.cons (.var 6) (.cons (.int 5) (.cons (.var 3) (.nil)))))) (.nil)))) (.cons (.expr (.meth (.var 7) .append (.cons (.callT 37 (.call 25 (.cons (.var 4) (.cons (.var 5) (.nil))))) (.nil)))) (.cons (.expr (.meth (.var 7) .append (.cons (.callT 37 (.call 25 (.cons (.int 5) (.cons (.var 5) (.nil))))) (.nil)))) (.cons (.expr (.meth (.var 7) .append (.cons (.callT 37 (.call 33 (.cons (.int 2) (.cons (.var 2) (.nil))))) (.nil)))) (.cons (.asg (.nm 9) (.lc (.bin .add (.str (st [110, 117, 109, 98, 101, 114, 32])) (.callB .repr (.cons (.var 10) (.nil)))) (.nm 10) (.seq (.tup (.cons (.var 3) (.cons (.var 3) (.cons (.var 4) (.cons (.var 5) (.cons (.int 2) (.nil)))))))) [10])) (.cons (.expr (.meth (.var 7) .append (.cons (.callT 37 (.call 32 (.cons (.var 6) (.cons (.tup (.cons (.int 1) (.cons (.var 6) (.nil)))) (.cons (.int 3) (.nil)))))) (.nil)))) (.cons (.expr (.meth (.var 7) .append (.cons (.callT 37 (.call 32 (.cons (.var 6) (.cons (.tup (.cons (.int 2) (.cons (.bin .mul (.var 6) (.var 6)) (.nil)))) (.cons (.int 0) (.nil)))))) (.nil)))) (.cons (.expr (.meth (.var 7) .append (.cons (.callT 37 (.call 31 (.cons (.var 6) (.cons (.int 0) (.nil))))) (.nil)))) (.cons (.expr (.meth (.var 7) .append (.cons (.callT 37 (.call 33 (.cons (.var 6) (.cons (.var 6) (.nil))))) (.nil)))) (.cons (.expr (.meth (.var 7) .append (.cons (.callT 37 (.call 33 (.cons (.var 6) (.cons (.tup (.cons (.int 1) (.cons (.var 6) (.nil)))) (.nil))))) (.nil)))) (.cons (.expr (.meth (.var 7) .append (.cons (.callT 37 (.call 33 (.cons (.var 6) (.cons (.tup (.cons (.int 0) (.cons (.int 1) (.nil)))) (.nil))))) (.nil)))) (.cons (.expr (.meth (.var 7) .append (.cons (.callT 37 (.call 29 (.cons (.tup (.cons (.int 1) (.cons (.int 2) (.nil)))) (.cons (.tup (.cons (.int 0) (.cons (.int 1) (.nil)))) (.nil))))) (.nil)))) (.cons (.ret (.cmp .eq (.var 7) (.lc (.tup (.cons (.str (st [114, 101, 102, 117, 115, 101, 100])) (.cons (.var 10) (.nil)))) (.nm 10) (.seq (.bin .add (.var 9) (.bin .mul (.lst (.cons (.str (st [111, 112, 101, 114, 97, 116, 105, 111, 110])) (.nil))) (.int 7)))) [10]))) (.nil)))))))))))))))))))))))))))
def f38 : FnI := ⟨1, 11, false, [], false, b38⟩
/-- 39: law -/
def b39 : Ss := .cons (.for true (.nm 1) (.rng (.callB .max (.cons (.int 1) (.cons (.callB .min (.cons (.int 4) (.cons (.callB .len (.cons (.var 0) (.nil))) (.nil)))) (.nil))))) (.cons (.iff (.not (.call 38 (.cons (.call 34 (.cons (.var 0) (.cons (.var 1) (.nil)))) (.nil)))) (.cons (.ret (.bl false)) (.nil)) (.nil)) (.nil))) (.cons (.asg (.nm 2) (.lst (.cons (.callT 37 (.call 30 (.cons (.int 2) (.cons (.bin .sub (.bin .pow (.int 10) (.int 60)) (.int 1)) (.nil))))) (.nil)))) (.cons (.expr (.meth (.var 2) .append (.cons (.callT 37 (.call 32 (.cons (.int 13) (.cons (.tup (.cons (.bin .sub (.int 1) (.bin .pow (.int 10) (.int 60))) (.cons (.bin .sub (.bin .pow (.int 10) (.int 60)) (.int 3)) (.nil)))) (.cons (.int 200) (.nil)))))) (.nil)))) (.cons (.expr (.meth (.var 2) .append (.cons (.callT 37 (.call 32 (.cons (.int 2) (.cons (.tup (.cons (.int 1) (.cons (.int 3) (.nil)))) (.cons (.int 200) (.nil)))))) (.nil)))) (.cons (.expr (.meth (.var 2) .append (.cons (.callT 37 (.call 30 (.cons (.int 11) (.cons (.int 0) (.nil))))) (.nil)))) (.cons (.expr (.meth (.var 2) .append (.cons (.callT 37 (.call 25 (.cons (.int 0) (.cons (.bin .sub (.int 1) (.bin .pow (.int 10) (.int 60))) (.nil))))) (.nil)))) (.cons (.ret (.and (.cmp .eq (.var 2) (.bin .mul (.lst (.cons (.tup (.cons (.str (st [102, 105, 110, 101])) (.cons (.str (st [])) (.nil)))) (.nil))) (.int 5))) (.last (.cmp .eq (.gc 1) (.tup (.cons (.int 2) (.cons (.int 3) (.cons (.int 5) (.cons (.int 7) (.cons (.int 11) (.cons (.int 13) (.nil)))))))))))) (.nil)))))))
def f39 : FnI := ⟨1, 3, false, [], false, b39⟩
def fl : List FnI := [f0, f1, f2, f3, f4, f5, f6, f7, f8, f9, f10, f11, f12, f13, f14, f15, f16, f17, f18, f19, f20, f21, f22, f23, f24, f25, f26, f27, f28, f29, f30, f31, f32, f33, f34, f35, f36, f37, f38, f39]
def fns (k : Nat) : Option FnI := fl[k]?
def cl : List D := [.int 1000000000000000000000000000000000000000000000000000000000000, .tup [.int 2, .int 3, .int 5, .int 7, .int 11, .int 13], .int 200, .int 2, .int 2]
def cst (k : Nat) : Option D := cl[k]?
def subs : List (List Nat) := [[0], [0, 1], [0, 2], [3]]
def top (i : Nat) : Stmt := PySem.Challenge.pw_deepcounts_k02_errors_of_numbers.main.body.getD i (.Pass ⟨0, 0, 0, 0⟩)
def d0 : Dq := ⟨"is_whole", L2.defArgs (top 8), L2.defBody (top 8), L2.defScope (top 8), ["value"], ["value"], none, none, false⟩
def d1 : Dq := ⟨"is_short", L2.defArgs (top 9), L2.defBody (top 9), L2.defScope (top 9), ["value"], ["value"], none, none, false⟩
def d2 : Dq := ⟨"is_from", L2.defArgs (top 10), L2.defBody (top 10), L2.defScope (top 10), ["value", "least", "most"], ["value", "least", "most"], none, none, false⟩
def d3 : Dq := ⟨"require_from", L2.defArgs (top 11), L2.defBody (top 11), L2.defScope (top 11), ["value", "least", "most"], ["value", "least", "most"], none, none, false⟩
def d4 : Dq := ⟨"lowest_of", L2.defArgs (top 17), L2.defBody (top 17), L2.defScope (top 17), ["top", "bottom", "shared"], ["top", "bottom"], none, none, false⟩
def d5 : Dq := ⟨"fraction_of", L2.defArgs (top 18), L2.defBody (top 18), L2.defScope (top 18), ["number"], ["number"], none, none, false⟩
def d6 : Dq := ⟨"plus_of", L2.defArgs (top 19), L2.defBody (top 19), L2.defScope (top 19), ["one", "other"], ["one", "other"], none, none, false⟩
def d7 : Dq := ⟨"minus_of", L2.defArgs (top 20), L2.defBody (top 20), L2.defScope (top 20), ["one", "other"], ["one", "other"], none, none, false⟩
def d8 : Dq := ⟨"times_of", L2.defArgs (top 21), L2.defBody (top 21), L2.defScope (top 21), ["one", "other"], ["one", "other"], none, none, false⟩
def d9 : Dq := ⟨"over_of", L2.defArgs (top 22), L2.defBody (top 22), L2.defScope (top 22), ["one", "other"], ["one", "other"], none, none, false⟩
def d10 : Dq := ⟨"order_in", L2.defArgs (top 23), L2.defBody (top 23), L2.defScope (top 23), ["prime", "whole", "found", "left"], ["prime", "whole"], none, none, false⟩
def d11 : Dq := ⟨"order_of_fraction", L2.defArgs (top 24), L2.defBody (top 24), L2.defScope (top 24), ["prime", "fraction"], ["prime", "fraction"], none, none, false⟩
def d12 : Dq := ⟨"power_of", L2.defArgs (top 25), L2.defBody (top 25), L2.defScope (top 25), ["number", "many", "found", "square", "left"], ["number", "many"], none, none, false⟩
def d13 : Dq := ⟨"inverse_of", L2.defArgs (top 26), L2.defBody (top 26), L2.defScope (top 26), ["number", "whole", "old", "new", "first", "second", "times"], ["number", "whole"], none, none, false⟩
def d14 : Dq := ⟨"unit_in", L2.defArgs (top 27), L2.defBody (top 27), L2.defScope (top 27), ["prime", "fraction", "parts", "entry"], ["prime", "fraction"], none, none, false⟩
def d15 : Dq := ⟨"rest_in", L2.defArgs (top 28), L2.defBody (top 28), L2.defScope (top 28), ["prime", "fraction", "depth", "whole"], ["prime", "fraction", "depth"], none, none, false⟩
def d16 : Dq := ⟨"sign_in", L2.defArgs (top 29), L2.defBody (top 29), L2.defScope (top 29), ["prime", "fraction"], ["prime", "fraction"], none, none, false⟩
def d17 : Dq := ⟨"is_fraction_any", L2.defArgs (top 30), L2.defBody (top 30), L2.defScope (top 30), ["value", "entry"], ["value"], none, none, false⟩
def d18 : Dq := ⟨"is_number_any", L2.defArgs (top 31), L2.defBody (top 31), L2.defScope (top 31), ["value"], ["value"], none, none, false⟩
def d19 : Dq := ⟨"is_short_number", L2.defArgs (top 32), L2.defBody (top 32), L2.defScope (top 32), ["value", "entry"], ["value"], none, none, false⟩
def d20 : Dq := ⟨"require_prime", L2.defArgs (top 33), L2.defBody (top 33), L2.defScope (top 33), ["value"], ["value"], none, none, false⟩
def d21 : Dq := ⟨"require_odd_prime", L2.defArgs (top 34), L2.defBody (top 34), L2.defScope (top 34), ["value"], ["value"], none, none, false⟩
def d22 : Dq := ⟨"require_numbers", L2.defArgs (top 35), L2.defBody (top 35), L2.defScope (top 35), ["values", "value"], [], some "values", none, false⟩
def d23 : Dq := ⟨"is_fraction", L2.defArgs (top 36), L2.defBody (top 36), L2.defScope (top 36), ["value"], ["value"], none, none, false⟩
def d24 : Dq := ⟨"is_number", L2.defArgs (top 37), L2.defBody (top 37), L2.defScope (top 37), ["value"], ["value"], none, none, false⟩
def d25 : Dq := ⟨"lowest", L2.defArgs (top 38), L2.defBody (top 38), L2.defScope (top 38), ["top", "bottom", "value"], ["top", "bottom"], none, none, false⟩
def d26 : Dq := ⟨"plus", L2.defArgs (top 39), L2.defBody (top 39), L2.defScope (top 39), ["one", "other"], ["one", "other"], none, none, false⟩
def d27 : Dq := ⟨"minus", L2.defArgs (top 40), L2.defBody (top 40), L2.defScope (top 40), ["one", "other"], ["one", "other"], none, none, false⟩
def d28 : Dq := ⟨"times", L2.defArgs (top 41), L2.defBody (top 41), L2.defScope (top 41), ["one", "other"], ["one", "other"], none, none, false⟩
def d29 : Dq := ⟨"over", L2.defArgs (top 42), L2.defBody (top 42), L2.defScope (top 42), ["one", "other"], ["one", "other"], none, none, false⟩
def d30 : Dq := ⟨"order_of", L2.defArgs (top 43), L2.defBody (top 43), L2.defScope (top 43), ["prime", "number"], ["prime", "number"], none, none, false⟩
def d31 : Dq := ⟨"unit_of", L2.defArgs (top 44), L2.defBody (top 44), L2.defScope (top 44), ["prime", "number"], ["prime", "number"], none, none, false⟩
def d32 : Dq := ⟨"rest_of", L2.defArgs (top 45), L2.defBody (top 45), L2.defScope (top 45), ["prime", "number", "depth", "fraction"], ["prime", "number", "depth"], none, none, false⟩
def d33 : Dq := ⟨"square_sign", L2.defArgs (top 46), L2.defBody (top 46), L2.defScope (top 46), ["prime", "number"], ["prime", "number"], none, none, false⟩
def d34 : Dq := ⟨"_law_dice", L2.defArgs (top 48), L2.defBody (top 48), L2.defScope (top 48), ["script", "spot", "cell", "left"], ["script", "spot"], none, none, false⟩
def d35 : Dq := ⟨"_law_roll", L2.defArgs (top 49), L2.defBody (top 49), L2.defScope (top 49), ["dice", "total", "found", "one", "two"], ["dice", "total"], none, none, false⟩
def d36 : Dq := ⟨"_law_pick", L2.defArgs (top 50), L2.defBody (top 50), L2.defScope (top 50), ["dice", "items"], ["dice", "items"], none, none, false⟩
def d37 : Dq := ⟨"_law_met", L2.defArgs (top 51), L2.defBody (top 51), L2.defScope (top 51), ["call", "error"], ["call"], none, some "call", false⟩
def d38 : Dq := ⟨"_law_right", L2.defArgs (top 52), L2.defBody (top 52), L2.defScope (top 52), ["dice", "odd", "none", "far", "bad", "low", "prime", "told", "call", "due", "one"], ["dice"], none, none, true⟩
def d39 : Dq := ⟨"law", L2.defArgs (top 53), L2.defBody (top 53), L2.defScope (top 53), ["script", "spot", "told"], ["script"], none, none, true⟩
def dql0 : List Dq := [d0, d1, d2, d3, d4, d5, d6, d7, d8, d9, d10, d11, d12, d13, d14, d15]
def dql1 : List Dq := [d16, d17, d18, d19, d20, d21, d22, d23, d24, d25, d26, d27, d28, d29, d30, d31]
def dql2 : List Dq := [d32, d33, d34, d35, d36, d37, d38, d39]
def dql : List Dq := dql0 ++ dql1 ++ dql2
def fnm0 : List Str := ["is_whole", "is_short", "is_from", "require_from", "lowest_of", "fraction_of", "plus_of", "minus_of", "times_of", "over_of", "order_in", "order_of_fraction", "power_of", "inverse_of", "unit_in", "rest_in"]
def fnm1 : List Str := ["sign_in", "is_fraction_any", "is_number_any", "is_short_number", "require_prime", "require_odd_prime", "require_numbers", "is_fraction", "is_number", "lowest", "plus", "minus", "times", "over", "order_of", "unit_of"]
def fnm2 : List Str := ["rest_of", "square_sign", "_law_dice", "_law_roll", "_law_pick", "_law_met", "_law_right", "law"]
def fnm : List Str := fnm0 ++ fnm1 ++ fnm2
def cnm0 : List Str := ["GREATEST", "PRIMES", "MOST_DEPTH", "PAIR_SIZE", "EVEN_PRIME"]
def cnm : List Str := cnm0
def knm0 : List Str := ["DepthError", "InvalidFraction", "InvalidOperation", "InvalidNumber"]
def knm : List Str := knm0
def free0 : List Str := ["len", "all", "any", "abs", "max", "min", "int", "repr", "isinstance", "range", "bool", "str", "tuple", "list", "dict"]
def free : List Str := free0
def cks : List Ck := [⟨"DepthError", .ve, none⟩, ⟨"InvalidFraction", .ve, none⟩, ⟨"InvalidOperation", .ve, none⟩, ⟨"InvalidNumber", .ie, some "given"⟩]
def cs : Cs := ⟨fnm, cnm, knm, free, true⟩
def lw : Lw := ⟨cs, ctOf subs cks, cl, fl, dql, cks⟩
theorem bn0 : BdN d0 := fun _ kV doc pm an cdv ct us hl => match us, hl with | [_], _ => rfl
theorem bs0 : BdS d0 := fun pv h => by cases h
theorem bn1 : BdN d1 := fun _ kV doc pm an cdv ct us hl => match us, hl with | [_], _ => rfl
theorem bs1 : BdS d1 := fun pv h => by cases h
theorem bn2 : BdN d2 := fun _ kV doc pm an cdv ct us hl => match us, hl with | [_, _, _], _ => rfl
theorem bs2 : BdS d2 := fun pv h => by cases h
theorem bn3 : BdN d3 := fun _ kV doc pm an cdv ct us hl => match us, hl with | [_, _, _], _ => rfl
theorem bs3 : BdS d3 := fun pv h => by cases h
theorem bn4 : BdN d4 := fun _ kV doc pm an cdv ct us hl => match us, hl with | [_, _], _ => rfl
theorem bs4 : BdS d4 := fun pv h => by cases h
theorem bn5 : BdN d5 := fun _ kV doc pm an cdv ct us hl => match us, hl with | [_], _ => rfl
theorem bs5 : BdS d5 := fun pv h => by cases h
theorem bn6 : BdN d6 := fun _ kV doc pm an cdv ct us hl => match us, hl with | [_, _], _ => rfl
theorem bs6 : BdS d6 := fun pv h => by cases h
theorem bn7 : BdN d7 := fun _ kV doc pm an cdv ct us hl => match us, hl with | [_, _], _ => rfl
theorem bs7 : BdS d7 := fun pv h => by cases h
theorem bn8 : BdN d8 := fun _ kV doc pm an cdv ct us hl => match us, hl with | [_, _], _ => rfl
theorem bs8 : BdS d8 := fun pv h => by cases h
theorem bn9 : BdN d9 := fun _ kV doc pm an cdv ct us hl => match us, hl with | [_, _], _ => rfl
theorem bs9 : BdS d9 := fun pv h => by cases h
theorem bn10 : BdN d10 := fun _ kV doc pm an cdv ct us hl => match us, hl with | [_, _], _ => rfl
theorem bs10 : BdS d10 := fun pv h => by cases h
theorem bn11 : BdN d11 := fun _ kV doc pm an cdv ct us hl => match us, hl with | [_, _], _ => rfl
theorem bs11 : BdS d11 := fun pv h => by cases h
theorem bn12 : BdN d12 := fun _ kV doc pm an cdv ct us hl => match us, hl with | [_, _], _ => rfl
theorem bs12 : BdS d12 := fun pv h => by cases h
theorem bn13 : BdN d13 := fun _ kV doc pm an cdv ct us hl => match us, hl with | [_, _], _ => rfl
theorem bs13 : BdS d13 := fun pv h => by cases h
theorem bn14 : BdN d14 := fun _ kV doc pm an cdv ct us hl => match us, hl with | [_, _], _ => rfl
theorem bs14 : BdS d14 := fun pv h => by cases h
theorem bn15 : BdN d15 := fun _ kV doc pm an cdv ct us hl => match us, hl with | [_, _, _], _ => rfl
theorem bs15 : BdS d15 := fun pv h => by cases h
theorem bn16 : BdN d16 := fun _ kV doc pm an cdv ct us hl => match us, hl with | [_, _], _ => rfl
theorem bs16 : BdS d16 := fun pv h => by cases h
theorem bn17 : BdN d17 := fun _ kV doc pm an cdv ct us hl => match us, hl with | [_], _ => rfl
theorem bs17 : BdS d17 := fun pv h => by cases h
theorem bn18 : BdN d18 := fun _ kV doc pm an cdv ct us hl => match us, hl with | [_], _ => rfl
theorem bs18 : BdS d18 := fun pv h => by cases h
theorem bn19 : BdN d19 := fun _ kV doc pm an cdv ct us hl => match us, hl with | [_], _ => rfl
theorem bs19 : BdS d19 := fun pv h => by cases h
theorem bn20 : BdN d20 := fun _ kV doc pm an cdv ct us hl => match us, hl with | [_], _ => rfl
theorem bs20 : BdS d20 := fun pv h => by cases h
theorem bn21 : BdN d21 := fun _ kV doc pm an cdv ct us hl => match us, hl with | [_], _ => rfl
theorem bs21 : BdS d21 := fun pv h => by cases h
theorem bn22 : BdN d22 := fun h => by cases h
theorem bs22 : BdS d22 := fun pv h kV doc pm an cdv ct us rest hl => by
  cases h
  match us, rest, hl with
  | [], [], _ => rfl
  | [], _ :: _, _ => rfl
theorem bn23 : BdN d23 := fun _ kV doc pm an cdv ct us hl => match us, hl with | [_], _ => rfl
theorem bs23 : BdS d23 := fun pv h => by cases h
theorem bn24 : BdN d24 := fun _ kV doc pm an cdv ct us hl => match us, hl with | [_], _ => rfl
theorem bs24 : BdS d24 := fun pv h => by cases h
theorem bn25 : BdN d25 := fun _ kV doc pm an cdv ct us hl => match us, hl with | [_, _], _ => rfl
theorem bs25 : BdS d25 := fun pv h => by cases h
theorem bn26 : BdN d26 := fun _ kV doc pm an cdv ct us hl => match us, hl with | [_, _], _ => rfl
theorem bs26 : BdS d26 := fun pv h => by cases h
theorem bn27 : BdN d27 := fun _ kV doc pm an cdv ct us hl => match us, hl with | [_, _], _ => rfl
theorem bs27 : BdS d27 := fun pv h => by cases h
theorem bn28 : BdN d28 := fun _ kV doc pm an cdv ct us hl => match us, hl with | [_, _], _ => rfl
theorem bs28 : BdS d28 := fun pv h => by cases h
theorem bn29 : BdN d29 := fun _ kV doc pm an cdv ct us hl => match us, hl with | [_, _], _ => rfl
theorem bs29 : BdS d29 := fun pv h => by cases h
theorem bn30 : BdN d30 := fun _ kV doc pm an cdv ct us hl => match us, hl with | [_, _], _ => rfl
theorem bs30 : BdS d30 := fun pv h => by cases h
theorem bn31 : BdN d31 := fun _ kV doc pm an cdv ct us hl => match us, hl with | [_, _], _ => rfl
theorem bs31 : BdS d31 := fun pv h => by cases h
theorem bn32 : BdN d32 := fun _ kV doc pm an cdv ct us hl => match us, hl with | [_, _, _], _ => rfl
theorem bs32 : BdS d32 := fun pv h => by cases h
theorem bn33 : BdN d33 := fun _ kV doc pm an cdv ct us hl => match us, hl with | [_, _], _ => rfl
theorem bs33 : BdS d33 := fun pv h => by cases h
theorem bn34 : BdN d34 := fun _ kV doc pm an cdv ct us hl => match us, hl with | [_, _], _ => rfl
theorem bs34 : BdS d34 := fun pv h => by cases h
theorem bn35 : BdN d35 := fun _ kV doc pm an cdv ct us hl => match us, hl with | [_, _], _ => rfl
theorem bs35 : BdS d35 := fun pv h => by cases h
theorem bn36 : BdN d36 := fun _ kV doc pm an cdv ct us hl => match us, hl with | [_, _], _ => rfl
theorem bs36 : BdS d36 := fun pv h => by cases h
theorem bn37 : BdN d37 := fun _ kV doc pm an cdv ct us hl => match us, hl with | [_], _ => rfl
theorem bs37 : BdS d37 := fun pv h => by cases h
theorem bn38 : BdN d38 := fun _ kV doc pm an cdv ct us hl => match us, hl with | [_], _ => rfl
theorem bs38 : BdS d38 := fun pv h => by cases h
theorem bn39 : BdN d39 := fun _ kV doc pm an cdv ct us hl => match us, hl with | [_], _ => rfl
theorem bs39 : BdS d39 := fun pv h => by cases h
theorem bnA : ∀ d ∈ dql, BdN d := allC bn0 (allC bn1 (allC bn2 (allC bn3 (allC bn4 (allC bn5 (allC bn6 (allC bn7 (allC bn8 (allC bn9 (allC bn10 (allC bn11 (allC bn12 (allC bn13 (allC bn14 (allC bn15 (allC bn16 (allC bn17 (allC bn18 (allC bn19 (allC bn20 (allC bn21 (allC bn22 (allC bn23 (allC bn24 (allC bn25 (allC bn26 (allC bn27 (allC bn28 (allC bn29 (allC bn30 (allC bn31 (allC bn32 (allC bn33 (allC bn34 (allC bn35 (allC bn36 (allC bn37 (allC bn38 (allC bn39 (fun _ h => nomatch h))))))))))))))))))))))))))))))))))))))))
theorem bsA : ∀ d ∈ dql, BdS d := allC bs0 (allC bs1 (allC bs2 (allC bs3 (allC bs4 (allC bs5 (allC bs6 (allC bs7 (allC bs8 (allC bs9 (allC bs10 (allC bs11 (allC bs12 (allC bs13 (allC bs14 (allC bs15 (allC bs16 (allC bs17 (allC bs18 (allC bs19 (allC bs20 (allC bs21 (allC bs22 (allC bs23 (allC bs24 (allC bs25 (allC bs26 (allC bs27 (allC bs28 (allC bs29 (allC bs30 (allC bs31 (allC bs32 (allC bs33 (allC bs34 (allC bs35 (allC bs36 (allC bs37 (allC bs38 (allC bs39 (fun _ h => nomatch h))))))))))))))))))))))))))))))))))))))))
theorem zipA : zipOk cs fl dql = true := by kernel_rfl
theorem ok : LwOk lw where
  fnm := by kernel_rfl
  knm := by kernel_rfl
  ctn := rfl
  ctf := ctOf_f
  ctg := ctOf_g
  zip := zipA
  nms := by kernel_rfl
  pos := by decide +kernel
  bnd := fun d hd => bnA d hd
  bns := fun d hd => bsA d hd
end Law


set_option Elab.async false
set_option linter.all false
set_option maxRecDepth 100000
set_option maxHeartbeats 0
namespace Law
open PySem Mn
def names0 : List PySem.Str := ["DepthError", "InvalidFraction", "InvalidOperation", "InvalidNumber", "GREATEST", "is_whole", "is_short", "is_from", "require_from", "PRIMES", "MOST_DEPTH", "PAIR_SIZE", "EVEN_PRIME", "lowest_of", "fraction_of", "plus_of"]
def names1 : List PySem.Str := ["minus_of", "times_of", "over_of", "order_in", "order_of_fraction", "power_of", "inverse_of", "unit_in", "rest_in", "sign_in", "is_fraction_any", "is_number_any", "is_short_number", "require_prime", "require_odd_prime", "require_numbers"]
def names2 : List PySem.Str := ["is_fraction", "is_number", "lowest", "plus", "minus", "times", "over", "order_of", "unit_of", "rest_of", "square_sign", "_law_dice", "_law_roll", "_law_pick", "_law_met", "_law_right"]
def names : List PySem.Str := names0 ++ names1 ++ names2
abbrev R : PySem.W.OpenRow := PySem.W.OpenLaw.row PySem.Challenge.rw_deepcounts_k02_errors_of_numbers
theorem run (w : World) : HandSHeadRun.RunEqI R (PySem.W.view R.prog [0, 53]) (lw.hook PySem.Challenge.pw_deepcounts_k02_errors_of_numbers) (lw.ob PySem.Challenge.pw_deepcounts_k02_errors_of_numbers) 20000 names w := by
  unfold HandSHeadRun.RunEqI
  kernel_rfl
end Law


set_option Elab.async false
set_option linter.all false
set_option maxRecDepth 100000
set_option maxHeartbeats 4000000
namespace Law
open PySem Mn
abbrev LV (gd : Bool) (n : Nat) : Lv := levG lw.ct lw.cst lw.fns gd n
theorem fu : Fuel = 19960 + 40 := by decide +kernel
theorem big {x m : Int} (h : 0 < m) (hm : m < 2 ^ 62) : (x.fmod m).natAbs < 2 ^ 1000 := by
  obtain ⟨h1, h2⟩ := fmod_lt (x := x) h
  have h3 : (x.fmod m).natAbs < 2 ^ 62 := by
    have : (2 : Int) ^ 62 = 4611686018427387904 := by decide
    have : (2 : Nat) ^ 62 = 4611686018427387904 := by decide
    omega
  exact Nat.lt_of_lt_of_le h3 (Nat.pow_le_pow_right (by decide) (by decide))
theorem small {x : Int} (h : x.natAbs < 4611686018427387904) : x.natAbs < 2 ^ 1000 := by
  have h2 : (2 : Nat) ^ 62 = 4611686018427387904 := by decide
  exact Nat.lt_of_lt_of_le (h2 ▸ h) (Nat.pow_le_pow_right (by decide) (by decide))
theorem roll {R : List D} {a b c : Int} {rest : Hh} {m : Int} {N : Nat} (hm : 0 < m) (hm2 : m < 1000) (hc : 0 ≤ c ∧ c < 1000) : ∃ j a' c', 0 ≤ j ∧ j < m ∧ c ≤ c' ∧ c' ≤ c + 1 ∧
    (LV true (N + 1)).call 35 [.ref 1, .int m] (.rol R :: .lst [.int a, .int b, .int c] :: rest) = .ok (.int j) (.rol R :: .lst [.int a', .int b, .int c'] :: rest) := by
  have lm : m ≠ 0 ∧ m.natAbs.log2 < 9000 := ⟨by omega, Nat.lt_of_lt_of_le (log_of (b := 10) (by decide) (by omega)) (by decide)⟩
  have hm0 : m ≠ 0 := lm.1
  have lq : (65557 : Int) ≠ 0 ∧ (65557 : Int).natAbs.log2 < 9000 := by decide +kernel
  rw [lev_call (f := f35) (σ := [.d (.ref 1), .d (.int m), .no, .no, .no]) rfl rfl, fu]
  show ∃ j a' c', 0 ≤ j ∧ j < m ∧ c ≤ c' ∧ c' ≤ c + 1 ∧ fin _ ((evF _ _ _ _ _ (19960 + 40)).ss b35 _ _) = _
  by_cases ha : 0 < a
  · obtain ⟨k1, k2⟩ := fmod_lt (x := a) hm
    refine ⟨a.fmod m, a.fdiv m, c, k1, k2, by omega, by omega, ?_⟩
    have hd : decide (0 < a) = true := decide_eq_true ha
    unfold b35
    simp only [ss_consE, st_iff, st_asg, st_ret, g_nmE, g_subE, t_cmpE, x_ix, x_var, x_int, x_bin, x_callB, a_cons, a_nil, rb_ok, rs_ok, rl_ok, lb_ok, ll_ok, sb_nx, sb_rt, o_some, ob_some, List.getElem?_cons_zero, List.getElem?_cons_succ, List.set_cons_zero, List.set_cons_succ, dx0, dx1, dx2, ix30, ix32, c_gt, l_int, hd, p_mod hm0, p_fdiv lm, p_add, f_rt]
    rw [cut_len (by simp)]
  · obtain ⟨one, e1⟩ : ∃ x, x = (b + 32452843 * (c + 1)).fmod 2305843009213693613 := ⟨_, rfl⟩
    obtain ⟨two, e2⟩ : ∃ x, x = (one * one + 109 * (c + 1)).fmod 2305843009213693381 * 5915587 + one := ⟨_, rfl⟩
    obtain ⟨k1, k2⟩ := fmod_lt (x := two.fdiv 65557) hm
    refine ⟨(two.fdiv 65557).fmod m, a, c + 1, k1, k2, by omega, by omega, ?_⟩
    have hd : decide (0 < a) = false := decide_eq_false ha
    have hc1 : (32452843 : Int).natAbs < 2 ^ 1000 ∧ (c + 1).natAbs < 2 ^ 1000 := ⟨small (by decide), small (by omega)⟩
    have hc2 : (109 : Int).natAbs < 2 ^ 1000 ∧ (c + 1).natAbs < 2 ^ 1000 := ⟨small (by decide), small (by omega)⟩
    have hc3 : ∀ x : Int, (x.fmod 2305843009213693613).natAbs < 2 ^ 1000 ∧ (x.fmod 2305843009213693613).natAbs < 2 ^ 1000 := fun x => ⟨big (by decide) (by decide), big (by decide) (by decide)⟩
    have hc4 : ∀ x : Int, (x.fmod 2305843009213693381).natAbs < 2 ^ 1000 ∧ (5915587 : Int).natAbs < 2 ^ 1000 := fun x => ⟨big (by decide) (by decide), small (by decide)⟩
    unfold b35
    simp only [ss_consE, ss_nilE, st_iff, st_asg, st_ret, g_nmE, g_subE, t_cmpE, x_ix, x_var, x_int, x_bin, x_callB, a_cons, a_nil, rb_ok, rs_ok, rl_ok, lb_ok, ll_ok, sb_nx, sb_rt, o_some, ob_some, List.getElem?_cons_zero, List.getElem?_cons_succ, List.set_cons_zero, List.set_cons_succ, dx0, dx1, dx2, ix30, ix32, c_gt, l_int, hd, p_mod hm0, p_mod (show (2305843009213693613 : Int) ≠ 0 by decide), p_mod (show (2305843009213693381 : Int) ≠ 0 by decide), p_fdiv lm, p_fdiv lq, p_add, p_mul hc1, p_mul hc2, p_mul (hc3 _), p_mul (hc4 _), f_rt]
    rw [cut_len (by simp), e2, e1]
theorem pick {R items : List D} {a b c : Int} {rest : Hh} {k N : Nat} (hk : rest[k]? = some (.lst items)) (h0 : 0 < items.length) (h1 : items.length < 1000) (hc : 0 ≤ c ∧ c < 1000) : ∃ d a' c', d ∈ items ∧ c ≤ c' ∧ c' ≤ c + 1 ∧
    (LV true (N + 2)).call 36 [.ref 1, .ref (k + 2)] (.rol R :: .lst [.int a, .int b, .int c] :: rest) = .ok d (.rol R :: .lst [.int a', .int b, .int c'] :: rest) := by
  obtain ⟨j, a', c', j0, j1, k1, k2, e⟩ := roll (R := R) (a := a) (b := b) (c := c) (rest := rest) (m := (items.length : Int)) (N := N) (by omega) (by omega) hc
  have hj : j.toNat < items.length := by omega
  refine ⟨items[j.toNat], a', c', List.getElem_mem hj, k1, k2, ?_⟩
  have el : bltG true .len [.ref (k + 2)] (.rol R :: .lst [.int a, .int b, .int c] :: rest) = some (.int (items.length : Int), .rol R :: .lst [.int a, .int b, .int c] :: rest) := by
    show (seqOf (.rol R :: .lst [.int a, .int b, .int c] :: rest) (.ref (k + 2))).map _ = _
    have : seqOf (.rol R :: .lst [.int a, .int b, .int c] :: rest) (.ref (k + 2)) = some items := by
      show (match (O.rol R :: O.lst [.int a, .int b, .int c] :: rest)[k + 2]? with
        | some (.lst xs) => some xs
        | some (.rol xs) => some xs
        | _ => none) = _
      rw [List.getElem?_cons_succ, List.getElem?_cons_succ, hk]
    rw [this]
    rfl
  have ed : dix (.ref (k + 2)) (.int j) (.rol R :: .lst [.int a', .int b, .int c'] :: rest) = some items[j.toNat] := by
    have : seqOf (.rol R :: .lst [.int a', .int b, .int c'] :: rest) (.ref (k + 2)) = some items := by
      show (match (O.rol R :: O.lst [.int a', .int b, .int c'] :: rest)[k + 2]? with
        | some (.lst xs) => some xs
        | some (.rol xs) => some xs
        | _ => none) = _
      rw [List.getElem?_cons_succ, List.getElem?_cons_succ, hk]
    show (match seqOf (.rol R :: .lst [.int a', .int b, .int c'] :: rest) (.ref (k + 2)), D.int j with
      | some xs, .int i => (ixOf xs.length i).bind (xs[·]?)
      | _, _ => none) = _
    rw [this]
    show (ixOf items.length j).bind (items[·]?) = _
    rw [ixOf_nat j0 j1]
    exact List.getElem?_eq_getElem hj
  rw [lev_call (f := f36) (σ := [.d (.ref 1), .d (.ref (k + 2))]) rfl rfl, fu]
  show fin _ ((evF _ _ _ _ _ (19960 + 40)).ss b36 _ _) = _
  unfold b36
  simp only [ss_consE, ss_nilE, st_ret, x_ix, x_call, x_var, x_int, x_callB, a_cons, a_nil, rb_ok, rs_ok, rl_ok, lb_ok, ll_ok, sb_nx, sb_rt, o_some, List.getElem?_cons_zero, List.getElem?_cons_succ, el, e, ed, f_rt]
  rw [cut_len (by simp)]
theorem if3 {x y z : D} {a b : Mn.R} : (if [x, y, z].length ≤ 1000000 then a else b) = a := if_pos (by simp)
theorem pow17 {h : Hh} : bop .pow (.int 10) (.int 17) h = some (.int (10 ^ 17), h) := by kernel_rfl
theorem pow56 {h : Hh} : bop .pow (.int 10) (.int 56) h = some (.int (10 ^ 56), h) := by kernel_rfl
theorem pow60 {h : Hh} : bop .pow (.int 10) (.int 60) h = some (.int (10 ^ 60), h) := by kernel_rfl
theorem mulP {h : Hh} : bop .mul (.int (10 ^ 56)) (.int (10 ^ 60)) h = some (.int (10 ^ 56 * 10 ^ 60), h) := by kernel_rfl
def ab (z : Int) : Int := if z < 0 then -z else z
def dX (z : Int) : Int := (if ab z - 10 ^ 17 > 0 then ab z - 10 ^ 17 else 0).fmod (10 ^ 56 * 10 ^ 60)
def dY (z : Int) (k : Nat) : Int := (ab z).fmod 1152921504606846863 * 73 + 1013 * (k : Int) + 47 * (if decide (z < 0) = true then 1 else 0) + 37
theorem dice {ns : List Int} {k N : Nat} (hk : k < 1000) : ∃ a b, (LV true (N + 1)).call 34 [.ref 0, .int k] [.rol (ns.map D.int)] = .ok (.ref 1) [.rol (ns.map D.int), .lst [.int a, .int b, .int 0]] := by
  rw [lev_call (f := f34) (σ := [.d (.ref 0), .d (.int k), .no, .no]) rfl rfl, fu]
  show ∃ a b, fin _ ((evF _ _ _ _ _ (19960 + 40)).ss b34 _ _) = _
  have el : bltG true .len [.ref 0] [.rol (ns.map D.int)] = some (.int (ns.length : Int), [.rol (ns.map D.int)]) := by
    show some (D.int (((ns.map D.int).length : Nat) : Int), _) = _
    rw [List.length_map]
  have hP : (10 ^ 56 * 10 ^ 60 : Int) ≠ 0 := by decide +kernel
  have m1 : ∀ x : Int, (x.fmod 1152921504606846863).natAbs < 2 ^ 1000 ∧ (73 : Int).natAbs < 2 ^ 1000 := fun x => ⟨big (by decide) (by decide), small (by decide)⟩
  have m2 : (1013 : Int).natAbs < 2 ^ 1000 ∧ (k : Int).natAbs < 2 ^ 1000 := ⟨small (by decide), small (by omega)⟩
  have m3 : ∀ b : Bool, (47 : Int).natAbs < 2 ^ 1000 ∧ (if b = true then (1 : Int) else 0).natAbs < 2 ^ 1000 := fun b => ⟨small (by decide), small (by cases b <;> decide)⟩
  have m4 : (97 : Int).natAbs < 2 ^ 1000 ∧ (k : Int).natAbs < 2 ^ 1000 := ⟨small (by decide), small (by omega)⟩
  have fc : ∀ x y : D, cut (List.length [O.rol (ns.map D.int)]) (.ref 1) [.rol (ns.map D.int), .lst [x, y, .int 0]] = [.rol (ns.map D.int), .lst [x, y, .int 0]] := fun x y => rfl
  by_cases hl : (k : Int) < (ns.length : Int)
  · have hd : decide ((k : Int) < (ns.length : Int)) = true := decide_eq_true hl
    have hkn : k < ns.length := by omega
    have ed : dix (.ref 0) (.int k) [.rol (ns.map D.int)] = some (.int ns[k]) := by
      show (ixOf (ns.map D.int).length (k : Int)).bind ((ns.map D.int)[·]?) = _
      rw [ixOf_nat (by omega) (by rw [List.length_map]; exact hl)]
      show (ns.map D.int)[(k : Int).toNat]? = _
      rw [Int.toNat_natCast, List.getElem?_map, List.getElem?_eq_getElem hkn]
      rfl
    refine ⟨dX ns[k], dY ns[k] k, ?_⟩
    unfold b34
    simp only [ss_consE, ss_nilE, st_asg, st_ret, g_nmE, x_ite, t_cmpE, x_cmp, x_ix, x_var, x_int, x_bin, x_callB, x_lst, a_cons, a_nil, rb_ok, rs_ok, rl_ok, lb_ok, ll_ok, sb_nx, sb_rt, o_some, ob_some, List.getElem?_cons_zero, List.getElem?_cons_succ, List.set_cons_zero, List.set_cons_succ, el, c_lt, hd, ed, l_int, l_intb, l_abs, l_max, pow17, pow56, pow60, mulP, p_mod hP, p_mod (show (1152921504606846863 : Int) ≠ 0 by decide), p_add, p_sub, p_mul (m1 _), p_mul m2, p_mul (m3 _), if3, f_rt]
    exact congrArg (R.ok (D.ref 1)) (fc (.int (dX ns[k])) (.int (dY ns[k] k)))
  · have hd : decide ((k : Int) < (ns.length : Int)) = false := decide_eq_false hl
    refine ⟨dX (97 * (k : Int) + 59), dY (97 * (k : Int) + 59) k, ?_⟩
    unfold b34
    simp only [ss_consE, ss_nilE, st_asg, st_ret, g_nmE, x_ite, t_cmpE, x_cmp, x_ix, x_var, x_int, x_bin, x_callB, x_lst, a_cons, a_nil, rb_ok, rs_ok, rl_ok, lb_ok, ll_ok, sb_nx, sb_rt, o_some, ob_some, List.getElem?_cons_zero, List.getElem?_cons_succ, List.set_cons_zero, List.set_cons_succ, el, c_lt, hd, l_int, l_intb, l_abs, l_max, pow17, pow56, pow60, mulP, p_mod hP, p_mod (show (1152921504606846863 : Int) ≠ 0 by decide), p_add, p_sub, p_mul (m1 _), p_mul m2, p_mul (m3 _), p_mul m4, if3, f_rt]
    exact congrArg (R.ok (D.ref 1)) (fc (.int (dX (97 * (k : Int) + 59))) (.int (dY (97 * (k : Int) + 59) k)))
end Law


set_option Elab.async false
set_option linter.all false
set_option maxRecDepth 100000
set_option maxHeartbeats 0
namespace Law
open PySem Mn
def dropS : Nat → Ss → Ss
  | 0, s => s
  | _ + 1, .nil => .nil
  | n + 1, .cons _ r => dropS n r
def takeS : Nat → Ss → Ss
  | 0, _ => .nil
  | _ + 1, .nil => .nil
  | n + 1, .cons s r => .cons s (takeS n r)
def o4 : List D := [.non, .int 0, .int 1, .int 4, .int 9, .int 17, .int (-3), .bl true, .str (st [51]), .tup [.int 3], .tup [.int 3, .int 1], .ref 2, .int (10 ^ 60), .ref 3]
def o7 : List D := [.non, .tup [.int 2, .int 4], .tup [.int 1, .int 0], .tup [.int 1, .int (-1)], .tup [.int 0, .int 2], .ref 5, .str (st [49]), .tup [.int 1], .bl true, .tup [.bl true, .int 2], .tup [.int (10 ^ 60), .int 1], .int (10 ^ 60), .ref 6]
def o9 : List D := [.non, .int (-1), .int 201, .bl true, .str (st [49]), .tup [.int 1], .ref 8, .int (10 ^ 60)]
def o11 : List D := [.non, .bl true, .str (st [49]), .int (10 ^ 60), .tup [.int 1, .int 1], .ref 10]
def o12 : List D := [.non, .bl false, .int 0, .str (st [50]), .int (10 ^ 60), .tup [.int 2, .int 1]]
def o13 : List D := [.int 3, .int 5, .int 7, .int 11, .int 13]
def wR : Str := (st [114, 101, 102, 117, 115, 101, 100])
def tT : D := .tup [.str wR, .str (st [102, 114, 97, 99, 116, 105, 111, 110])]
def tV : D := .tup [.str wR, .str (st [111, 112, 101, 114, 97, 116, 105, 111, 110])]
def tU (x : Str) : D := .tup [.str wR, .str x]
def two : Str := (st [110, 117, 109, 98, 101, 114, 32, 50])
abbrev tl1 : Hh := [.lst [.int 3], .dK [], .lst o4, .lst [.int 1, .int 2], .dK [], .lst o7, .lst [.int 2], .lst o9, .lst [.int 1], .lst o11, .lst o12, .lst o13]
def hh (R : List D) (a b c : Int) (l : List D) (more : Hh) : Hh := .rol R :: .lst [.int a, .int b, .int c] :: (tl1 ++ (.lst l :: more))
def rep (n : Nat) (d : D) : List D := List.replicate n d
def mA : Hh := [.lst [tT], .lst (rep 12 tT), .lst [.int 1, .int 2]]
def mB (x : Str) (l : List D) : Hh := [.lst [tT], .lst (rep 12 tT), .lst [.int 1, .int 2], .lst l]
def mC (x : Str) (l : List D) (more : Hh) : Hh := [.lst [tT], .lst (rep 12 tT), .lst [.int 1, .int 2], .lst (rep 4 (tU x)), .lst [tU x], .lst (rep 4 (tU x)), .lst l] ++ more
def sg (odd none far bad low prime : D) (t : Nat) (call due : SV) : Sl := [.d (.ref 1), .d odd, .d none, .d far, .d bad, .d low, .d prime, .d (.ref t), call, due, .no]
def RUN (n : Nat) (i k : Nat) (σ : Sl) (h : Hh) : RS := (evF lw.ct lw.cst (LV true 10) ⟨fun _ => .no, none, true⟩ (suite lw.ct lw.cst true) (19960 + n)).ss (takeS k (dropS i b38)) σ h
theorem a1_0 (R : List D) (a b c : Int) (odd far bad low prime : D) : RUN 35 5 1 (sg odd (.non) far bad low prime 14 .no .no) (hh R a b c [] []) = .nx (sg odd (.non) far bad low prime 14 (.d (.glo 29)) .no) (hh R a b c (rep 8 tT) []) := by kernel_rfl
theorem a1_1 (R : List D) (a b c : Int) (odd far bad low prime : D) : RUN 35 5 1 (sg odd (.tup [.int 2, .int 4]) far bad low prime 14 .no .no) (hh R a b c [] []) = .nx (sg odd (.tup [.int 2, .int 4]) far bad low prime 14 (.d (.glo 29)) .no) (hh R a b c (rep 8 tT) []) := by kernel_rfl
theorem a1_2 (R : List D) (a b c : Int) (odd far bad low prime : D) : RUN 35 5 1 (sg odd (.tup [.int 1, .int 0]) far bad low prime 14 .no .no) (hh R a b c [] []) = .nx (sg odd (.tup [.int 1, .int 0]) far bad low prime 14 (.d (.glo 29)) .no) (hh R a b c (rep 8 tT) []) := by kernel_rfl
theorem a1_3 (R : List D) (a b c : Int) (odd far bad low prime : D) : RUN 35 5 1 (sg odd (.tup [.int 1, .int (-1)]) far bad low prime 14 .no .no) (hh R a b c [] []) = .nx (sg odd (.tup [.int 1, .int (-1)]) far bad low prime 14 (.d (.glo 29)) .no) (hh R a b c (rep 8 tT) []) := by kernel_rfl
theorem a1_4 (R : List D) (a b c : Int) (odd far bad low prime : D) : RUN 35 5 1 (sg odd (.tup [.int 0, .int 2]) far bad low prime 14 .no .no) (hh R a b c [] []) = .nx (sg odd (.tup [.int 0, .int 2]) far bad low prime 14 (.d (.glo 29)) .no) (hh R a b c (rep 8 tT) []) := by kernel_rfl
theorem a1_5 (R : List D) (a b c : Int) (odd far bad low prime : D) : RUN 35 5 1 (sg odd (.ref 5) far bad low prime 14 .no .no) (hh R a b c [] []) = .nx (sg odd (.ref 5) far bad low prime 14 (.d (.glo 29)) .no) (hh R a b c (rep 8 tT) []) := by kernel_rfl
theorem a1_6 (R : List D) (a b c : Int) (odd far bad low prime : D) : RUN 35 5 1 (sg odd (.str (st [49])) far bad low prime 14 .no .no) (hh R a b c [] []) = .nx (sg odd (.str (st [49])) far bad low prime 14 (.d (.glo 29)) .no) (hh R a b c (rep 8 tT) []) := by kernel_rfl
theorem a1_7 (R : List D) (a b c : Int) (odd far bad low prime : D) : RUN 35 5 1 (sg odd (.tup [.int 1]) far bad low prime 14 .no .no) (hh R a b c [] []) = .nx (sg odd (.tup [.int 1]) far bad low prime 14 (.d (.glo 29)) .no) (hh R a b c (rep 8 tT) []) := by kernel_rfl
theorem a1_8 (R : List D) (a b c : Int) (odd far bad low prime : D) : RUN 35 5 1 (sg odd (.bl true) far bad low prime 14 .no .no) (hh R a b c [] []) = .nx (sg odd (.bl true) far bad low prime 14 (.d (.glo 29)) .no) (hh R a b c (rep 8 tT) []) := by kernel_rfl
theorem a1_9 (R : List D) (a b c : Int) (odd far bad low prime : D) : RUN 35 5 1 (sg odd (.tup [.bl true, .int 2]) far bad low prime 14 .no .no) (hh R a b c [] []) = .nx (sg odd (.tup [.bl true, .int 2]) far bad low prime 14 (.d (.glo 29)) .no) (hh R a b c (rep 8 tT) []) := by kernel_rfl
theorem a1_10 (R : List D) (a b c : Int) (odd far bad low prime : D) : RUN 35 5 1 (sg odd (.tup [.int (10 ^ 60), .int 1]) far bad low prime 14 .no .no) (hh R a b c [] []) = .nx (sg odd (.tup [.int (10 ^ 60), .int 1]) far bad low prime 14 (.d (.glo 29)) .no) (hh R a b c (rep 8 tT) []) := by kernel_rfl
theorem a1_11 (R : List D) (a b c : Int) (odd far bad low prime : D) : RUN 35 5 1 (sg odd (.int (10 ^ 60)) far bad low prime 14 .no .no) (hh R a b c [] []) = .nx (sg odd (.int (10 ^ 60)) far bad low prime 14 (.d (.glo 29)) .no) (hh R a b c (rep 8 tT) []) := by kernel_rfl
theorem a1_12 (R : List D) (a b c : Int) (odd far bad low prime : D) : RUN 35 5 1 (sg odd (.ref 6) far bad low prime 14 .no .no) (hh R a b c [] []) = .nx (sg odd (.ref 6) far bad low prime 14 (.d (.glo 29)) .no) (hh R a b c (rep 8 tT) []) := by kernel_rfl
theorem a2_0_0 (R : List D) (a b c : Int) (odd far bad low : D) : RUN 34 6 2 (sg odd (.non) far bad low (.int 3) 14 (.d (.glo 29)) .no) (hh R a b c (rep 8 tT) []) = .nx (sg odd (.non) far bad low (.int 3) 14 (.d (.glo 33)) .no) (hh R a b c (rep 12 tT) []) := by kernel_rfl
theorem a2_0_1 (R : List D) (a b c : Int) (odd far bad low : D) : RUN 34 6 2 (sg odd (.tup [.int 2, .int 4]) far bad low (.int 3) 14 (.d (.glo 29)) .no) (hh R a b c (rep 8 tT) []) = .nx (sg odd (.tup [.int 2, .int 4]) far bad low (.int 3) 14 (.d (.glo 33)) .no) (hh R a b c (rep 12 tT) []) := by kernel_rfl
theorem a2_0_2 (R : List D) (a b c : Int) (odd far bad low : D) : RUN 34 6 2 (sg odd (.tup [.int 1, .int 0]) far bad low (.int 3) 14 (.d (.glo 29)) .no) (hh R a b c (rep 8 tT) []) = .nx (sg odd (.tup [.int 1, .int 0]) far bad low (.int 3) 14 (.d (.glo 33)) .no) (hh R a b c (rep 12 tT) []) := by kernel_rfl
theorem a2_0_3 (R : List D) (a b c : Int) (odd far bad low : D) : RUN 34 6 2 (sg odd (.tup [.int 1, .int (-1)]) far bad low (.int 3) 14 (.d (.glo 29)) .no) (hh R a b c (rep 8 tT) []) = .nx (sg odd (.tup [.int 1, .int (-1)]) far bad low (.int 3) 14 (.d (.glo 33)) .no) (hh R a b c (rep 12 tT) []) := by kernel_rfl
theorem a2_0_4 (R : List D) (a b c : Int) (odd far bad low : D) : RUN 34 6 2 (sg odd (.tup [.int 0, .int 2]) far bad low (.int 3) 14 (.d (.glo 29)) .no) (hh R a b c (rep 8 tT) []) = .nx (sg odd (.tup [.int 0, .int 2]) far bad low (.int 3) 14 (.d (.glo 33)) .no) (hh R a b c (rep 12 tT) []) := by kernel_rfl
theorem a2_0_5 (R : List D) (a b c : Int) (odd far bad low : D) : RUN 34 6 2 (sg odd (.ref 5) far bad low (.int 3) 14 (.d (.glo 29)) .no) (hh R a b c (rep 8 tT) []) = .nx (sg odd (.ref 5) far bad low (.int 3) 14 (.d (.glo 33)) .no) (hh R a b c (rep 12 tT) []) := by kernel_rfl
theorem a2_0_6 (R : List D) (a b c : Int) (odd far bad low : D) : RUN 34 6 2 (sg odd (.str (st [49])) far bad low (.int 3) 14 (.d (.glo 29)) .no) (hh R a b c (rep 8 tT) []) = .nx (sg odd (.str (st [49])) far bad low (.int 3) 14 (.d (.glo 33)) .no) (hh R a b c (rep 12 tT) []) := by kernel_rfl
theorem a2_0_7 (R : List D) (a b c : Int) (odd far bad low : D) : RUN 34 6 2 (sg odd (.tup [.int 1]) far bad low (.int 3) 14 (.d (.glo 29)) .no) (hh R a b c (rep 8 tT) []) = .nx (sg odd (.tup [.int 1]) far bad low (.int 3) 14 (.d (.glo 33)) .no) (hh R a b c (rep 12 tT) []) := by kernel_rfl
theorem a2_0_8 (R : List D) (a b c : Int) (odd far bad low : D) : RUN 34 6 2 (sg odd (.bl true) far bad low (.int 3) 14 (.d (.glo 29)) .no) (hh R a b c (rep 8 tT) []) = .nx (sg odd (.bl true) far bad low (.int 3) 14 (.d (.glo 33)) .no) (hh R a b c (rep 12 tT) []) := by kernel_rfl
theorem a2_0_9 (R : List D) (a b c : Int) (odd far bad low : D) : RUN 34 6 2 (sg odd (.tup [.bl true, .int 2]) far bad low (.int 3) 14 (.d (.glo 29)) .no) (hh R a b c (rep 8 tT) []) = .nx (sg odd (.tup [.bl true, .int 2]) far bad low (.int 3) 14 (.d (.glo 33)) .no) (hh R a b c (rep 12 tT) []) := by kernel_rfl
theorem a2_0_10 (R : List D) (a b c : Int) (odd far bad low : D) : RUN 34 6 2 (sg odd (.tup [.int (10 ^ 60), .int 1]) far bad low (.int 3) 14 (.d (.glo 29)) .no) (hh R a b c (rep 8 tT) []) = .nx (sg odd (.tup [.int (10 ^ 60), .int 1]) far bad low (.int 3) 14 (.d (.glo 33)) .no) (hh R a b c (rep 12 tT) []) := by kernel_rfl
theorem a2_0_11 (R : List D) (a b c : Int) (odd far bad low : D) : RUN 34 6 2 (sg odd (.int (10 ^ 60)) far bad low (.int 3) 14 (.d (.glo 29)) .no) (hh R a b c (rep 8 tT) []) = .nx (sg odd (.int (10 ^ 60)) far bad low (.int 3) 14 (.d (.glo 33)) .no) (hh R a b c (rep 12 tT) []) := by kernel_rfl
theorem a2_0_12 (R : List D) (a b c : Int) (odd far bad low : D) : RUN 34 6 2 (sg odd (.ref 6) far bad low (.int 3) 14 (.d (.glo 29)) .no) (hh R a b c (rep 8 tT) []) = .nx (sg odd (.ref 6) far bad low (.int 3) 14 (.d (.glo 33)) .no) (hh R a b c (rep 12 tT) []) := by kernel_rfl
theorem a2_1_0 (R : List D) (a b c : Int) (odd far bad low : D) : RUN 34 6 2 (sg odd (.non) far bad low (.int 5) 14 (.d (.glo 29)) .no) (hh R a b c (rep 8 tT) []) = .nx (sg odd (.non) far bad low (.int 5) 14 (.d (.glo 33)) .no) (hh R a b c (rep 12 tT) []) := by kernel_rfl
theorem a2_1_1 (R : List D) (a b c : Int) (odd far bad low : D) : RUN 34 6 2 (sg odd (.tup [.int 2, .int 4]) far bad low (.int 5) 14 (.d (.glo 29)) .no) (hh R a b c (rep 8 tT) []) = .nx (sg odd (.tup [.int 2, .int 4]) far bad low (.int 5) 14 (.d (.glo 33)) .no) (hh R a b c (rep 12 tT) []) := by kernel_rfl
theorem a2_1_2 (R : List D) (a b c : Int) (odd far bad low : D) : RUN 34 6 2 (sg odd (.tup [.int 1, .int 0]) far bad low (.int 5) 14 (.d (.glo 29)) .no) (hh R a b c (rep 8 tT) []) = .nx (sg odd (.tup [.int 1, .int 0]) far bad low (.int 5) 14 (.d (.glo 33)) .no) (hh R a b c (rep 12 tT) []) := by kernel_rfl
theorem a2_1_3 (R : List D) (a b c : Int) (odd far bad low : D) : RUN 34 6 2 (sg odd (.tup [.int 1, .int (-1)]) far bad low (.int 5) 14 (.d (.glo 29)) .no) (hh R a b c (rep 8 tT) []) = .nx (sg odd (.tup [.int 1, .int (-1)]) far bad low (.int 5) 14 (.d (.glo 33)) .no) (hh R a b c (rep 12 tT) []) := by kernel_rfl
theorem a2_1_4 (R : List D) (a b c : Int) (odd far bad low : D) : RUN 34 6 2 (sg odd (.tup [.int 0, .int 2]) far bad low (.int 5) 14 (.d (.glo 29)) .no) (hh R a b c (rep 8 tT) []) = .nx (sg odd (.tup [.int 0, .int 2]) far bad low (.int 5) 14 (.d (.glo 33)) .no) (hh R a b c (rep 12 tT) []) := by kernel_rfl
theorem a2_1_5 (R : List D) (a b c : Int) (odd far bad low : D) : RUN 34 6 2 (sg odd (.ref 5) far bad low (.int 5) 14 (.d (.glo 29)) .no) (hh R a b c (rep 8 tT) []) = .nx (sg odd (.ref 5) far bad low (.int 5) 14 (.d (.glo 33)) .no) (hh R a b c (rep 12 tT) []) := by kernel_rfl
theorem a2_1_6 (R : List D) (a b c : Int) (odd far bad low : D) : RUN 34 6 2 (sg odd (.str (st [49])) far bad low (.int 5) 14 (.d (.glo 29)) .no) (hh R a b c (rep 8 tT) []) = .nx (sg odd (.str (st [49])) far bad low (.int 5) 14 (.d (.glo 33)) .no) (hh R a b c (rep 12 tT) []) := by kernel_rfl
theorem a2_1_7 (R : List D) (a b c : Int) (odd far bad low : D) : RUN 34 6 2 (sg odd (.tup [.int 1]) far bad low (.int 5) 14 (.d (.glo 29)) .no) (hh R a b c (rep 8 tT) []) = .nx (sg odd (.tup [.int 1]) far bad low (.int 5) 14 (.d (.glo 33)) .no) (hh R a b c (rep 12 tT) []) := by kernel_rfl
theorem a2_1_8 (R : List D) (a b c : Int) (odd far bad low : D) : RUN 34 6 2 (sg odd (.bl true) far bad low (.int 5) 14 (.d (.glo 29)) .no) (hh R a b c (rep 8 tT) []) = .nx (sg odd (.bl true) far bad low (.int 5) 14 (.d (.glo 33)) .no) (hh R a b c (rep 12 tT) []) := by kernel_rfl
theorem a2_1_9 (R : List D) (a b c : Int) (odd far bad low : D) : RUN 34 6 2 (sg odd (.tup [.bl true, .int 2]) far bad low (.int 5) 14 (.d (.glo 29)) .no) (hh R a b c (rep 8 tT) []) = .nx (sg odd (.tup [.bl true, .int 2]) far bad low (.int 5) 14 (.d (.glo 33)) .no) (hh R a b c (rep 12 tT) []) := by kernel_rfl
theorem a2_1_10 (R : List D) (a b c : Int) (odd far bad low : D) : RUN 34 6 2 (sg odd (.tup [.int (10 ^ 60), .int 1]) far bad low (.int 5) 14 (.d (.glo 29)) .no) (hh R a b c (rep 8 tT) []) = .nx (sg odd (.tup [.int (10 ^ 60), .int 1]) far bad low (.int 5) 14 (.d (.glo 33)) .no) (hh R a b c (rep 12 tT) []) := by kernel_rfl
theorem a2_1_11 (R : List D) (a b c : Int) (odd far bad low : D) : RUN 34 6 2 (sg odd (.int (10 ^ 60)) far bad low (.int 5) 14 (.d (.glo 29)) .no) (hh R a b c (rep 8 tT) []) = .nx (sg odd (.int (10 ^ 60)) far bad low (.int 5) 14 (.d (.glo 33)) .no) (hh R a b c (rep 12 tT) []) := by kernel_rfl
theorem a2_1_12 (R : List D) (a b c : Int) (odd far bad low : D) : RUN 34 6 2 (sg odd (.ref 6) far bad low (.int 5) 14 (.d (.glo 29)) .no) (hh R a b c (rep 8 tT) []) = .nx (sg odd (.ref 6) far bad low (.int 5) 14 (.d (.glo 33)) .no) (hh R a b c (rep 12 tT) []) := by kernel_rfl
theorem a2_2_0 (R : List D) (a b c : Int) (odd far bad low : D) : RUN 34 6 2 (sg odd (.non) far bad low (.int 7) 14 (.d (.glo 29)) .no) (hh R a b c (rep 8 tT) []) = .nx (sg odd (.non) far bad low (.int 7) 14 (.d (.glo 33)) .no) (hh R a b c (rep 12 tT) []) := by kernel_rfl
theorem a2_2_1 (R : List D) (a b c : Int) (odd far bad low : D) : RUN 34 6 2 (sg odd (.tup [.int 2, .int 4]) far bad low (.int 7) 14 (.d (.glo 29)) .no) (hh R a b c (rep 8 tT) []) = .nx (sg odd (.tup [.int 2, .int 4]) far bad low (.int 7) 14 (.d (.glo 33)) .no) (hh R a b c (rep 12 tT) []) := by kernel_rfl
theorem a2_2_2 (R : List D) (a b c : Int) (odd far bad low : D) : RUN 34 6 2 (sg odd (.tup [.int 1, .int 0]) far bad low (.int 7) 14 (.d (.glo 29)) .no) (hh R a b c (rep 8 tT) []) = .nx (sg odd (.tup [.int 1, .int 0]) far bad low (.int 7) 14 (.d (.glo 33)) .no) (hh R a b c (rep 12 tT) []) := by kernel_rfl
theorem a2_2_3 (R : List D) (a b c : Int) (odd far bad low : D) : RUN 34 6 2 (sg odd (.tup [.int 1, .int (-1)]) far bad low (.int 7) 14 (.d (.glo 29)) .no) (hh R a b c (rep 8 tT) []) = .nx (sg odd (.tup [.int 1, .int (-1)]) far bad low (.int 7) 14 (.d (.glo 33)) .no) (hh R a b c (rep 12 tT) []) := by kernel_rfl
theorem a2_2_4 (R : List D) (a b c : Int) (odd far bad low : D) : RUN 34 6 2 (sg odd (.tup [.int 0, .int 2]) far bad low (.int 7) 14 (.d (.glo 29)) .no) (hh R a b c (rep 8 tT) []) = .nx (sg odd (.tup [.int 0, .int 2]) far bad low (.int 7) 14 (.d (.glo 33)) .no) (hh R a b c (rep 12 tT) []) := by kernel_rfl
theorem a2_2_5 (R : List D) (a b c : Int) (odd far bad low : D) : RUN 34 6 2 (sg odd (.ref 5) far bad low (.int 7) 14 (.d (.glo 29)) .no) (hh R a b c (rep 8 tT) []) = .nx (sg odd (.ref 5) far bad low (.int 7) 14 (.d (.glo 33)) .no) (hh R a b c (rep 12 tT) []) := by kernel_rfl
theorem a2_2_6 (R : List D) (a b c : Int) (odd far bad low : D) : RUN 34 6 2 (sg odd (.str (st [49])) far bad low (.int 7) 14 (.d (.glo 29)) .no) (hh R a b c (rep 8 tT) []) = .nx (sg odd (.str (st [49])) far bad low (.int 7) 14 (.d (.glo 33)) .no) (hh R a b c (rep 12 tT) []) := by kernel_rfl
theorem a2_2_7 (R : List D) (a b c : Int) (odd far bad low : D) : RUN 34 6 2 (sg odd (.tup [.int 1]) far bad low (.int 7) 14 (.d (.glo 29)) .no) (hh R a b c (rep 8 tT) []) = .nx (sg odd (.tup [.int 1]) far bad low (.int 7) 14 (.d (.glo 33)) .no) (hh R a b c (rep 12 tT) []) := by kernel_rfl
theorem a2_2_8 (R : List D) (a b c : Int) (odd far bad low : D) : RUN 34 6 2 (sg odd (.bl true) far bad low (.int 7) 14 (.d (.glo 29)) .no) (hh R a b c (rep 8 tT) []) = .nx (sg odd (.bl true) far bad low (.int 7) 14 (.d (.glo 33)) .no) (hh R a b c (rep 12 tT) []) := by kernel_rfl
theorem a2_2_9 (R : List D) (a b c : Int) (odd far bad low : D) : RUN 34 6 2 (sg odd (.tup [.bl true, .int 2]) far bad low (.int 7) 14 (.d (.glo 29)) .no) (hh R a b c (rep 8 tT) []) = .nx (sg odd (.tup [.bl true, .int 2]) far bad low (.int 7) 14 (.d (.glo 33)) .no) (hh R a b c (rep 12 tT) []) := by kernel_rfl
theorem a2_2_10 (R : List D) (a b c : Int) (odd far bad low : D) : RUN 34 6 2 (sg odd (.tup [.int (10 ^ 60), .int 1]) far bad low (.int 7) 14 (.d (.glo 29)) .no) (hh R a b c (rep 8 tT) []) = .nx (sg odd (.tup [.int (10 ^ 60), .int 1]) far bad low (.int 7) 14 (.d (.glo 33)) .no) (hh R a b c (rep 12 tT) []) := by kernel_rfl
theorem a2_2_11 (R : List D) (a b c : Int) (odd far bad low : D) : RUN 34 6 2 (sg odd (.int (10 ^ 60)) far bad low (.int 7) 14 (.d (.glo 29)) .no) (hh R a b c (rep 8 tT) []) = .nx (sg odd (.int (10 ^ 60)) far bad low (.int 7) 14 (.d (.glo 33)) .no) (hh R a b c (rep 12 tT) []) := by kernel_rfl
theorem a2_2_12 (R : List D) (a b c : Int) (odd far bad low : D) : RUN 34 6 2 (sg odd (.ref 6) far bad low (.int 7) 14 (.d (.glo 29)) .no) (hh R a b c (rep 8 tT) []) = .nx (sg odd (.ref 6) far bad low (.int 7) 14 (.d (.glo 33)) .no) (hh R a b c (rep 12 tT) []) := by kernel_rfl
theorem a2_3_0 (R : List D) (a b c : Int) (odd far bad low : D) : RUN 34 6 2 (sg odd (.non) far bad low (.int 11) 14 (.d (.glo 29)) .no) (hh R a b c (rep 8 tT) []) = .nx (sg odd (.non) far bad low (.int 11) 14 (.d (.glo 33)) .no) (hh R a b c (rep 12 tT) []) := by kernel_rfl
theorem a2_3_1 (R : List D) (a b c : Int) (odd far bad low : D) : RUN 34 6 2 (sg odd (.tup [.int 2, .int 4]) far bad low (.int 11) 14 (.d (.glo 29)) .no) (hh R a b c (rep 8 tT) []) = .nx (sg odd (.tup [.int 2, .int 4]) far bad low (.int 11) 14 (.d (.glo 33)) .no) (hh R a b c (rep 12 tT) []) := by kernel_rfl
theorem a2_3_2 (R : List D) (a b c : Int) (odd far bad low : D) : RUN 34 6 2 (sg odd (.tup [.int 1, .int 0]) far bad low (.int 11) 14 (.d (.glo 29)) .no) (hh R a b c (rep 8 tT) []) = .nx (sg odd (.tup [.int 1, .int 0]) far bad low (.int 11) 14 (.d (.glo 33)) .no) (hh R a b c (rep 12 tT) []) := by kernel_rfl
theorem a2_3_3 (R : List D) (a b c : Int) (odd far bad low : D) : RUN 34 6 2 (sg odd (.tup [.int 1, .int (-1)]) far bad low (.int 11) 14 (.d (.glo 29)) .no) (hh R a b c (rep 8 tT) []) = .nx (sg odd (.tup [.int 1, .int (-1)]) far bad low (.int 11) 14 (.d (.glo 33)) .no) (hh R a b c (rep 12 tT) []) := by kernel_rfl
theorem a2_3_4 (R : List D) (a b c : Int) (odd far bad low : D) : RUN 34 6 2 (sg odd (.tup [.int 0, .int 2]) far bad low (.int 11) 14 (.d (.glo 29)) .no) (hh R a b c (rep 8 tT) []) = .nx (sg odd (.tup [.int 0, .int 2]) far bad low (.int 11) 14 (.d (.glo 33)) .no) (hh R a b c (rep 12 tT) []) := by kernel_rfl
theorem a2_3_5 (R : List D) (a b c : Int) (odd far bad low : D) : RUN 34 6 2 (sg odd (.ref 5) far bad low (.int 11) 14 (.d (.glo 29)) .no) (hh R a b c (rep 8 tT) []) = .nx (sg odd (.ref 5) far bad low (.int 11) 14 (.d (.glo 33)) .no) (hh R a b c (rep 12 tT) []) := by kernel_rfl
theorem a2_3_6 (R : List D) (a b c : Int) (odd far bad low : D) : RUN 34 6 2 (sg odd (.str (st [49])) far bad low (.int 11) 14 (.d (.glo 29)) .no) (hh R a b c (rep 8 tT) []) = .nx (sg odd (.str (st [49])) far bad low (.int 11) 14 (.d (.glo 33)) .no) (hh R a b c (rep 12 tT) []) := by kernel_rfl
theorem a2_3_7 (R : List D) (a b c : Int) (odd far bad low : D) : RUN 34 6 2 (sg odd (.tup [.int 1]) far bad low (.int 11) 14 (.d (.glo 29)) .no) (hh R a b c (rep 8 tT) []) = .nx (sg odd (.tup [.int 1]) far bad low (.int 11) 14 (.d (.glo 33)) .no) (hh R a b c (rep 12 tT) []) := by kernel_rfl
theorem a2_3_8 (R : List D) (a b c : Int) (odd far bad low : D) : RUN 34 6 2 (sg odd (.bl true) far bad low (.int 11) 14 (.d (.glo 29)) .no) (hh R a b c (rep 8 tT) []) = .nx (sg odd (.bl true) far bad low (.int 11) 14 (.d (.glo 33)) .no) (hh R a b c (rep 12 tT) []) := by kernel_rfl
theorem a2_3_9 (R : List D) (a b c : Int) (odd far bad low : D) : RUN 34 6 2 (sg odd (.tup [.bl true, .int 2]) far bad low (.int 11) 14 (.d (.glo 29)) .no) (hh R a b c (rep 8 tT) []) = .nx (sg odd (.tup [.bl true, .int 2]) far bad low (.int 11) 14 (.d (.glo 33)) .no) (hh R a b c (rep 12 tT) []) := by kernel_rfl
theorem a2_3_10 (R : List D) (a b c : Int) (odd far bad low : D) : RUN 34 6 2 (sg odd (.tup [.int (10 ^ 60), .int 1]) far bad low (.int 11) 14 (.d (.glo 29)) .no) (hh R a b c (rep 8 tT) []) = .nx (sg odd (.tup [.int (10 ^ 60), .int 1]) far bad low (.int 11) 14 (.d (.glo 33)) .no) (hh R a b c (rep 12 tT) []) := by kernel_rfl
theorem a2_3_11 (R : List D) (a b c : Int) (odd far bad low : D) : RUN 34 6 2 (sg odd (.int (10 ^ 60)) far bad low (.int 11) 14 (.d (.glo 29)) .no) (hh R a b c (rep 8 tT) []) = .nx (sg odd (.int (10 ^ 60)) far bad low (.int 11) 14 (.d (.glo 33)) .no) (hh R a b c (rep 12 tT) []) := by kernel_rfl
theorem a2_3_12 (R : List D) (a b c : Int) (odd far bad low : D) : RUN 34 6 2 (sg odd (.ref 6) far bad low (.int 11) 14 (.d (.glo 29)) .no) (hh R a b c (rep 8 tT) []) = .nx (sg odd (.ref 6) far bad low (.int 11) 14 (.d (.glo 33)) .no) (hh R a b c (rep 12 tT) []) := by kernel_rfl
theorem a2_4_0 (R : List D) (a b c : Int) (odd far bad low : D) : RUN 34 6 2 (sg odd (.non) far bad low (.int 13) 14 (.d (.glo 29)) .no) (hh R a b c (rep 8 tT) []) = .nx (sg odd (.non) far bad low (.int 13) 14 (.d (.glo 33)) .no) (hh R a b c (rep 12 tT) []) := by kernel_rfl
theorem a2_4_1 (R : List D) (a b c : Int) (odd far bad low : D) : RUN 34 6 2 (sg odd (.tup [.int 2, .int 4]) far bad low (.int 13) 14 (.d (.glo 29)) .no) (hh R a b c (rep 8 tT) []) = .nx (sg odd (.tup [.int 2, .int 4]) far bad low (.int 13) 14 (.d (.glo 33)) .no) (hh R a b c (rep 12 tT) []) := by kernel_rfl
theorem a2_4_2 (R : List D) (a b c : Int) (odd far bad low : D) : RUN 34 6 2 (sg odd (.tup [.int 1, .int 0]) far bad low (.int 13) 14 (.d (.glo 29)) .no) (hh R a b c (rep 8 tT) []) = .nx (sg odd (.tup [.int 1, .int 0]) far bad low (.int 13) 14 (.d (.glo 33)) .no) (hh R a b c (rep 12 tT) []) := by kernel_rfl
theorem a2_4_3 (R : List D) (a b c : Int) (odd far bad low : D) : RUN 34 6 2 (sg odd (.tup [.int 1, .int (-1)]) far bad low (.int 13) 14 (.d (.glo 29)) .no) (hh R a b c (rep 8 tT) []) = .nx (sg odd (.tup [.int 1, .int (-1)]) far bad low (.int 13) 14 (.d (.glo 33)) .no) (hh R a b c (rep 12 tT) []) := by kernel_rfl
theorem a2_4_4 (R : List D) (a b c : Int) (odd far bad low : D) : RUN 34 6 2 (sg odd (.tup [.int 0, .int 2]) far bad low (.int 13) 14 (.d (.glo 29)) .no) (hh R a b c (rep 8 tT) []) = .nx (sg odd (.tup [.int 0, .int 2]) far bad low (.int 13) 14 (.d (.glo 33)) .no) (hh R a b c (rep 12 tT) []) := by kernel_rfl
theorem a2_4_5 (R : List D) (a b c : Int) (odd far bad low : D) : RUN 34 6 2 (sg odd (.ref 5) far bad low (.int 13) 14 (.d (.glo 29)) .no) (hh R a b c (rep 8 tT) []) = .nx (sg odd (.ref 5) far bad low (.int 13) 14 (.d (.glo 33)) .no) (hh R a b c (rep 12 tT) []) := by kernel_rfl
theorem a2_4_6 (R : List D) (a b c : Int) (odd far bad low : D) : RUN 34 6 2 (sg odd (.str (st [49])) far bad low (.int 13) 14 (.d (.glo 29)) .no) (hh R a b c (rep 8 tT) []) = .nx (sg odd (.str (st [49])) far bad low (.int 13) 14 (.d (.glo 33)) .no) (hh R a b c (rep 12 tT) []) := by kernel_rfl
theorem a2_4_7 (R : List D) (a b c : Int) (odd far bad low : D) : RUN 34 6 2 (sg odd (.tup [.int 1]) far bad low (.int 13) 14 (.d (.glo 29)) .no) (hh R a b c (rep 8 tT) []) = .nx (sg odd (.tup [.int 1]) far bad low (.int 13) 14 (.d (.glo 33)) .no) (hh R a b c (rep 12 tT) []) := by kernel_rfl
theorem a2_4_8 (R : List D) (a b c : Int) (odd far bad low : D) : RUN 34 6 2 (sg odd (.bl true) far bad low (.int 13) 14 (.d (.glo 29)) .no) (hh R a b c (rep 8 tT) []) = .nx (sg odd (.bl true) far bad low (.int 13) 14 (.d (.glo 33)) .no) (hh R a b c (rep 12 tT) []) := by kernel_rfl
theorem a2_4_9 (R : List D) (a b c : Int) (odd far bad low : D) : RUN 34 6 2 (sg odd (.tup [.bl true, .int 2]) far bad low (.int 13) 14 (.d (.glo 29)) .no) (hh R a b c (rep 8 tT) []) = .nx (sg odd (.tup [.bl true, .int 2]) far bad low (.int 13) 14 (.d (.glo 33)) .no) (hh R a b c (rep 12 tT) []) := by kernel_rfl
theorem a2_4_10 (R : List D) (a b c : Int) (odd far bad low : D) : RUN 34 6 2 (sg odd (.tup [.int (10 ^ 60), .int 1]) far bad low (.int 13) 14 (.d (.glo 29)) .no) (hh R a b c (rep 8 tT) []) = .nx (sg odd (.tup [.int (10 ^ 60), .int 1]) far bad low (.int 13) 14 (.d (.glo 33)) .no) (hh R a b c (rep 12 tT) []) := by kernel_rfl
theorem a2_4_11 (R : List D) (a b c : Int) (odd far bad low : D) : RUN 34 6 2 (sg odd (.int (10 ^ 60)) far bad low (.int 13) 14 (.d (.glo 29)) .no) (hh R a b c (rep 8 tT) []) = .nx (sg odd (.int (10 ^ 60)) far bad low (.int 13) 14 (.d (.glo 33)) .no) (hh R a b c (rep 12 tT) []) := by kernel_rfl
theorem a2_4_12 (R : List D) (a b c : Int) (odd far bad low : D) : RUN 34 6 2 (sg odd (.ref 6) far bad low (.int 13) 14 (.d (.glo 29)) .no) (hh R a b c (rep 8 tT) []) = .nx (sg odd (.ref 6) far bad low (.int 13) 14 (.d (.glo 33)) .no) (hh R a b c (rep 12 tT) []) := by kernel_rfl
theorem a3 (R : List D) (a b c : Int) (odd none far bad low prime : D) : RUN 32 8 1 (sg odd none far bad low prime 14 (.d (.glo 33)) .no) (hh R a b c (rep 12 tT) []) = .nx (sg odd none far bad low prime 14 (.d (.glo 33)) .no) (hh R a b c (rep 12 tT) mA) := by kernel_rfl
theorem b_0 (R : List D) (a b c : Int) (none far bad low prime : D) : RUN 31 9 4 (sg (.non) none far bad low prime 14 (.d (.glo 33)) .no) (hh R a b c (rep 12 tT) mA) = .nx (sg (.non) none far bad low prime 18 (.d (.glo 33)) .no) (hh R a b c (rep 12 tT) (mC (st [110, 117, 109, 98, 101, 114, 32, 78, 111, 110, 101]) [] []).dropLast) := by kernel_rfl
theorem b_1 (R : List D) (a b c : Int) (none far bad low prime : D) : RUN 31 9 4 (sg (.int 0) none far bad low prime 14 (.d (.glo 33)) .no) (hh R a b c (rep 12 tT) mA) = .nx (sg (.int 0) none far bad low prime 18 (.d (.glo 33)) .no) (hh R a b c (rep 12 tT) (mC (st [110, 117, 109, 98, 101, 114, 32, 48]) [] []).dropLast) := by kernel_rfl
theorem b_2 (R : List D) (a b c : Int) (none far bad low prime : D) : RUN 31 9 4 (sg (.int 1) none far bad low prime 14 (.d (.glo 33)) .no) (hh R a b c (rep 12 tT) mA) = .nx (sg (.int 1) none far bad low prime 18 (.d (.glo 33)) .no) (hh R a b c (rep 12 tT) (mC (st [110, 117, 109, 98, 101, 114, 32, 49]) [] []).dropLast) := by kernel_rfl
theorem b_3 (R : List D) (a b c : Int) (none far bad low prime : D) : RUN 31 9 4 (sg (.int 4) none far bad low prime 14 (.d (.glo 33)) .no) (hh R a b c (rep 12 tT) mA) = .nx (sg (.int 4) none far bad low prime 18 (.d (.glo 33)) .no) (hh R a b c (rep 12 tT) (mC (st [110, 117, 109, 98, 101, 114, 32, 52]) [] []).dropLast) := by kernel_rfl
theorem b_4 (R : List D) (a b c : Int) (none far bad low prime : D) : RUN 31 9 4 (sg (.int 9) none far bad low prime 14 (.d (.glo 33)) .no) (hh R a b c (rep 12 tT) mA) = .nx (sg (.int 9) none far bad low prime 18 (.d (.glo 33)) .no) (hh R a b c (rep 12 tT) (mC (st [110, 117, 109, 98, 101, 114, 32, 57]) [] []).dropLast) := by kernel_rfl
theorem b_5 (R : List D) (a b c : Int) (none far bad low prime : D) : RUN 31 9 4 (sg (.int 17) none far bad low prime 14 (.d (.glo 33)) .no) (hh R a b c (rep 12 tT) mA) = .nx (sg (.int 17) none far bad low prime 18 (.d (.glo 33)) .no) (hh R a b c (rep 12 tT) (mC (st [110, 117, 109, 98, 101, 114, 32, 49, 55]) [] []).dropLast) := by kernel_rfl
theorem b_6 (R : List D) (a b c : Int) (none far bad low prime : D) : RUN 31 9 4 (sg (.int (-3)) none far bad low prime 14 (.d (.glo 33)) .no) (hh R a b c (rep 12 tT) mA) = .nx (sg (.int (-3)) none far bad low prime 18 (.d (.glo 33)) .no) (hh R a b c (rep 12 tT) (mC (st [110, 117, 109, 98, 101, 114, 32, 45, 51]) [] []).dropLast) := by kernel_rfl
theorem b_7 (R : List D) (a b c : Int) (none far bad low prime : D) : RUN 31 9 4 (sg (.bl true) none far bad low prime 14 (.d (.glo 33)) .no) (hh R a b c (rep 12 tT) mA) = .nx (sg (.bl true) none far bad low prime 18 (.d (.glo 33)) .no) (hh R a b c (rep 12 tT) (mC (st [110, 117, 109, 98, 101, 114, 32, 84, 114, 117, 101]) [] []).dropLast) := by kernel_rfl
theorem b_8 (R : List D) (a b c : Int) (none far bad low prime : D) : RUN 31 9 4 (sg (.str (st [51])) none far bad low prime 14 (.d (.glo 33)) .no) (hh R a b c (rep 12 tT) mA) = .nx (sg (.str (st [51])) none far bad low prime 18 (.d (.glo 33)) .no) (hh R a b c (rep 12 tT) (mC (st [110, 117, 109, 98, 101, 114, 32, 39, 51, 39]) [] []).dropLast) := by kernel_rfl
theorem b_9 (R : List D) (a b c : Int) (none far bad low prime : D) : RUN 31 9 4 (sg (.tup [.int 3]) none far bad low prime 14 (.d (.glo 33)) .no) (hh R a b c (rep 12 tT) mA) = .nx (sg (.tup [.int 3]) none far bad low prime 18 (.d (.glo 33)) .no) (hh R a b c (rep 12 tT) (mC (st [110, 117, 109, 98, 101, 114, 32, 40, 51, 44, 41]) [] []).dropLast) := by kernel_rfl
theorem b_10 (R : List D) (a b c : Int) (none far bad low prime : D) : RUN 31 9 4 (sg (.tup [.int 3, .int 1]) none far bad low prime 14 (.d (.glo 33)) .no) (hh R a b c (rep 12 tT) mA) = .nx (sg (.tup [.int 3, .int 1]) none far bad low prime 18 (.d (.glo 33)) .no) (hh R a b c (rep 12 tT) (mC (st [110, 117, 109, 98, 101, 114, 32, 40, 51, 44, 32, 49, 41]) [] []).dropLast) := by kernel_rfl
theorem b_11 (R : List D) (a b c : Int) (none far bad low prime : D) : RUN 31 9 4 (sg (.ref 2) none far bad low prime 14 (.d (.glo 33)) .no) (hh R a b c (rep 12 tT) mA) = .nx (sg (.ref 2) none far bad low prime 18 (.d (.glo 33)) .no) (hh R a b c (rep 12 tT) (mC (st [110, 117, 109, 98, 101, 114, 32, 91, 51, 93]) [] []).dropLast) := by kernel_rfl
theorem b_12 (R : List D) (a b c : Int) (none far bad low prime : D) : RUN 31 9 4 (sg (.int (10 ^ 60)) none far bad low prime 14 (.d (.glo 33)) .no) (hh R a b c (rep 12 tT) mA) = .nx (sg (.int (10 ^ 60)) none far bad low prime 18 (.d (.glo 33)) .no) (hh R a b c (rep 12 tT) (mC (st [110, 117, 109, 98, 101, 114, 32, 49, 48, 48, 48, 48, 48, 48, 48, 48, 48, 48, 48, 48, 48, 48, 48, 48, 48, 48, 48, 48, 48, 48, 48, 48, 48, 48, 48, 48, 48, 48, 48, 48, 48, 48, 48, 48, 48, 48, 48, 48, 48, 48, 48, 48, 48, 48, 48, 48, 48, 48, 48, 48, 48, 48, 48, 48, 48, 48, 48, 48]) [] []).dropLast) := by kernel_rfl
theorem b_13 (R : List D) (a b c : Int) (none far bad low prime : D) : RUN 31 9 4 (sg (.ref 3) none far bad low prime 14 (.d (.glo 33)) .no) (hh R a b c (rep 12 tT) mA) = .nx (sg (.ref 3) none far bad low prime 18 (.d (.glo 33)) .no) (hh R a b c (rep 12 tT) (mC (st [110, 117, 109, 98, 101, 114, 32, 123, 125]) [] []).dropLast) := by kernel_rfl
theorem c1_0_0 (R : List D) (a b c : Int) (odd none bad low : D) (x : Str) : RUN 27 13 2 (sg odd none (.non) bad low (.int 3) 18 (.d (.glo 33)) .no) (hh R a b c (rep 12 tT) (mC x [] []).dropLast) = .nx (sg odd none (.non) bad low (.int 3) 21 (.d (.glo 33)) .no) (hh R a b c (rep 12 tT) (mC x [tU (st [110, 117, 109, 98, 101, 114, 32, 78, 111, 110, 101]), tU (st [110, 117, 109, 98, 101, 114, 32, 78, 111, 110, 101])] [])) := by kernel_rfl
theorem c1_0_1 (R : List D) (a b c : Int) (odd none bad low : D) (x : Str) : RUN 27 13 2 (sg odd none (.int (-1)) bad low (.int 3) 18 (.d (.glo 33)) .no) (hh R a b c (rep 12 tT) (mC x [] []).dropLast) = .nx (sg odd none (.int (-1)) bad low (.int 3) 21 (.d (.glo 33)) .no) (hh R a b c (rep 12 tT) (mC x [tU (st [110, 117, 109, 98, 101, 114, 32, 45, 49]), tU (st [110, 117, 109, 98, 101, 114, 32, 45, 49])] [])) := by kernel_rfl
theorem c1_0_2 (R : List D) (a b c : Int) (odd none bad low : D) (x : Str) : RUN 27 13 2 (sg odd none (.int 201) bad low (.int 3) 18 (.d (.glo 33)) .no) (hh R a b c (rep 12 tT) (mC x [] []).dropLast) = .nx (sg odd none (.int 201) bad low (.int 3) 21 (.d (.glo 33)) .no) (hh R a b c (rep 12 tT) (mC x [tU (st [110, 117, 109, 98, 101, 114, 32, 50, 48, 49]), tU (st [110, 117, 109, 98, 101, 114, 32, 50, 48, 49])] [])) := by kernel_rfl
theorem c1_0_3 (R : List D) (a b c : Int) (odd none bad low : D) (x : Str) : RUN 27 13 2 (sg odd none (.bl true) bad low (.int 3) 18 (.d (.glo 33)) .no) (hh R a b c (rep 12 tT) (mC x [] []).dropLast) = .nx (sg odd none (.bl true) bad low (.int 3) 21 (.d (.glo 33)) .no) (hh R a b c (rep 12 tT) (mC x [tU (st [110, 117, 109, 98, 101, 114, 32, 84, 114, 117, 101]), tU (st [110, 117, 109, 98, 101, 114, 32, 84, 114, 117, 101])] [])) := by kernel_rfl
theorem c1_0_4 (R : List D) (a b c : Int) (odd none bad low : D) (x : Str) : RUN 27 13 2 (sg odd none (.str (st [49])) bad low (.int 3) 18 (.d (.glo 33)) .no) (hh R a b c (rep 12 tT) (mC x [] []).dropLast) = .nx (sg odd none (.str (st [49])) bad low (.int 3) 21 (.d (.glo 33)) .no) (hh R a b c (rep 12 tT) (mC x [tU (st [110, 117, 109, 98, 101, 114, 32, 39, 49, 39]), tU (st [110, 117, 109, 98, 101, 114, 32, 39, 49, 39])] [])) := by kernel_rfl
theorem c1_0_5 (R : List D) (a b c : Int) (odd none bad low : D) (x : Str) : RUN 27 13 2 (sg odd none (.tup [.int 1]) bad low (.int 3) 18 (.d (.glo 33)) .no) (hh R a b c (rep 12 tT) (mC x [] []).dropLast) = .nx (sg odd none (.tup [.int 1]) bad low (.int 3) 21 (.d (.glo 33)) .no) (hh R a b c (rep 12 tT) (mC x [tU (st [110, 117, 109, 98, 101, 114, 32, 40, 49, 44, 41]), tU (st [110, 117, 109, 98, 101, 114, 32, 40, 49, 44, 41])] [])) := by kernel_rfl
theorem c1_0_6 (R : List D) (a b c : Int) (odd none bad low : D) (x : Str) : RUN 27 13 2 (sg odd none (.ref 8) bad low (.int 3) 18 (.d (.glo 33)) .no) (hh R a b c (rep 12 tT) (mC x [] []).dropLast) = .nx (sg odd none (.ref 8) bad low (.int 3) 21 (.d (.glo 33)) .no) (hh R a b c (rep 12 tT) (mC x [tU (st [110, 117, 109, 98, 101, 114, 32, 91, 50, 93]), tU (st [110, 117, 109, 98, 101, 114, 32, 91, 50, 93])] [])) := by kernel_rfl
theorem c1_0_7 (R : List D) (a b c : Int) (odd none bad low : D) (x : Str) : RUN 27 13 2 (sg odd none (.int (10 ^ 60)) bad low (.int 3) 18 (.d (.glo 33)) .no) (hh R a b c (rep 12 tT) (mC x [] []).dropLast) = .nx (sg odd none (.int (10 ^ 60)) bad low (.int 3) 21 (.d (.glo 33)) .no) (hh R a b c (rep 12 tT) (mC x [tU (st [110, 117, 109, 98, 101, 114, 32, 49, 48, 48, 48, 48, 48, 48, 48, 48, 48, 48, 48, 48, 48, 48, 48, 48, 48, 48, 48, 48, 48, 48, 48, 48, 48, 48, 48, 48, 48, 48, 48, 48, 48, 48, 48, 48, 48, 48, 48, 48, 48, 48, 48, 48, 48, 48, 48, 48, 48, 48, 48, 48, 48, 48, 48, 48, 48, 48, 48, 48]), tU (st [110, 117, 109, 98, 101, 114, 32, 49, 48, 48, 48, 48, 48, 48, 48, 48, 48, 48, 48, 48, 48, 48, 48, 48, 48, 48, 48, 48, 48, 48, 48, 48, 48, 48, 48, 48, 48, 48, 48, 48, 48, 48, 48, 48, 48, 48, 48, 48, 48, 48, 48, 48, 48, 48, 48, 48, 48, 48, 48, 48, 48, 48, 48, 48, 48, 48, 48, 48])] [])) := by kernel_rfl
theorem c1_1_0 (R : List D) (a b c : Int) (odd none bad low : D) (x : Str) : RUN 27 13 2 (sg odd none (.non) bad low (.int 5) 18 (.d (.glo 33)) .no) (hh R a b c (rep 12 tT) (mC x [] []).dropLast) = .nx (sg odd none (.non) bad low (.int 5) 21 (.d (.glo 33)) .no) (hh R a b c (rep 12 tT) (mC x [tU (st [110, 117, 109, 98, 101, 114, 32, 78, 111, 110, 101]), tU (st [110, 117, 109, 98, 101, 114, 32, 78, 111, 110, 101])] [])) := by kernel_rfl
theorem c1_1_1 (R : List D) (a b c : Int) (odd none bad low : D) (x : Str) : RUN 27 13 2 (sg odd none (.int (-1)) bad low (.int 5) 18 (.d (.glo 33)) .no) (hh R a b c (rep 12 tT) (mC x [] []).dropLast) = .nx (sg odd none (.int (-1)) bad low (.int 5) 21 (.d (.glo 33)) .no) (hh R a b c (rep 12 tT) (mC x [tU (st [110, 117, 109, 98, 101, 114, 32, 45, 49]), tU (st [110, 117, 109, 98, 101, 114, 32, 45, 49])] [])) := by kernel_rfl
theorem c1_1_2 (R : List D) (a b c : Int) (odd none bad low : D) (x : Str) : RUN 27 13 2 (sg odd none (.int 201) bad low (.int 5) 18 (.d (.glo 33)) .no) (hh R a b c (rep 12 tT) (mC x [] []).dropLast) = .nx (sg odd none (.int 201) bad low (.int 5) 21 (.d (.glo 33)) .no) (hh R a b c (rep 12 tT) (mC x [tU (st [110, 117, 109, 98, 101, 114, 32, 50, 48, 49]), tU (st [110, 117, 109, 98, 101, 114, 32, 50, 48, 49])] [])) := by kernel_rfl
theorem c1_1_3 (R : List D) (a b c : Int) (odd none bad low : D) (x : Str) : RUN 27 13 2 (sg odd none (.bl true) bad low (.int 5) 18 (.d (.glo 33)) .no) (hh R a b c (rep 12 tT) (mC x [] []).dropLast) = .nx (sg odd none (.bl true) bad low (.int 5) 21 (.d (.glo 33)) .no) (hh R a b c (rep 12 tT) (mC x [tU (st [110, 117, 109, 98, 101, 114, 32, 84, 114, 117, 101]), tU (st [110, 117, 109, 98, 101, 114, 32, 84, 114, 117, 101])] [])) := by kernel_rfl
theorem c1_1_4 (R : List D) (a b c : Int) (odd none bad low : D) (x : Str) : RUN 27 13 2 (sg odd none (.str (st [49])) bad low (.int 5) 18 (.d (.glo 33)) .no) (hh R a b c (rep 12 tT) (mC x [] []).dropLast) = .nx (sg odd none (.str (st [49])) bad low (.int 5) 21 (.d (.glo 33)) .no) (hh R a b c (rep 12 tT) (mC x [tU (st [110, 117, 109, 98, 101, 114, 32, 39, 49, 39]), tU (st [110, 117, 109, 98, 101, 114, 32, 39, 49, 39])] [])) := by kernel_rfl
theorem c1_1_5 (R : List D) (a b c : Int) (odd none bad low : D) (x : Str) : RUN 27 13 2 (sg odd none (.tup [.int 1]) bad low (.int 5) 18 (.d (.glo 33)) .no) (hh R a b c (rep 12 tT) (mC x [] []).dropLast) = .nx (sg odd none (.tup [.int 1]) bad low (.int 5) 21 (.d (.glo 33)) .no) (hh R a b c (rep 12 tT) (mC x [tU (st [110, 117, 109, 98, 101, 114, 32, 40, 49, 44, 41]), tU (st [110, 117, 109, 98, 101, 114, 32, 40, 49, 44, 41])] [])) := by kernel_rfl
theorem c1_1_6 (R : List D) (a b c : Int) (odd none bad low : D) (x : Str) : RUN 27 13 2 (sg odd none (.ref 8) bad low (.int 5) 18 (.d (.glo 33)) .no) (hh R a b c (rep 12 tT) (mC x [] []).dropLast) = .nx (sg odd none (.ref 8) bad low (.int 5) 21 (.d (.glo 33)) .no) (hh R a b c (rep 12 tT) (mC x [tU (st [110, 117, 109, 98, 101, 114, 32, 91, 50, 93]), tU (st [110, 117, 109, 98, 101, 114, 32, 91, 50, 93])] [])) := by kernel_rfl
theorem c1_1_7 (R : List D) (a b c : Int) (odd none bad low : D) (x : Str) : RUN 27 13 2 (sg odd none (.int (10 ^ 60)) bad low (.int 5) 18 (.d (.glo 33)) .no) (hh R a b c (rep 12 tT) (mC x [] []).dropLast) = .nx (sg odd none (.int (10 ^ 60)) bad low (.int 5) 21 (.d (.glo 33)) .no) (hh R a b c (rep 12 tT) (mC x [tU (st [110, 117, 109, 98, 101, 114, 32, 49, 48, 48, 48, 48, 48, 48, 48, 48, 48, 48, 48, 48, 48, 48, 48, 48, 48, 48, 48, 48, 48, 48, 48, 48, 48, 48, 48, 48, 48, 48, 48, 48, 48, 48, 48, 48, 48, 48, 48, 48, 48, 48, 48, 48, 48, 48, 48, 48, 48, 48, 48, 48, 48, 48, 48, 48, 48, 48, 48, 48]), tU (st [110, 117, 109, 98, 101, 114, 32, 49, 48, 48, 48, 48, 48, 48, 48, 48, 48, 48, 48, 48, 48, 48, 48, 48, 48, 48, 48, 48, 48, 48, 48, 48, 48, 48, 48, 48, 48, 48, 48, 48, 48, 48, 48, 48, 48, 48, 48, 48, 48, 48, 48, 48, 48, 48, 48, 48, 48, 48, 48, 48, 48, 48, 48, 48, 48, 48, 48, 48])] [])) := by kernel_rfl
theorem c1_2_0 (R : List D) (a b c : Int) (odd none bad low : D) (x : Str) : RUN 27 13 2 (sg odd none (.non) bad low (.int 7) 18 (.d (.glo 33)) .no) (hh R a b c (rep 12 tT) (mC x [] []).dropLast) = .nx (sg odd none (.non) bad low (.int 7) 21 (.d (.glo 33)) .no) (hh R a b c (rep 12 tT) (mC x [tU (st [110, 117, 109, 98, 101, 114, 32, 78, 111, 110, 101]), tU (st [110, 117, 109, 98, 101, 114, 32, 78, 111, 110, 101])] [])) := by kernel_rfl
theorem c1_2_1 (R : List D) (a b c : Int) (odd none bad low : D) (x : Str) : RUN 27 13 2 (sg odd none (.int (-1)) bad low (.int 7) 18 (.d (.glo 33)) .no) (hh R a b c (rep 12 tT) (mC x [] []).dropLast) = .nx (sg odd none (.int (-1)) bad low (.int 7) 21 (.d (.glo 33)) .no) (hh R a b c (rep 12 tT) (mC x [tU (st [110, 117, 109, 98, 101, 114, 32, 45, 49]), tU (st [110, 117, 109, 98, 101, 114, 32, 45, 49])] [])) := by kernel_rfl
theorem c1_2_2 (R : List D) (a b c : Int) (odd none bad low : D) (x : Str) : RUN 27 13 2 (sg odd none (.int 201) bad low (.int 7) 18 (.d (.glo 33)) .no) (hh R a b c (rep 12 tT) (mC x [] []).dropLast) = .nx (sg odd none (.int 201) bad low (.int 7) 21 (.d (.glo 33)) .no) (hh R a b c (rep 12 tT) (mC x [tU (st [110, 117, 109, 98, 101, 114, 32, 50, 48, 49]), tU (st [110, 117, 109, 98, 101, 114, 32, 50, 48, 49])] [])) := by kernel_rfl
theorem c1_2_3 (R : List D) (a b c : Int) (odd none bad low : D) (x : Str) : RUN 27 13 2 (sg odd none (.bl true) bad low (.int 7) 18 (.d (.glo 33)) .no) (hh R a b c (rep 12 tT) (mC x [] []).dropLast) = .nx (sg odd none (.bl true) bad low (.int 7) 21 (.d (.glo 33)) .no) (hh R a b c (rep 12 tT) (mC x [tU (st [110, 117, 109, 98, 101, 114, 32, 84, 114, 117, 101]), tU (st [110, 117, 109, 98, 101, 114, 32, 84, 114, 117, 101])] [])) := by kernel_rfl
theorem c1_2_4 (R : List D) (a b c : Int) (odd none bad low : D) (x : Str) : RUN 27 13 2 (sg odd none (.str (st [49])) bad low (.int 7) 18 (.d (.glo 33)) .no) (hh R a b c (rep 12 tT) (mC x [] []).dropLast) = .nx (sg odd none (.str (st [49])) bad low (.int 7) 21 (.d (.glo 33)) .no) (hh R a b c (rep 12 tT) (mC x [tU (st [110, 117, 109, 98, 101, 114, 32, 39, 49, 39]), tU (st [110, 117, 109, 98, 101, 114, 32, 39, 49, 39])] [])) := by kernel_rfl
theorem c1_2_5 (R : List D) (a b c : Int) (odd none bad low : D) (x : Str) : RUN 27 13 2 (sg odd none (.tup [.int 1]) bad low (.int 7) 18 (.d (.glo 33)) .no) (hh R a b c (rep 12 tT) (mC x [] []).dropLast) = .nx (sg odd none (.tup [.int 1]) bad low (.int 7) 21 (.d (.glo 33)) .no) (hh R a b c (rep 12 tT) (mC x [tU (st [110, 117, 109, 98, 101, 114, 32, 40, 49, 44, 41]), tU (st [110, 117, 109, 98, 101, 114, 32, 40, 49, 44, 41])] [])) := by kernel_rfl
theorem c1_2_6 (R : List D) (a b c : Int) (odd none bad low : D) (x : Str) : RUN 27 13 2 (sg odd none (.ref 8) bad low (.int 7) 18 (.d (.glo 33)) .no) (hh R a b c (rep 12 tT) (mC x [] []).dropLast) = .nx (sg odd none (.ref 8) bad low (.int 7) 21 (.d (.glo 33)) .no) (hh R a b c (rep 12 tT) (mC x [tU (st [110, 117, 109, 98, 101, 114, 32, 91, 50, 93]), tU (st [110, 117, 109, 98, 101, 114, 32, 91, 50, 93])] [])) := by kernel_rfl
theorem c1_2_7 (R : List D) (a b c : Int) (odd none bad low : D) (x : Str) : RUN 27 13 2 (sg odd none (.int (10 ^ 60)) bad low (.int 7) 18 (.d (.glo 33)) .no) (hh R a b c (rep 12 tT) (mC x [] []).dropLast) = .nx (sg odd none (.int (10 ^ 60)) bad low (.int 7) 21 (.d (.glo 33)) .no) (hh R a b c (rep 12 tT) (mC x [tU (st [110, 117, 109, 98, 101, 114, 32, 49, 48, 48, 48, 48, 48, 48, 48, 48, 48, 48, 48, 48, 48, 48, 48, 48, 48, 48, 48, 48, 48, 48, 48, 48, 48, 48, 48, 48, 48, 48, 48, 48, 48, 48, 48, 48, 48, 48, 48, 48, 48, 48, 48, 48, 48, 48, 48, 48, 48, 48, 48, 48, 48, 48, 48, 48, 48, 48, 48, 48]), tU (st [110, 117, 109, 98, 101, 114, 32, 49, 48, 48, 48, 48, 48, 48, 48, 48, 48, 48, 48, 48, 48, 48, 48, 48, 48, 48, 48, 48, 48, 48, 48, 48, 48, 48, 48, 48, 48, 48, 48, 48, 48, 48, 48, 48, 48, 48, 48, 48, 48, 48, 48, 48, 48, 48, 48, 48, 48, 48, 48, 48, 48, 48, 48, 48, 48, 48, 48, 48])] [])) := by kernel_rfl
theorem c1_3_0 (R : List D) (a b c : Int) (odd none bad low : D) (x : Str) : RUN 27 13 2 (sg odd none (.non) bad low (.int 11) 18 (.d (.glo 33)) .no) (hh R a b c (rep 12 tT) (mC x [] []).dropLast) = .nx (sg odd none (.non) bad low (.int 11) 21 (.d (.glo 33)) .no) (hh R a b c (rep 12 tT) (mC x [tU (st [110, 117, 109, 98, 101, 114, 32, 78, 111, 110, 101]), tU (st [110, 117, 109, 98, 101, 114, 32, 78, 111, 110, 101])] [])) := by kernel_rfl
theorem c1_3_1 (R : List D) (a b c : Int) (odd none bad low : D) (x : Str) : RUN 27 13 2 (sg odd none (.int (-1)) bad low (.int 11) 18 (.d (.glo 33)) .no) (hh R a b c (rep 12 tT) (mC x [] []).dropLast) = .nx (sg odd none (.int (-1)) bad low (.int 11) 21 (.d (.glo 33)) .no) (hh R a b c (rep 12 tT) (mC x [tU (st [110, 117, 109, 98, 101, 114, 32, 45, 49]), tU (st [110, 117, 109, 98, 101, 114, 32, 45, 49])] [])) := by kernel_rfl
theorem c1_3_2 (R : List D) (a b c : Int) (odd none bad low : D) (x : Str) : RUN 27 13 2 (sg odd none (.int 201) bad low (.int 11) 18 (.d (.glo 33)) .no) (hh R a b c (rep 12 tT) (mC x [] []).dropLast) = .nx (sg odd none (.int 201) bad low (.int 11) 21 (.d (.glo 33)) .no) (hh R a b c (rep 12 tT) (mC x [tU (st [110, 117, 109, 98, 101, 114, 32, 50, 48, 49]), tU (st [110, 117, 109, 98, 101, 114, 32, 50, 48, 49])] [])) := by kernel_rfl
theorem c1_3_3 (R : List D) (a b c : Int) (odd none bad low : D) (x : Str) : RUN 27 13 2 (sg odd none (.bl true) bad low (.int 11) 18 (.d (.glo 33)) .no) (hh R a b c (rep 12 tT) (mC x [] []).dropLast) = .nx (sg odd none (.bl true) bad low (.int 11) 21 (.d (.glo 33)) .no) (hh R a b c (rep 12 tT) (mC x [tU (st [110, 117, 109, 98, 101, 114, 32, 84, 114, 117, 101]), tU (st [110, 117, 109, 98, 101, 114, 32, 84, 114, 117, 101])] [])) := by kernel_rfl
theorem c1_3_4 (R : List D) (a b c : Int) (odd none bad low : D) (x : Str) : RUN 27 13 2 (sg odd none (.str (st [49])) bad low (.int 11) 18 (.d (.glo 33)) .no) (hh R a b c (rep 12 tT) (mC x [] []).dropLast) = .nx (sg odd none (.str (st [49])) bad low (.int 11) 21 (.d (.glo 33)) .no) (hh R a b c (rep 12 tT) (mC x [tU (st [110, 117, 109, 98, 101, 114, 32, 39, 49, 39]), tU (st [110, 117, 109, 98, 101, 114, 32, 39, 49, 39])] [])) := by kernel_rfl
theorem c1_3_5 (R : List D) (a b c : Int) (odd none bad low : D) (x : Str) : RUN 27 13 2 (sg odd none (.tup [.int 1]) bad low (.int 11) 18 (.d (.glo 33)) .no) (hh R a b c (rep 12 tT) (mC x [] []).dropLast) = .nx (sg odd none (.tup [.int 1]) bad low (.int 11) 21 (.d (.glo 33)) .no) (hh R a b c (rep 12 tT) (mC x [tU (st [110, 117, 109, 98, 101, 114, 32, 40, 49, 44, 41]), tU (st [110, 117, 109, 98, 101, 114, 32, 40, 49, 44, 41])] [])) := by kernel_rfl
theorem c1_3_6 (R : List D) (a b c : Int) (odd none bad low : D) (x : Str) : RUN 27 13 2 (sg odd none (.ref 8) bad low (.int 11) 18 (.d (.glo 33)) .no) (hh R a b c (rep 12 tT) (mC x [] []).dropLast) = .nx (sg odd none (.ref 8) bad low (.int 11) 21 (.d (.glo 33)) .no) (hh R a b c (rep 12 tT) (mC x [tU (st [110, 117, 109, 98, 101, 114, 32, 91, 50, 93]), tU (st [110, 117, 109, 98, 101, 114, 32, 91, 50, 93])] [])) := by kernel_rfl
theorem c1_3_7 (R : List D) (a b c : Int) (odd none bad low : D) (x : Str) : RUN 27 13 2 (sg odd none (.int (10 ^ 60)) bad low (.int 11) 18 (.d (.glo 33)) .no) (hh R a b c (rep 12 tT) (mC x [] []).dropLast) = .nx (sg odd none (.int (10 ^ 60)) bad low (.int 11) 21 (.d (.glo 33)) .no) (hh R a b c (rep 12 tT) (mC x [tU (st [110, 117, 109, 98, 101, 114, 32, 49, 48, 48, 48, 48, 48, 48, 48, 48, 48, 48, 48, 48, 48, 48, 48, 48, 48, 48, 48, 48, 48, 48, 48, 48, 48, 48, 48, 48, 48, 48, 48, 48, 48, 48, 48, 48, 48, 48, 48, 48, 48, 48, 48, 48, 48, 48, 48, 48, 48, 48, 48, 48, 48, 48, 48, 48, 48, 48, 48, 48]), tU (st [110, 117, 109, 98, 101, 114, 32, 49, 48, 48, 48, 48, 48, 48, 48, 48, 48, 48, 48, 48, 48, 48, 48, 48, 48, 48, 48, 48, 48, 48, 48, 48, 48, 48, 48, 48, 48, 48, 48, 48, 48, 48, 48, 48, 48, 48, 48, 48, 48, 48, 48, 48, 48, 48, 48, 48, 48, 48, 48, 48, 48, 48, 48, 48, 48, 48, 48, 48])] [])) := by kernel_rfl
theorem c1_4_0 (R : List D) (a b c : Int) (odd none bad low : D) (x : Str) : RUN 27 13 2 (sg odd none (.non) bad low (.int 13) 18 (.d (.glo 33)) .no) (hh R a b c (rep 12 tT) (mC x [] []).dropLast) = .nx (sg odd none (.non) bad low (.int 13) 21 (.d (.glo 33)) .no) (hh R a b c (rep 12 tT) (mC x [tU (st [110, 117, 109, 98, 101, 114, 32, 78, 111, 110, 101]), tU (st [110, 117, 109, 98, 101, 114, 32, 78, 111, 110, 101])] [])) := by kernel_rfl
theorem c1_4_1 (R : List D) (a b c : Int) (odd none bad low : D) (x : Str) : RUN 27 13 2 (sg odd none (.int (-1)) bad low (.int 13) 18 (.d (.glo 33)) .no) (hh R a b c (rep 12 tT) (mC x [] []).dropLast) = .nx (sg odd none (.int (-1)) bad low (.int 13) 21 (.d (.glo 33)) .no) (hh R a b c (rep 12 tT) (mC x [tU (st [110, 117, 109, 98, 101, 114, 32, 45, 49]), tU (st [110, 117, 109, 98, 101, 114, 32, 45, 49])] [])) := by kernel_rfl
theorem c1_4_2 (R : List D) (a b c : Int) (odd none bad low : D) (x : Str) : RUN 27 13 2 (sg odd none (.int 201) bad low (.int 13) 18 (.d (.glo 33)) .no) (hh R a b c (rep 12 tT) (mC x [] []).dropLast) = .nx (sg odd none (.int 201) bad low (.int 13) 21 (.d (.glo 33)) .no) (hh R a b c (rep 12 tT) (mC x [tU (st [110, 117, 109, 98, 101, 114, 32, 50, 48, 49]), tU (st [110, 117, 109, 98, 101, 114, 32, 50, 48, 49])] [])) := by kernel_rfl
theorem c1_4_3 (R : List D) (a b c : Int) (odd none bad low : D) (x : Str) : RUN 27 13 2 (sg odd none (.bl true) bad low (.int 13) 18 (.d (.glo 33)) .no) (hh R a b c (rep 12 tT) (mC x [] []).dropLast) = .nx (sg odd none (.bl true) bad low (.int 13) 21 (.d (.glo 33)) .no) (hh R a b c (rep 12 tT) (mC x [tU (st [110, 117, 109, 98, 101, 114, 32, 84, 114, 117, 101]), tU (st [110, 117, 109, 98, 101, 114, 32, 84, 114, 117, 101])] [])) := by kernel_rfl
theorem c1_4_4 (R : List D) (a b c : Int) (odd none bad low : D) (x : Str) : RUN 27 13 2 (sg odd none (.str (st [49])) bad low (.int 13) 18 (.d (.glo 33)) .no) (hh R a b c (rep 12 tT) (mC x [] []).dropLast) = .nx (sg odd none (.str (st [49])) bad low (.int 13) 21 (.d (.glo 33)) .no) (hh R a b c (rep 12 tT) (mC x [tU (st [110, 117, 109, 98, 101, 114, 32, 39, 49, 39]), tU (st [110, 117, 109, 98, 101, 114, 32, 39, 49, 39])] [])) := by kernel_rfl
theorem c1_4_5 (R : List D) (a b c : Int) (odd none bad low : D) (x : Str) : RUN 27 13 2 (sg odd none (.tup [.int 1]) bad low (.int 13) 18 (.d (.glo 33)) .no) (hh R a b c (rep 12 tT) (mC x [] []).dropLast) = .nx (sg odd none (.tup [.int 1]) bad low (.int 13) 21 (.d (.glo 33)) .no) (hh R a b c (rep 12 tT) (mC x [tU (st [110, 117, 109, 98, 101, 114, 32, 40, 49, 44, 41]), tU (st [110, 117, 109, 98, 101, 114, 32, 40, 49, 44, 41])] [])) := by kernel_rfl
theorem c1_4_6 (R : List D) (a b c : Int) (odd none bad low : D) (x : Str) : RUN 27 13 2 (sg odd none (.ref 8) bad low (.int 13) 18 (.d (.glo 33)) .no) (hh R a b c (rep 12 tT) (mC x [] []).dropLast) = .nx (sg odd none (.ref 8) bad low (.int 13) 21 (.d (.glo 33)) .no) (hh R a b c (rep 12 tT) (mC x [tU (st [110, 117, 109, 98, 101, 114, 32, 91, 50, 93]), tU (st [110, 117, 109, 98, 101, 114, 32, 91, 50, 93])] [])) := by kernel_rfl
theorem c1_4_7 (R : List D) (a b c : Int) (odd none bad low : D) (x : Str) : RUN 27 13 2 (sg odd none (.int (10 ^ 60)) bad low (.int 13) 18 (.d (.glo 33)) .no) (hh R a b c (rep 12 tT) (mC x [] []).dropLast) = .nx (sg odd none (.int (10 ^ 60)) bad low (.int 13) 21 (.d (.glo 33)) .no) (hh R a b c (rep 12 tT) (mC x [tU (st [110, 117, 109, 98, 101, 114, 32, 49, 48, 48, 48, 48, 48, 48, 48, 48, 48, 48, 48, 48, 48, 48, 48, 48, 48, 48, 48, 48, 48, 48, 48, 48, 48, 48, 48, 48, 48, 48, 48, 48, 48, 48, 48, 48, 48, 48, 48, 48, 48, 48, 48, 48, 48, 48, 48, 48, 48, 48, 48, 48, 48, 48, 48, 48, 48, 48, 48, 48]), tU (st [110, 117, 109, 98, 101, 114, 32, 49, 48, 48, 48, 48, 48, 48, 48, 48, 48, 48, 48, 48, 48, 48, 48, 48, 48, 48, 48, 48, 48, 48, 48, 48, 48, 48, 48, 48, 48, 48, 48, 48, 48, 48, 48, 48, 48, 48, 48, 48, 48, 48, 48, 48, 48, 48, 48, 48, 48, 48, 48, 48, 48, 48, 48, 48, 48, 48, 48, 48])] [])) := by kernel_rfl
theorem c2_0 (R : List D) (a b c : Int) (odd none far low prime : D) (x y : Str) : RUN 25 15 1 (sg odd none far (.non) low prime 21 (.d (.glo 33)) .no) (hh R a b c (rep 12 tT) (mC x [tU y, tU y] [])) = .nx (sg odd none far (.non) low prime 21 (.d (.glo 33)) .no) (hh R a b c (rep 12 tT) (mC x [tU y, tU y, tU (st [110, 117, 109, 98, 101, 114, 32, 78, 111, 110, 101])] [])) := by kernel_rfl
theorem c2_1 (R : List D) (a b c : Int) (odd none far low prime : D) (x y : Str) : RUN 25 15 1 (sg odd none far (.bl true) low prime 21 (.d (.glo 33)) .no) (hh R a b c (rep 12 tT) (mC x [tU y, tU y] [])) = .nx (sg odd none far (.bl true) low prime 21 (.d (.glo 33)) .no) (hh R a b c (rep 12 tT) (mC x [tU y, tU y, tU (st [110, 117, 109, 98, 101, 114, 32, 84, 114, 117, 101])] [])) := by kernel_rfl
theorem c2_2 (R : List D) (a b c : Int) (odd none far low prime : D) (x y : Str) : RUN 25 15 1 (sg odd none far (.str (st [49])) low prime 21 (.d (.glo 33)) .no) (hh R a b c (rep 12 tT) (mC x [tU y, tU y] [])) = .nx (sg odd none far (.str (st [49])) low prime 21 (.d (.glo 33)) .no) (hh R a b c (rep 12 tT) (mC x [tU y, tU y, tU (st [110, 117, 109, 98, 101, 114, 32, 39, 49, 39])] [])) := by kernel_rfl
theorem c2_3 (R : List D) (a b c : Int) (odd none far low prime : D) (x y : Str) : RUN 25 15 1 (sg odd none far (.int (10 ^ 60)) low prime 21 (.d (.glo 33)) .no) (hh R a b c (rep 12 tT) (mC x [tU y, tU y] [])) = .nx (sg odd none far (.int (10 ^ 60)) low prime 21 (.d (.glo 33)) .no) (hh R a b c (rep 12 tT) (mC x [tU y, tU y, tU (st [110, 117, 109, 98, 101, 114, 32, 49, 48, 48, 48, 48, 48, 48, 48, 48, 48, 48, 48, 48, 48, 48, 48, 48, 48, 48, 48, 48, 48, 48, 48, 48, 48, 48, 48, 48, 48, 48, 48, 48, 48, 48, 48, 48, 48, 48, 48, 48, 48, 48, 48, 48, 48, 48, 48, 48, 48, 48, 48, 48, 48, 48, 48, 48, 48, 48, 48, 48])] [])) := by kernel_rfl
theorem c2_4 (R : List D) (a b c : Int) (odd none far low prime : D) (x y : Str) : RUN 25 15 1 (sg odd none far (.tup [.int 1, .int 1]) low prime 21 (.d (.glo 33)) .no) (hh R a b c (rep 12 tT) (mC x [tU y, tU y] [])) = .nx (sg odd none far (.tup [.int 1, .int 1]) low prime 21 (.d (.glo 33)) .no) (hh R a b c (rep 12 tT) (mC x [tU y, tU y, tU (st [110, 117, 109, 98, 101, 114, 32, 40, 49, 44, 32, 49, 41])] [])) := by kernel_rfl
theorem c2_5 (R : List D) (a b c : Int) (odd none far low prime : D) (x y : Str) : RUN 25 15 1 (sg odd none far (.ref 10) low prime 21 (.d (.glo 33)) .no) (hh R a b c (rep 12 tT) (mC x [tU y, tU y] [])) = .nx (sg odd none far (.ref 10) low prime 21 (.d (.glo 33)) .no) (hh R a b c (rep 12 tT) (mC x [tU y, tU y, tU (st [110, 117, 109, 98, 101, 114, 32, 91, 49, 93])] [])) := by kernel_rfl
theorem c3_0 (R : List D) (a b c : Int) (odd none far bad prime : D) (x y z : Str) : RUN 24 16 1 (sg odd none far bad (.non) prime 21 (.d (.glo 33)) .no) (hh R a b c (rep 12 tT) (mC x [tU y, tU y, tU z] [])) = .nx (sg odd none far bad (.non) prime 21 (.d (.glo 33)) .no) (hh R a b c (rep 12 tT) (mC x [tU y, tU y, tU z, tU (st [110, 117, 109, 98, 101, 114, 32, 78, 111, 110, 101])] [])) := by kernel_rfl
theorem c3_1 (R : List D) (a b c : Int) (odd none far bad prime : D) (x y z : Str) : RUN 24 16 1 (sg odd none far bad (.bl false) prime 21 (.d (.glo 33)) .no) (hh R a b c (rep 12 tT) (mC x [tU y, tU y, tU z] [])) = .nx (sg odd none far bad (.bl false) prime 21 (.d (.glo 33)) .no) (hh R a b c (rep 12 tT) (mC x [tU y, tU y, tU z, tU (st [110, 117, 109, 98, 101, 114, 32, 70, 97, 108, 115, 101])] [])) := by kernel_rfl
theorem c3_2 (R : List D) (a b c : Int) (odd none far bad prime : D) (x y z : Str) : RUN 24 16 1 (sg odd none far bad (.int 0) prime 21 (.d (.glo 33)) .no) (hh R a b c (rep 12 tT) (mC x [tU y, tU y, tU z] [])) = .nx (sg odd none far bad (.int 0) prime 21 (.d (.glo 33)) .no) (hh R a b c (rep 12 tT) (mC x [tU y, tU y, tU z, tU (st [110, 117, 109, 98, 101, 114, 32, 48])] [])) := by kernel_rfl
theorem c3_3 (R : List D) (a b c : Int) (odd none far bad prime : D) (x y z : Str) : RUN 24 16 1 (sg odd none far bad (.str (st [50])) prime 21 (.d (.glo 33)) .no) (hh R a b c (rep 12 tT) (mC x [tU y, tU y, tU z] [])) = .nx (sg odd none far bad (.str (st [50])) prime 21 (.d (.glo 33)) .no) (hh R a b c (rep 12 tT) (mC x [tU y, tU y, tU z, tU (st [110, 117, 109, 98, 101, 114, 32, 39, 50, 39])] [])) := by kernel_rfl
theorem c3_4 (R : List D) (a b c : Int) (odd none far bad prime : D) (x y z : Str) : RUN 24 16 1 (sg odd none far bad (.int (10 ^ 60)) prime 21 (.d (.glo 33)) .no) (hh R a b c (rep 12 tT) (mC x [tU y, tU y, tU z] [])) = .nx (sg odd none far bad (.int (10 ^ 60)) prime 21 (.d (.glo 33)) .no) (hh R a b c (rep 12 tT) (mC x [tU y, tU y, tU z, tU (st [110, 117, 109, 98, 101, 114, 32, 49, 48, 48, 48, 48, 48, 48, 48, 48, 48, 48, 48, 48, 48, 48, 48, 48, 48, 48, 48, 48, 48, 48, 48, 48, 48, 48, 48, 48, 48, 48, 48, 48, 48, 48, 48, 48, 48, 48, 48, 48, 48, 48, 48, 48, 48, 48, 48, 48, 48, 48, 48, 48, 48, 48, 48, 48, 48, 48, 48, 48])] [])) := by kernel_rfl
theorem c3_5 (R : List D) (a b c : Int) (odd none far bad prime : D) (x y z : Str) : RUN 24 16 1 (sg odd none far bad (.tup [.int 2, .int 1]) prime 21 (.d (.glo 33)) .no) (hh R a b c (rep 12 tT) (mC x [tU y, tU y, tU z] [])) = .nx (sg odd none far bad (.tup [.int 2, .int 1]) prime 21 (.d (.glo 33)) .no) (hh R a b c (rep 12 tT) (mC x [tU y, tU y, tU z, tU (st [110, 117, 109, 98, 101, 114, 32, 40, 50, 44, 32, 49, 41])] [])) := by kernel_rfl
theorem c4 (R : List D) (a b c : Int) (odd none far bad low prime : D) (x y z u : Str) : RUN 23 17 1 (sg odd none far bad low prime 21 (.d (.glo 33)) .no) (hh R a b c (rep 12 tT) (mC x [tU y, tU y, tU z, tU u] [])) = .nx (sg odd none far bad low prime 21 (.d (.glo 33)) .no) (hh R a b c (rep 12 tT) (mC x [tU y, tU y, tU z, tU u, tU two] [])) := by kernel_rfl
theorem c5_0_0_0 (R : List D) (a b c : Int) (odd none prime : D) (x : Str) (L : List D) : RUN 22 18 1 (sg odd none (.non) (.non) (.non) prime 21 (.d (.glo 33)) .no) (hh R a b c (rep 12 tT) (mC x L [])) = .nx (sg odd none (.non) (.non) (.non) prime 21 (.d (.glo 33)) (.d (.ref 22))) (hh R a b c (rep 12 tT) (mC x L [.lst [.str (st [110, 117, 109, 98, 101, 114, 32, 78, 111, 110, 101]), .str (st [110, 117, 109, 98, 101, 114, 32, 78, 111, 110, 101]), .str (st [110, 117, 109, 98, 101, 114, 32, 78, 111, 110, 101]), .str (st [110, 117, 109, 98, 101, 114, 32, 78, 111, 110, 101]), .str two]])) := by kernel_rfl
theorem c5_0_0_1 (R : List D) (a b c : Int) (odd none prime : D) (x : Str) (L : List D) : RUN 22 18 1 (sg odd none (.non) (.non) (.bl false) prime 21 (.d (.glo 33)) .no) (hh R a b c (rep 12 tT) (mC x L [])) = .nx (sg odd none (.non) (.non) (.bl false) prime 21 (.d (.glo 33)) (.d (.ref 22))) (hh R a b c (rep 12 tT) (mC x L [.lst [.str (st [110, 117, 109, 98, 101, 114, 32, 78, 111, 110, 101]), .str (st [110, 117, 109, 98, 101, 114, 32, 78, 111, 110, 101]), .str (st [110, 117, 109, 98, 101, 114, 32, 78, 111, 110, 101]), .str (st [110, 117, 109, 98, 101, 114, 32, 70, 97, 108, 115, 101]), .str two]])) := by kernel_rfl
theorem c5_0_0_2 (R : List D) (a b c : Int) (odd none prime : D) (x : Str) (L : List D) : RUN 22 18 1 (sg odd none (.non) (.non) (.int 0) prime 21 (.d (.glo 33)) .no) (hh R a b c (rep 12 tT) (mC x L [])) = .nx (sg odd none (.non) (.non) (.int 0) prime 21 (.d (.glo 33)) (.d (.ref 22))) (hh R a b c (rep 12 tT) (mC x L [.lst [.str (st [110, 117, 109, 98, 101, 114, 32, 78, 111, 110, 101]), .str (st [110, 117, 109, 98, 101, 114, 32, 78, 111, 110, 101]), .str (st [110, 117, 109, 98, 101, 114, 32, 78, 111, 110, 101]), .str (st [110, 117, 109, 98, 101, 114, 32, 48]), .str two]])) := by kernel_rfl
theorem c5_0_0_3 (R : List D) (a b c : Int) (odd none prime : D) (x : Str) (L : List D) : RUN 22 18 1 (sg odd none (.non) (.non) (.str (st [50])) prime 21 (.d (.glo 33)) .no) (hh R a b c (rep 12 tT) (mC x L [])) = .nx (sg odd none (.non) (.non) (.str (st [50])) prime 21 (.d (.glo 33)) (.d (.ref 22))) (hh R a b c (rep 12 tT) (mC x L [.lst [.str (st [110, 117, 109, 98, 101, 114, 32, 78, 111, 110, 101]), .str (st [110, 117, 109, 98, 101, 114, 32, 78, 111, 110, 101]), .str (st [110, 117, 109, 98, 101, 114, 32, 78, 111, 110, 101]), .str (st [110, 117, 109, 98, 101, 114, 32, 39, 50, 39]), .str two]])) := by kernel_rfl
theorem c5_0_0_4 (R : List D) (a b c : Int) (odd none prime : D) (x : Str) (L : List D) : RUN 22 18 1 (sg odd none (.non) (.non) (.int (10 ^ 60)) prime 21 (.d (.glo 33)) .no) (hh R a b c (rep 12 tT) (mC x L [])) = .nx (sg odd none (.non) (.non) (.int (10 ^ 60)) prime 21 (.d (.glo 33)) (.d (.ref 22))) (hh R a b c (rep 12 tT) (mC x L [.lst [.str (st [110, 117, 109, 98, 101, 114, 32, 78, 111, 110, 101]), .str (st [110, 117, 109, 98, 101, 114, 32, 78, 111, 110, 101]), .str (st [110, 117, 109, 98, 101, 114, 32, 78, 111, 110, 101]), .str (st [110, 117, 109, 98, 101, 114, 32, 49, 48, 48, 48, 48, 48, 48, 48, 48, 48, 48, 48, 48, 48, 48, 48, 48, 48, 48, 48, 48, 48, 48, 48, 48, 48, 48, 48, 48, 48, 48, 48, 48, 48, 48, 48, 48, 48, 48, 48, 48, 48, 48, 48, 48, 48, 48, 48, 48, 48, 48, 48, 48, 48, 48, 48, 48, 48, 48, 48, 48]), .str two]])) := by kernel_rfl
theorem c5_0_0_5 (R : List D) (a b c : Int) (odd none prime : D) (x : Str) (L : List D) : RUN 22 18 1 (sg odd none (.non) (.non) (.tup [.int 2, .int 1]) prime 21 (.d (.glo 33)) .no) (hh R a b c (rep 12 tT) (mC x L [])) = .nx (sg odd none (.non) (.non) (.tup [.int 2, .int 1]) prime 21 (.d (.glo 33)) (.d (.ref 22))) (hh R a b c (rep 12 tT) (mC x L [.lst [.str (st [110, 117, 109, 98, 101, 114, 32, 78, 111, 110, 101]), .str (st [110, 117, 109, 98, 101, 114, 32, 78, 111, 110, 101]), .str (st [110, 117, 109, 98, 101, 114, 32, 78, 111, 110, 101]), .str (st [110, 117, 109, 98, 101, 114, 32, 40, 50, 44, 32, 49, 41]), .str two]])) := by kernel_rfl
theorem c5_0_1_0 (R : List D) (a b c : Int) (odd none prime : D) (x : Str) (L : List D) : RUN 22 18 1 (sg odd none (.non) (.bl true) (.non) prime 21 (.d (.glo 33)) .no) (hh R a b c (rep 12 tT) (mC x L [])) = .nx (sg odd none (.non) (.bl true) (.non) prime 21 (.d (.glo 33)) (.d (.ref 22))) (hh R a b c (rep 12 tT) (mC x L [.lst [.str (st [110, 117, 109, 98, 101, 114, 32, 78, 111, 110, 101]), .str (st [110, 117, 109, 98, 101, 114, 32, 78, 111, 110, 101]), .str (st [110, 117, 109, 98, 101, 114, 32, 84, 114, 117, 101]), .str (st [110, 117, 109, 98, 101, 114, 32, 78, 111, 110, 101]), .str two]])) := by kernel_rfl
theorem c5_0_1_1 (R : List D) (a b c : Int) (odd none prime : D) (x : Str) (L : List D) : RUN 22 18 1 (sg odd none (.non) (.bl true) (.bl false) prime 21 (.d (.glo 33)) .no) (hh R a b c (rep 12 tT) (mC x L [])) = .nx (sg odd none (.non) (.bl true) (.bl false) prime 21 (.d (.glo 33)) (.d (.ref 22))) (hh R a b c (rep 12 tT) (mC x L [.lst [.str (st [110, 117, 109, 98, 101, 114, 32, 78, 111, 110, 101]), .str (st [110, 117, 109, 98, 101, 114, 32, 78, 111, 110, 101]), .str (st [110, 117, 109, 98, 101, 114, 32, 84, 114, 117, 101]), .str (st [110, 117, 109, 98, 101, 114, 32, 70, 97, 108, 115, 101]), .str two]])) := by kernel_rfl
theorem c5_0_1_2 (R : List D) (a b c : Int) (odd none prime : D) (x : Str) (L : List D) : RUN 22 18 1 (sg odd none (.non) (.bl true) (.int 0) prime 21 (.d (.glo 33)) .no) (hh R a b c (rep 12 tT) (mC x L [])) = .nx (sg odd none (.non) (.bl true) (.int 0) prime 21 (.d (.glo 33)) (.d (.ref 22))) (hh R a b c (rep 12 tT) (mC x L [.lst [.str (st [110, 117, 109, 98, 101, 114, 32, 78, 111, 110, 101]), .str (st [110, 117, 109, 98, 101, 114, 32, 78, 111, 110, 101]), .str (st [110, 117, 109, 98, 101, 114, 32, 84, 114, 117, 101]), .str (st [110, 117, 109, 98, 101, 114, 32, 48]), .str two]])) := by kernel_rfl
theorem c5_0_1_3 (R : List D) (a b c : Int) (odd none prime : D) (x : Str) (L : List D) : RUN 22 18 1 (sg odd none (.non) (.bl true) (.str (st [50])) prime 21 (.d (.glo 33)) .no) (hh R a b c (rep 12 tT) (mC x L [])) = .nx (sg odd none (.non) (.bl true) (.str (st [50])) prime 21 (.d (.glo 33)) (.d (.ref 22))) (hh R a b c (rep 12 tT) (mC x L [.lst [.str (st [110, 117, 109, 98, 101, 114, 32, 78, 111, 110, 101]), .str (st [110, 117, 109, 98, 101, 114, 32, 78, 111, 110, 101]), .str (st [110, 117, 109, 98, 101, 114, 32, 84, 114, 117, 101]), .str (st [110, 117, 109, 98, 101, 114, 32, 39, 50, 39]), .str two]])) := by kernel_rfl
theorem c5_0_1_4 (R : List D) (a b c : Int) (odd none prime : D) (x : Str) (L : List D) : RUN 22 18 1 (sg odd none (.non) (.bl true) (.int (10 ^ 60)) prime 21 (.d (.glo 33)) .no) (hh R a b c (rep 12 tT) (mC x L [])) = .nx (sg odd none (.non) (.bl true) (.int (10 ^ 60)) prime 21 (.d (.glo 33)) (.d (.ref 22))) (hh R a b c (rep 12 tT) (mC x L [.lst [.str (st [110, 117, 109, 98, 101, 114, 32, 78, 111, 110, 101]), .str (st [110, 117, 109, 98, 101, 114, 32, 78, 111, 110, 101]), .str (st [110, 117, 109, 98, 101, 114, 32, 84, 114, 117, 101]), .str (st [110, 117, 109, 98, 101, 114, 32, 49, 48, 48, 48, 48, 48, 48, 48, 48, 48, 48, 48, 48, 48, 48, 48, 48, 48, 48, 48, 48, 48, 48, 48, 48, 48, 48, 48, 48, 48, 48, 48, 48, 48, 48, 48, 48, 48, 48, 48, 48, 48, 48, 48, 48, 48, 48, 48, 48, 48, 48, 48, 48, 48, 48, 48, 48, 48, 48, 48, 48]), .str two]])) := by kernel_rfl
theorem c5_0_1_5 (R : List D) (a b c : Int) (odd none prime : D) (x : Str) (L : List D) : RUN 22 18 1 (sg odd none (.non) (.bl true) (.tup [.int 2, .int 1]) prime 21 (.d (.glo 33)) .no) (hh R a b c (rep 12 tT) (mC x L [])) = .nx (sg odd none (.non) (.bl true) (.tup [.int 2, .int 1]) prime 21 (.d (.glo 33)) (.d (.ref 22))) (hh R a b c (rep 12 tT) (mC x L [.lst [.str (st [110, 117, 109, 98, 101, 114, 32, 78, 111, 110, 101]), .str (st [110, 117, 109, 98, 101, 114, 32, 78, 111, 110, 101]), .str (st [110, 117, 109, 98, 101, 114, 32, 84, 114, 117, 101]), .str (st [110, 117, 109, 98, 101, 114, 32, 40, 50, 44, 32, 49, 41]), .str two]])) := by kernel_rfl
theorem c5_0_2_0 (R : List D) (a b c : Int) (odd none prime : D) (x : Str) (L : List D) : RUN 22 18 1 (sg odd none (.non) (.str (st [49])) (.non) prime 21 (.d (.glo 33)) .no) (hh R a b c (rep 12 tT) (mC x L [])) = .nx (sg odd none (.non) (.str (st [49])) (.non) prime 21 (.d (.glo 33)) (.d (.ref 22))) (hh R a b c (rep 12 tT) (mC x L [.lst [.str (st [110, 117, 109, 98, 101, 114, 32, 78, 111, 110, 101]), .str (st [110, 117, 109, 98, 101, 114, 32, 78, 111, 110, 101]), .str (st [110, 117, 109, 98, 101, 114, 32, 39, 49, 39]), .str (st [110, 117, 109, 98, 101, 114, 32, 78, 111, 110, 101]), .str two]])) := by kernel_rfl
theorem c5_0_2_1 (R : List D) (a b c : Int) (odd none prime : D) (x : Str) (L : List D) : RUN 22 18 1 (sg odd none (.non) (.str (st [49])) (.bl false) prime 21 (.d (.glo 33)) .no) (hh R a b c (rep 12 tT) (mC x L [])) = .nx (sg odd none (.non) (.str (st [49])) (.bl false) prime 21 (.d (.glo 33)) (.d (.ref 22))) (hh R a b c (rep 12 tT) (mC x L [.lst [.str (st [110, 117, 109, 98, 101, 114, 32, 78, 111, 110, 101]), .str (st [110, 117, 109, 98, 101, 114, 32, 78, 111, 110, 101]), .str (st [110, 117, 109, 98, 101, 114, 32, 39, 49, 39]), .str (st [110, 117, 109, 98, 101, 114, 32, 70, 97, 108, 115, 101]), .str two]])) := by kernel_rfl
theorem c5_0_2_2 (R : List D) (a b c : Int) (odd none prime : D) (x : Str) (L : List D) : RUN 22 18 1 (sg odd none (.non) (.str (st [49])) (.int 0) prime 21 (.d (.glo 33)) .no) (hh R a b c (rep 12 tT) (mC x L [])) = .nx (sg odd none (.non) (.str (st [49])) (.int 0) prime 21 (.d (.glo 33)) (.d (.ref 22))) (hh R a b c (rep 12 tT) (mC x L [.lst [.str (st [110, 117, 109, 98, 101, 114, 32, 78, 111, 110, 101]), .str (st [110, 117, 109, 98, 101, 114, 32, 78, 111, 110, 101]), .str (st [110, 117, 109, 98, 101, 114, 32, 39, 49, 39]), .str (st [110, 117, 109, 98, 101, 114, 32, 48]), .str two]])) := by kernel_rfl
theorem c5_0_2_3 (R : List D) (a b c : Int) (odd none prime : D) (x : Str) (L : List D) : RUN 22 18 1 (sg odd none (.non) (.str (st [49])) (.str (st [50])) prime 21 (.d (.glo 33)) .no) (hh R a b c (rep 12 tT) (mC x L [])) = .nx (sg odd none (.non) (.str (st [49])) (.str (st [50])) prime 21 (.d (.glo 33)) (.d (.ref 22))) (hh R a b c (rep 12 tT) (mC x L [.lst [.str (st [110, 117, 109, 98, 101, 114, 32, 78, 111, 110, 101]), .str (st [110, 117, 109, 98, 101, 114, 32, 78, 111, 110, 101]), .str (st [110, 117, 109, 98, 101, 114, 32, 39, 49, 39]), .str (st [110, 117, 109, 98, 101, 114, 32, 39, 50, 39]), .str two]])) := by kernel_rfl
theorem c5_0_2_4 (R : List D) (a b c : Int) (odd none prime : D) (x : Str) (L : List D) : RUN 22 18 1 (sg odd none (.non) (.str (st [49])) (.int (10 ^ 60)) prime 21 (.d (.glo 33)) .no) (hh R a b c (rep 12 tT) (mC x L [])) = .nx (sg odd none (.non) (.str (st [49])) (.int (10 ^ 60)) prime 21 (.d (.glo 33)) (.d (.ref 22))) (hh R a b c (rep 12 tT) (mC x L [.lst [.str (st [110, 117, 109, 98, 101, 114, 32, 78, 111, 110, 101]), .str (st [110, 117, 109, 98, 101, 114, 32, 78, 111, 110, 101]), .str (st [110, 117, 109, 98, 101, 114, 32, 39, 49, 39]), .str (st [110, 117, 109, 98, 101, 114, 32, 49, 48, 48, 48, 48, 48, 48, 48, 48, 48, 48, 48, 48, 48, 48, 48, 48, 48, 48, 48, 48, 48, 48, 48, 48, 48, 48, 48, 48, 48, 48, 48, 48, 48, 48, 48, 48, 48, 48, 48, 48, 48, 48, 48, 48, 48, 48, 48, 48, 48, 48, 48, 48, 48, 48, 48, 48, 48, 48, 48, 48]), .str two]])) := by kernel_rfl
theorem c5_0_2_5 (R : List D) (a b c : Int) (odd none prime : D) (x : Str) (L : List D) : RUN 22 18 1 (sg odd none (.non) (.str (st [49])) (.tup [.int 2, .int 1]) prime 21 (.d (.glo 33)) .no) (hh R a b c (rep 12 tT) (mC x L [])) = .nx (sg odd none (.non) (.str (st [49])) (.tup [.int 2, .int 1]) prime 21 (.d (.glo 33)) (.d (.ref 22))) (hh R a b c (rep 12 tT) (mC x L [.lst [.str (st [110, 117, 109, 98, 101, 114, 32, 78, 111, 110, 101]), .str (st [110, 117, 109, 98, 101, 114, 32, 78, 111, 110, 101]), .str (st [110, 117, 109, 98, 101, 114, 32, 39, 49, 39]), .str (st [110, 117, 109, 98, 101, 114, 32, 40, 50, 44, 32, 49, 41]), .str two]])) := by kernel_rfl
theorem c5_0_3_0 (R : List D) (a b c : Int) (odd none prime : D) (x : Str) (L : List D) : RUN 22 18 1 (sg odd none (.non) (.int (10 ^ 60)) (.non) prime 21 (.d (.glo 33)) .no) (hh R a b c (rep 12 tT) (mC x L [])) = .nx (sg odd none (.non) (.int (10 ^ 60)) (.non) prime 21 (.d (.glo 33)) (.d (.ref 22))) (hh R a b c (rep 12 tT) (mC x L [.lst [.str (st [110, 117, 109, 98, 101, 114, 32, 78, 111, 110, 101]), .str (st [110, 117, 109, 98, 101, 114, 32, 78, 111, 110, 101]), .str (st [110, 117, 109, 98, 101, 114, 32, 49, 48, 48, 48, 48, 48, 48, 48, 48, 48, 48, 48, 48, 48, 48, 48, 48, 48, 48, 48, 48, 48, 48, 48, 48, 48, 48, 48, 48, 48, 48, 48, 48, 48, 48, 48, 48, 48, 48, 48, 48, 48, 48, 48, 48, 48, 48, 48, 48, 48, 48, 48, 48, 48, 48, 48, 48, 48, 48, 48, 48]), .str (st [110, 117, 109, 98, 101, 114, 32, 78, 111, 110, 101]), .str two]])) := by kernel_rfl
theorem c5_0_3_1 (R : List D) (a b c : Int) (odd none prime : D) (x : Str) (L : List D) : RUN 22 18 1 (sg odd none (.non) (.int (10 ^ 60)) (.bl false) prime 21 (.d (.glo 33)) .no) (hh R a b c (rep 12 tT) (mC x L [])) = .nx (sg odd none (.non) (.int (10 ^ 60)) (.bl false) prime 21 (.d (.glo 33)) (.d (.ref 22))) (hh R a b c (rep 12 tT) (mC x L [.lst [.str (st [110, 117, 109, 98, 101, 114, 32, 78, 111, 110, 101]), .str (st [110, 117, 109, 98, 101, 114, 32, 78, 111, 110, 101]), .str (st [110, 117, 109, 98, 101, 114, 32, 49, 48, 48, 48, 48, 48, 48, 48, 48, 48, 48, 48, 48, 48, 48, 48, 48, 48, 48, 48, 48, 48, 48, 48, 48, 48, 48, 48, 48, 48, 48, 48, 48, 48, 48, 48, 48, 48, 48, 48, 48, 48, 48, 48, 48, 48, 48, 48, 48, 48, 48, 48, 48, 48, 48, 48, 48, 48, 48, 48, 48]), .str (st [110, 117, 109, 98, 101, 114, 32, 70, 97, 108, 115, 101]), .str two]])) := by kernel_rfl
theorem c5_0_3_2 (R : List D) (a b c : Int) (odd none prime : D) (x : Str) (L : List D) : RUN 22 18 1 (sg odd none (.non) (.int (10 ^ 60)) (.int 0) prime 21 (.d (.glo 33)) .no) (hh R a b c (rep 12 tT) (mC x L [])) = .nx (sg odd none (.non) (.int (10 ^ 60)) (.int 0) prime 21 (.d (.glo 33)) (.d (.ref 22))) (hh R a b c (rep 12 tT) (mC x L [.lst [.str (st [110, 117, 109, 98, 101, 114, 32, 78, 111, 110, 101]), .str (st [110, 117, 109, 98, 101, 114, 32, 78, 111, 110, 101]), .str (st [110, 117, 109, 98, 101, 114, 32, 49, 48, 48, 48, 48, 48, 48, 48, 48, 48, 48, 48, 48, 48, 48, 48, 48, 48, 48, 48, 48, 48, 48, 48, 48, 48, 48, 48, 48, 48, 48, 48, 48, 48, 48, 48, 48, 48, 48, 48, 48, 48, 48, 48, 48, 48, 48, 48, 48, 48, 48, 48, 48, 48, 48, 48, 48, 48, 48, 48, 48]), .str (st [110, 117, 109, 98, 101, 114, 32, 48]), .str two]])) := by kernel_rfl
theorem c5_0_3_3 (R : List D) (a b c : Int) (odd none prime : D) (x : Str) (L : List D) : RUN 22 18 1 (sg odd none (.non) (.int (10 ^ 60)) (.str (st [50])) prime 21 (.d (.glo 33)) .no) (hh R a b c (rep 12 tT) (mC x L [])) = .nx (sg odd none (.non) (.int (10 ^ 60)) (.str (st [50])) prime 21 (.d (.glo 33)) (.d (.ref 22))) (hh R a b c (rep 12 tT) (mC x L [.lst [.str (st [110, 117, 109, 98, 101, 114, 32, 78, 111, 110, 101]), .str (st [110, 117, 109, 98, 101, 114, 32, 78, 111, 110, 101]), .str (st [110, 117, 109, 98, 101, 114, 32, 49, 48, 48, 48, 48, 48, 48, 48, 48, 48, 48, 48, 48, 48, 48, 48, 48, 48, 48, 48, 48, 48, 48, 48, 48, 48, 48, 48, 48, 48, 48, 48, 48, 48, 48, 48, 48, 48, 48, 48, 48, 48, 48, 48, 48, 48, 48, 48, 48, 48, 48, 48, 48, 48, 48, 48, 48, 48, 48, 48, 48]), .str (st [110, 117, 109, 98, 101, 114, 32, 39, 50, 39]), .str two]])) := by kernel_rfl
theorem c5_0_3_4 (R : List D) (a b c : Int) (odd none prime : D) (x : Str) (L : List D) : RUN 22 18 1 (sg odd none (.non) (.int (10 ^ 60)) (.int (10 ^ 60)) prime 21 (.d (.glo 33)) .no) (hh R a b c (rep 12 tT) (mC x L [])) = .nx (sg odd none (.non) (.int (10 ^ 60)) (.int (10 ^ 60)) prime 21 (.d (.glo 33)) (.d (.ref 22))) (hh R a b c (rep 12 tT) (mC x L [.lst [.str (st [110, 117, 109, 98, 101, 114, 32, 78, 111, 110, 101]), .str (st [110, 117, 109, 98, 101, 114, 32, 78, 111, 110, 101]), .str (st [110, 117, 109, 98, 101, 114, 32, 49, 48, 48, 48, 48, 48, 48, 48, 48, 48, 48, 48, 48, 48, 48, 48, 48, 48, 48, 48, 48, 48, 48, 48, 48, 48, 48, 48, 48, 48, 48, 48, 48, 48, 48, 48, 48, 48, 48, 48, 48, 48, 48, 48, 48, 48, 48, 48, 48, 48, 48, 48, 48, 48, 48, 48, 48, 48, 48, 48, 48]), .str (st [110, 117, 109, 98, 101, 114, 32, 49, 48, 48, 48, 48, 48, 48, 48, 48, 48, 48, 48, 48, 48, 48, 48, 48, 48, 48, 48, 48, 48, 48, 48, 48, 48, 48, 48, 48, 48, 48, 48, 48, 48, 48, 48, 48, 48, 48, 48, 48, 48, 48, 48, 48, 48, 48, 48, 48, 48, 48, 48, 48, 48, 48, 48, 48, 48, 48, 48, 48]), .str two]])) := by kernel_rfl
theorem c5_0_3_5 (R : List D) (a b c : Int) (odd none prime : D) (x : Str) (L : List D) : RUN 22 18 1 (sg odd none (.non) (.int (10 ^ 60)) (.tup [.int 2, .int 1]) prime 21 (.d (.glo 33)) .no) (hh R a b c (rep 12 tT) (mC x L [])) = .nx (sg odd none (.non) (.int (10 ^ 60)) (.tup [.int 2, .int 1]) prime 21 (.d (.glo 33)) (.d (.ref 22))) (hh R a b c (rep 12 tT) (mC x L [.lst [.str (st [110, 117, 109, 98, 101, 114, 32, 78, 111, 110, 101]), .str (st [110, 117, 109, 98, 101, 114, 32, 78, 111, 110, 101]), .str (st [110, 117, 109, 98, 101, 114, 32, 49, 48, 48, 48, 48, 48, 48, 48, 48, 48, 48, 48, 48, 48, 48, 48, 48, 48, 48, 48, 48, 48, 48, 48, 48, 48, 48, 48, 48, 48, 48, 48, 48, 48, 48, 48, 48, 48, 48, 48, 48, 48, 48, 48, 48, 48, 48, 48, 48, 48, 48, 48, 48, 48, 48, 48, 48, 48, 48, 48, 48]), .str (st [110, 117, 109, 98, 101, 114, 32, 40, 50, 44, 32, 49, 41]), .str two]])) := by kernel_rfl
theorem c5_0_4_0 (R : List D) (a b c : Int) (odd none prime : D) (x : Str) (L : List D) : RUN 22 18 1 (sg odd none (.non) (.tup [.int 1, .int 1]) (.non) prime 21 (.d (.glo 33)) .no) (hh R a b c (rep 12 tT) (mC x L [])) = .nx (sg odd none (.non) (.tup [.int 1, .int 1]) (.non) prime 21 (.d (.glo 33)) (.d (.ref 22))) (hh R a b c (rep 12 tT) (mC x L [.lst [.str (st [110, 117, 109, 98, 101, 114, 32, 78, 111, 110, 101]), .str (st [110, 117, 109, 98, 101, 114, 32, 78, 111, 110, 101]), .str (st [110, 117, 109, 98, 101, 114, 32, 40, 49, 44, 32, 49, 41]), .str (st [110, 117, 109, 98, 101, 114, 32, 78, 111, 110, 101]), .str two]])) := by kernel_rfl
theorem c5_0_4_1 (R : List D) (a b c : Int) (odd none prime : D) (x : Str) (L : List D) : RUN 22 18 1 (sg odd none (.non) (.tup [.int 1, .int 1]) (.bl false) prime 21 (.d (.glo 33)) .no) (hh R a b c (rep 12 tT) (mC x L [])) = .nx (sg odd none (.non) (.tup [.int 1, .int 1]) (.bl false) prime 21 (.d (.glo 33)) (.d (.ref 22))) (hh R a b c (rep 12 tT) (mC x L [.lst [.str (st [110, 117, 109, 98, 101, 114, 32, 78, 111, 110, 101]), .str (st [110, 117, 109, 98, 101, 114, 32, 78, 111, 110, 101]), .str (st [110, 117, 109, 98, 101, 114, 32, 40, 49, 44, 32, 49, 41]), .str (st [110, 117, 109, 98, 101, 114, 32, 70, 97, 108, 115, 101]), .str two]])) := by kernel_rfl
theorem c5_0_4_2 (R : List D) (a b c : Int) (odd none prime : D) (x : Str) (L : List D) : RUN 22 18 1 (sg odd none (.non) (.tup [.int 1, .int 1]) (.int 0) prime 21 (.d (.glo 33)) .no) (hh R a b c (rep 12 tT) (mC x L [])) = .nx (sg odd none (.non) (.tup [.int 1, .int 1]) (.int 0) prime 21 (.d (.glo 33)) (.d (.ref 22))) (hh R a b c (rep 12 tT) (mC x L [.lst [.str (st [110, 117, 109, 98, 101, 114, 32, 78, 111, 110, 101]), .str (st [110, 117, 109, 98, 101, 114, 32, 78, 111, 110, 101]), .str (st [110, 117, 109, 98, 101, 114, 32, 40, 49, 44, 32, 49, 41]), .str (st [110, 117, 109, 98, 101, 114, 32, 48]), .str two]])) := by kernel_rfl
theorem c5_0_4_3 (R : List D) (a b c : Int) (odd none prime : D) (x : Str) (L : List D) : RUN 22 18 1 (sg odd none (.non) (.tup [.int 1, .int 1]) (.str (st [50])) prime 21 (.d (.glo 33)) .no) (hh R a b c (rep 12 tT) (mC x L [])) = .nx (sg odd none (.non) (.tup [.int 1, .int 1]) (.str (st [50])) prime 21 (.d (.glo 33)) (.d (.ref 22))) (hh R a b c (rep 12 tT) (mC x L [.lst [.str (st [110, 117, 109, 98, 101, 114, 32, 78, 111, 110, 101]), .str (st [110, 117, 109, 98, 101, 114, 32, 78, 111, 110, 101]), .str (st [110, 117, 109, 98, 101, 114, 32, 40, 49, 44, 32, 49, 41]), .str (st [110, 117, 109, 98, 101, 114, 32, 39, 50, 39]), .str two]])) := by kernel_rfl
theorem c5_0_4_4 (R : List D) (a b c : Int) (odd none prime : D) (x : Str) (L : List D) : RUN 22 18 1 (sg odd none (.non) (.tup [.int 1, .int 1]) (.int (10 ^ 60)) prime 21 (.d (.glo 33)) .no) (hh R a b c (rep 12 tT) (mC x L [])) = .nx (sg odd none (.non) (.tup [.int 1, .int 1]) (.int (10 ^ 60)) prime 21 (.d (.glo 33)) (.d (.ref 22))) (hh R a b c (rep 12 tT) (mC x L [.lst [.str (st [110, 117, 109, 98, 101, 114, 32, 78, 111, 110, 101]), .str (st [110, 117, 109, 98, 101, 114, 32, 78, 111, 110, 101]), .str (st [110, 117, 109, 98, 101, 114, 32, 40, 49, 44, 32, 49, 41]), .str (st [110, 117, 109, 98, 101, 114, 32, 49, 48, 48, 48, 48, 48, 48, 48, 48, 48, 48, 48, 48, 48, 48, 48, 48, 48, 48, 48, 48, 48, 48, 48, 48, 48, 48, 48, 48, 48, 48, 48, 48, 48, 48, 48, 48, 48, 48, 48, 48, 48, 48, 48, 48, 48, 48, 48, 48, 48, 48, 48, 48, 48, 48, 48, 48, 48, 48, 48, 48]), .str two]])) := by kernel_rfl
theorem c5_0_4_5 (R : List D) (a b c : Int) (odd none prime : D) (x : Str) (L : List D) : RUN 22 18 1 (sg odd none (.non) (.tup [.int 1, .int 1]) (.tup [.int 2, .int 1]) prime 21 (.d (.glo 33)) .no) (hh R a b c (rep 12 tT) (mC x L [])) = .nx (sg odd none (.non) (.tup [.int 1, .int 1]) (.tup [.int 2, .int 1]) prime 21 (.d (.glo 33)) (.d (.ref 22))) (hh R a b c (rep 12 tT) (mC x L [.lst [.str (st [110, 117, 109, 98, 101, 114, 32, 78, 111, 110, 101]), .str (st [110, 117, 109, 98, 101, 114, 32, 78, 111, 110, 101]), .str (st [110, 117, 109, 98, 101, 114, 32, 40, 49, 44, 32, 49, 41]), .str (st [110, 117, 109, 98, 101, 114, 32, 40, 50, 44, 32, 49, 41]), .str two]])) := by kernel_rfl
theorem c5_0_5_0 (R : List D) (a b c : Int) (odd none prime : D) (x : Str) (L : List D) : RUN 22 18 1 (sg odd none (.non) (.ref 10) (.non) prime 21 (.d (.glo 33)) .no) (hh R a b c (rep 12 tT) (mC x L [])) = .nx (sg odd none (.non) (.ref 10) (.non) prime 21 (.d (.glo 33)) (.d (.ref 22))) (hh R a b c (rep 12 tT) (mC x L [.lst [.str (st [110, 117, 109, 98, 101, 114, 32, 78, 111, 110, 101]), .str (st [110, 117, 109, 98, 101, 114, 32, 78, 111, 110, 101]), .str (st [110, 117, 109, 98, 101, 114, 32, 91, 49, 93]), .str (st [110, 117, 109, 98, 101, 114, 32, 78, 111, 110, 101]), .str two]])) := by kernel_rfl
theorem c5_0_5_1 (R : List D) (a b c : Int) (odd none prime : D) (x : Str) (L : List D) : RUN 22 18 1 (sg odd none (.non) (.ref 10) (.bl false) prime 21 (.d (.glo 33)) .no) (hh R a b c (rep 12 tT) (mC x L [])) = .nx (sg odd none (.non) (.ref 10) (.bl false) prime 21 (.d (.glo 33)) (.d (.ref 22))) (hh R a b c (rep 12 tT) (mC x L [.lst [.str (st [110, 117, 109, 98, 101, 114, 32, 78, 111, 110, 101]), .str (st [110, 117, 109, 98, 101, 114, 32, 78, 111, 110, 101]), .str (st [110, 117, 109, 98, 101, 114, 32, 91, 49, 93]), .str (st [110, 117, 109, 98, 101, 114, 32, 70, 97, 108, 115, 101]), .str two]])) := by kernel_rfl
theorem c5_0_5_2 (R : List D) (a b c : Int) (odd none prime : D) (x : Str) (L : List D) : RUN 22 18 1 (sg odd none (.non) (.ref 10) (.int 0) prime 21 (.d (.glo 33)) .no) (hh R a b c (rep 12 tT) (mC x L [])) = .nx (sg odd none (.non) (.ref 10) (.int 0) prime 21 (.d (.glo 33)) (.d (.ref 22))) (hh R a b c (rep 12 tT) (mC x L [.lst [.str (st [110, 117, 109, 98, 101, 114, 32, 78, 111, 110, 101]), .str (st [110, 117, 109, 98, 101, 114, 32, 78, 111, 110, 101]), .str (st [110, 117, 109, 98, 101, 114, 32, 91, 49, 93]), .str (st [110, 117, 109, 98, 101, 114, 32, 48]), .str two]])) := by kernel_rfl
theorem c5_0_5_3 (R : List D) (a b c : Int) (odd none prime : D) (x : Str) (L : List D) : RUN 22 18 1 (sg odd none (.non) (.ref 10) (.str (st [50])) prime 21 (.d (.glo 33)) .no) (hh R a b c (rep 12 tT) (mC x L [])) = .nx (sg odd none (.non) (.ref 10) (.str (st [50])) prime 21 (.d (.glo 33)) (.d (.ref 22))) (hh R a b c (rep 12 tT) (mC x L [.lst [.str (st [110, 117, 109, 98, 101, 114, 32, 78, 111, 110, 101]), .str (st [110, 117, 109, 98, 101, 114, 32, 78, 111, 110, 101]), .str (st [110, 117, 109, 98, 101, 114, 32, 91, 49, 93]), .str (st [110, 117, 109, 98, 101, 114, 32, 39, 50, 39]), .str two]])) := by kernel_rfl
theorem c5_0_5_4 (R : List D) (a b c : Int) (odd none prime : D) (x : Str) (L : List D) : RUN 22 18 1 (sg odd none (.non) (.ref 10) (.int (10 ^ 60)) prime 21 (.d (.glo 33)) .no) (hh R a b c (rep 12 tT) (mC x L [])) = .nx (sg odd none (.non) (.ref 10) (.int (10 ^ 60)) prime 21 (.d (.glo 33)) (.d (.ref 22))) (hh R a b c (rep 12 tT) (mC x L [.lst [.str (st [110, 117, 109, 98, 101, 114, 32, 78, 111, 110, 101]), .str (st [110, 117, 109, 98, 101, 114, 32, 78, 111, 110, 101]), .str (st [110, 117, 109, 98, 101, 114, 32, 91, 49, 93]), .str (st [110, 117, 109, 98, 101, 114, 32, 49, 48, 48, 48, 48, 48, 48, 48, 48, 48, 48, 48, 48, 48, 48, 48, 48, 48, 48, 48, 48, 48, 48, 48, 48, 48, 48, 48, 48, 48, 48, 48, 48, 48, 48, 48, 48, 48, 48, 48, 48, 48, 48, 48, 48, 48, 48, 48, 48, 48, 48, 48, 48, 48, 48, 48, 48, 48, 48, 48, 48]), .str two]])) := by kernel_rfl
theorem c5_0_5_5 (R : List D) (a b c : Int) (odd none prime : D) (x : Str) (L : List D) : RUN 22 18 1 (sg odd none (.non) (.ref 10) (.tup [.int 2, .int 1]) prime 21 (.d (.glo 33)) .no) (hh R a b c (rep 12 tT) (mC x L [])) = .nx (sg odd none (.non) (.ref 10) (.tup [.int 2, .int 1]) prime 21 (.d (.glo 33)) (.d (.ref 22))) (hh R a b c (rep 12 tT) (mC x L [.lst [.str (st [110, 117, 109, 98, 101, 114, 32, 78, 111, 110, 101]), .str (st [110, 117, 109, 98, 101, 114, 32, 78, 111, 110, 101]), .str (st [110, 117, 109, 98, 101, 114, 32, 91, 49, 93]), .str (st [110, 117, 109, 98, 101, 114, 32, 40, 50, 44, 32, 49, 41]), .str two]])) := by kernel_rfl
theorem c5_1_0_0 (R : List D) (a b c : Int) (odd none prime : D) (x : Str) (L : List D) : RUN 22 18 1 (sg odd none (.int (-1)) (.non) (.non) prime 21 (.d (.glo 33)) .no) (hh R a b c (rep 12 tT) (mC x L [])) = .nx (sg odd none (.int (-1)) (.non) (.non) prime 21 (.d (.glo 33)) (.d (.ref 22))) (hh R a b c (rep 12 tT) (mC x L [.lst [.str (st [110, 117, 109, 98, 101, 114, 32, 45, 49]), .str (st [110, 117, 109, 98, 101, 114, 32, 45, 49]), .str (st [110, 117, 109, 98, 101, 114, 32, 78, 111, 110, 101]), .str (st [110, 117, 109, 98, 101, 114, 32, 78, 111, 110, 101]), .str two]])) := by kernel_rfl
theorem c5_1_0_1 (R : List D) (a b c : Int) (odd none prime : D) (x : Str) (L : List D) : RUN 22 18 1 (sg odd none (.int (-1)) (.non) (.bl false) prime 21 (.d (.glo 33)) .no) (hh R a b c (rep 12 tT) (mC x L [])) = .nx (sg odd none (.int (-1)) (.non) (.bl false) prime 21 (.d (.glo 33)) (.d (.ref 22))) (hh R a b c (rep 12 tT) (mC x L [.lst [.str (st [110, 117, 109, 98, 101, 114, 32, 45, 49]), .str (st [110, 117, 109, 98, 101, 114, 32, 45, 49]), .str (st [110, 117, 109, 98, 101, 114, 32, 78, 111, 110, 101]), .str (st [110, 117, 109, 98, 101, 114, 32, 70, 97, 108, 115, 101]), .str two]])) := by kernel_rfl
theorem c5_1_0_2 (R : List D) (a b c : Int) (odd none prime : D) (x : Str) (L : List D) : RUN 22 18 1 (sg odd none (.int (-1)) (.non) (.int 0) prime 21 (.d (.glo 33)) .no) (hh R a b c (rep 12 tT) (mC x L [])) = .nx (sg odd none (.int (-1)) (.non) (.int 0) prime 21 (.d (.glo 33)) (.d (.ref 22))) (hh R a b c (rep 12 tT) (mC x L [.lst [.str (st [110, 117, 109, 98, 101, 114, 32, 45, 49]), .str (st [110, 117, 109, 98, 101, 114, 32, 45, 49]), .str (st [110, 117, 109, 98, 101, 114, 32, 78, 111, 110, 101]), .str (st [110, 117, 109, 98, 101, 114, 32, 48]), .str two]])) := by kernel_rfl
theorem c5_1_0_3 (R : List D) (a b c : Int) (odd none prime : D) (x : Str) (L : List D) : RUN 22 18 1 (sg odd none (.int (-1)) (.non) (.str (st [50])) prime 21 (.d (.glo 33)) .no) (hh R a b c (rep 12 tT) (mC x L [])) = .nx (sg odd none (.int (-1)) (.non) (.str (st [50])) prime 21 (.d (.glo 33)) (.d (.ref 22))) (hh R a b c (rep 12 tT) (mC x L [.lst [.str (st [110, 117, 109, 98, 101, 114, 32, 45, 49]), .str (st [110, 117, 109, 98, 101, 114, 32, 45, 49]), .str (st [110, 117, 109, 98, 101, 114, 32, 78, 111, 110, 101]), .str (st [110, 117, 109, 98, 101, 114, 32, 39, 50, 39]), .str two]])) := by kernel_rfl
theorem c5_1_0_4 (R : List D) (a b c : Int) (odd none prime : D) (x : Str) (L : List D) : RUN 22 18 1 (sg odd none (.int (-1)) (.non) (.int (10 ^ 60)) prime 21 (.d (.glo 33)) .no) (hh R a b c (rep 12 tT) (mC x L [])) = .nx (sg odd none (.int (-1)) (.non) (.int (10 ^ 60)) prime 21 (.d (.glo 33)) (.d (.ref 22))) (hh R a b c (rep 12 tT) (mC x L [.lst [.str (st [110, 117, 109, 98, 101, 114, 32, 45, 49]), .str (st [110, 117, 109, 98, 101, 114, 32, 45, 49]), .str (st [110, 117, 109, 98, 101, 114, 32, 78, 111, 110, 101]), .str (st [110, 117, 109, 98, 101, 114, 32, 49, 48, 48, 48, 48, 48, 48, 48, 48, 48, 48, 48, 48, 48, 48, 48, 48, 48, 48, 48, 48, 48, 48, 48, 48, 48, 48, 48, 48, 48, 48, 48, 48, 48, 48, 48, 48, 48, 48, 48, 48, 48, 48, 48, 48, 48, 48, 48, 48, 48, 48, 48, 48, 48, 48, 48, 48, 48, 48, 48, 48]), .str two]])) := by kernel_rfl
theorem c5_1_0_5 (R : List D) (a b c : Int) (odd none prime : D) (x : Str) (L : List D) : RUN 22 18 1 (sg odd none (.int (-1)) (.non) (.tup [.int 2, .int 1]) prime 21 (.d (.glo 33)) .no) (hh R a b c (rep 12 tT) (mC x L [])) = .nx (sg odd none (.int (-1)) (.non) (.tup [.int 2, .int 1]) prime 21 (.d (.glo 33)) (.d (.ref 22))) (hh R a b c (rep 12 tT) (mC x L [.lst [.str (st [110, 117, 109, 98, 101, 114, 32, 45, 49]), .str (st [110, 117, 109, 98, 101, 114, 32, 45, 49]), .str (st [110, 117, 109, 98, 101, 114, 32, 78, 111, 110, 101]), .str (st [110, 117, 109, 98, 101, 114, 32, 40, 50, 44, 32, 49, 41]), .str two]])) := by kernel_rfl
theorem c5_1_1_0 (R : List D) (a b c : Int) (odd none prime : D) (x : Str) (L : List D) : RUN 22 18 1 (sg odd none (.int (-1)) (.bl true) (.non) prime 21 (.d (.glo 33)) .no) (hh R a b c (rep 12 tT) (mC x L [])) = .nx (sg odd none (.int (-1)) (.bl true) (.non) prime 21 (.d (.glo 33)) (.d (.ref 22))) (hh R a b c (rep 12 tT) (mC x L [.lst [.str (st [110, 117, 109, 98, 101, 114, 32, 45, 49]), .str (st [110, 117, 109, 98, 101, 114, 32, 45, 49]), .str (st [110, 117, 109, 98, 101, 114, 32, 84, 114, 117, 101]), .str (st [110, 117, 109, 98, 101, 114, 32, 78, 111, 110, 101]), .str two]])) := by kernel_rfl
theorem c5_1_1_1 (R : List D) (a b c : Int) (odd none prime : D) (x : Str) (L : List D) : RUN 22 18 1 (sg odd none (.int (-1)) (.bl true) (.bl false) prime 21 (.d (.glo 33)) .no) (hh R a b c (rep 12 tT) (mC x L [])) = .nx (sg odd none (.int (-1)) (.bl true) (.bl false) prime 21 (.d (.glo 33)) (.d (.ref 22))) (hh R a b c (rep 12 tT) (mC x L [.lst [.str (st [110, 117, 109, 98, 101, 114, 32, 45, 49]), .str (st [110, 117, 109, 98, 101, 114, 32, 45, 49]), .str (st [110, 117, 109, 98, 101, 114, 32, 84, 114, 117, 101]), .str (st [110, 117, 109, 98, 101, 114, 32, 70, 97, 108, 115, 101]), .str two]])) := by kernel_rfl
theorem c5_1_1_2 (R : List D) (a b c : Int) (odd none prime : D) (x : Str) (L : List D) : RUN 22 18 1 (sg odd none (.int (-1)) (.bl true) (.int 0) prime 21 (.d (.glo 33)) .no) (hh R a b c (rep 12 tT) (mC x L [])) = .nx (sg odd none (.int (-1)) (.bl true) (.int 0) prime 21 (.d (.glo 33)) (.d (.ref 22))) (hh R a b c (rep 12 tT) (mC x L [.lst [.str (st [110, 117, 109, 98, 101, 114, 32, 45, 49]), .str (st [110, 117, 109, 98, 101, 114, 32, 45, 49]), .str (st [110, 117, 109, 98, 101, 114, 32, 84, 114, 117, 101]), .str (st [110, 117, 109, 98, 101, 114, 32, 48]), .str two]])) := by kernel_rfl
theorem c5_1_1_3 (R : List D) (a b c : Int) (odd none prime : D) (x : Str) (L : List D) : RUN 22 18 1 (sg odd none (.int (-1)) (.bl true) (.str (st [50])) prime 21 (.d (.glo 33)) .no) (hh R a b c (rep 12 tT) (mC x L [])) = .nx (sg odd none (.int (-1)) (.bl true) (.str (st [50])) prime 21 (.d (.glo 33)) (.d (.ref 22))) (hh R a b c (rep 12 tT) (mC x L [.lst [.str (st [110, 117, 109, 98, 101, 114, 32, 45, 49]), .str (st [110, 117, 109, 98, 101, 114, 32, 45, 49]), .str (st [110, 117, 109, 98, 101, 114, 32, 84, 114, 117, 101]), .str (st [110, 117, 109, 98, 101, 114, 32, 39, 50, 39]), .str two]])) := by kernel_rfl
theorem c5_1_1_4 (R : List D) (a b c : Int) (odd none prime : D) (x : Str) (L : List D) : RUN 22 18 1 (sg odd none (.int (-1)) (.bl true) (.int (10 ^ 60)) prime 21 (.d (.glo 33)) .no) (hh R a b c (rep 12 tT) (mC x L [])) = .nx (sg odd none (.int (-1)) (.bl true) (.int (10 ^ 60)) prime 21 (.d (.glo 33)) (.d (.ref 22))) (hh R a b c (rep 12 tT) (mC x L [.lst [.str (st [110, 117, 109, 98, 101, 114, 32, 45, 49]), .str (st [110, 117, 109, 98, 101, 114, 32, 45, 49]), .str (st [110, 117, 109, 98, 101, 114, 32, 84, 114, 117, 101]), .str (st [110, 117, 109, 98, 101, 114, 32, 49, 48, 48, 48, 48, 48, 48, 48, 48, 48, 48, 48, 48, 48, 48, 48, 48, 48, 48, 48, 48, 48, 48, 48, 48, 48, 48, 48, 48, 48, 48, 48, 48, 48, 48, 48, 48, 48, 48, 48, 48, 48, 48, 48, 48, 48, 48, 48, 48, 48, 48, 48, 48, 48, 48, 48, 48, 48, 48, 48, 48]), .str two]])) := by kernel_rfl
theorem c5_1_1_5 (R : List D) (a b c : Int) (odd none prime : D) (x : Str) (L : List D) : RUN 22 18 1 (sg odd none (.int (-1)) (.bl true) (.tup [.int 2, .int 1]) prime 21 (.d (.glo 33)) .no) (hh R a b c (rep 12 tT) (mC x L [])) = .nx (sg odd none (.int (-1)) (.bl true) (.tup [.int 2, .int 1]) prime 21 (.d (.glo 33)) (.d (.ref 22))) (hh R a b c (rep 12 tT) (mC x L [.lst [.str (st [110, 117, 109, 98, 101, 114, 32, 45, 49]), .str (st [110, 117, 109, 98, 101, 114, 32, 45, 49]), .str (st [110, 117, 109, 98, 101, 114, 32, 84, 114, 117, 101]), .str (st [110, 117, 109, 98, 101, 114, 32, 40, 50, 44, 32, 49, 41]), .str two]])) := by kernel_rfl
theorem c5_1_2_0 (R : List D) (a b c : Int) (odd none prime : D) (x : Str) (L : List D) : RUN 22 18 1 (sg odd none (.int (-1)) (.str (st [49])) (.non) prime 21 (.d (.glo 33)) .no) (hh R a b c (rep 12 tT) (mC x L [])) = .nx (sg odd none (.int (-1)) (.str (st [49])) (.non) prime 21 (.d (.glo 33)) (.d (.ref 22))) (hh R a b c (rep 12 tT) (mC x L [.lst [.str (st [110, 117, 109, 98, 101, 114, 32, 45, 49]), .str (st [110, 117, 109, 98, 101, 114, 32, 45, 49]), .str (st [110, 117, 109, 98, 101, 114, 32, 39, 49, 39]), .str (st [110, 117, 109, 98, 101, 114, 32, 78, 111, 110, 101]), .str two]])) := by kernel_rfl
theorem c5_1_2_1 (R : List D) (a b c : Int) (odd none prime : D) (x : Str) (L : List D) : RUN 22 18 1 (sg odd none (.int (-1)) (.str (st [49])) (.bl false) prime 21 (.d (.glo 33)) .no) (hh R a b c (rep 12 tT) (mC x L [])) = .nx (sg odd none (.int (-1)) (.str (st [49])) (.bl false) prime 21 (.d (.glo 33)) (.d (.ref 22))) (hh R a b c (rep 12 tT) (mC x L [.lst [.str (st [110, 117, 109, 98, 101, 114, 32, 45, 49]), .str (st [110, 117, 109, 98, 101, 114, 32, 45, 49]), .str (st [110, 117, 109, 98, 101, 114, 32, 39, 49, 39]), .str (st [110, 117, 109, 98, 101, 114, 32, 70, 97, 108, 115, 101]), .str two]])) := by kernel_rfl
theorem c5_1_2_2 (R : List D) (a b c : Int) (odd none prime : D) (x : Str) (L : List D) : RUN 22 18 1 (sg odd none (.int (-1)) (.str (st [49])) (.int 0) prime 21 (.d (.glo 33)) .no) (hh R a b c (rep 12 tT) (mC x L [])) = .nx (sg odd none (.int (-1)) (.str (st [49])) (.int 0) prime 21 (.d (.glo 33)) (.d (.ref 22))) (hh R a b c (rep 12 tT) (mC x L [.lst [.str (st [110, 117, 109, 98, 101, 114, 32, 45, 49]), .str (st [110, 117, 109, 98, 101, 114, 32, 45, 49]), .str (st [110, 117, 109, 98, 101, 114, 32, 39, 49, 39]), .str (st [110, 117, 109, 98, 101, 114, 32, 48]), .str two]])) := by kernel_rfl
theorem c5_1_2_3 (R : List D) (a b c : Int) (odd none prime : D) (x : Str) (L : List D) : RUN 22 18 1 (sg odd none (.int (-1)) (.str (st [49])) (.str (st [50])) prime 21 (.d (.glo 33)) .no) (hh R a b c (rep 12 tT) (mC x L [])) = .nx (sg odd none (.int (-1)) (.str (st [49])) (.str (st [50])) prime 21 (.d (.glo 33)) (.d (.ref 22))) (hh R a b c (rep 12 tT) (mC x L [.lst [.str (st [110, 117, 109, 98, 101, 114, 32, 45, 49]), .str (st [110, 117, 109, 98, 101, 114, 32, 45, 49]), .str (st [110, 117, 109, 98, 101, 114, 32, 39, 49, 39]), .str (st [110, 117, 109, 98, 101, 114, 32, 39, 50, 39]), .str two]])) := by kernel_rfl
theorem c5_1_2_4 (R : List D) (a b c : Int) (odd none prime : D) (x : Str) (L : List D) : RUN 22 18 1 (sg odd none (.int (-1)) (.str (st [49])) (.int (10 ^ 60)) prime 21 (.d (.glo 33)) .no) (hh R a b c (rep 12 tT) (mC x L [])) = .nx (sg odd none (.int (-1)) (.str (st [49])) (.int (10 ^ 60)) prime 21 (.d (.glo 33)) (.d (.ref 22))) (hh R a b c (rep 12 tT) (mC x L [.lst [.str (st [110, 117, 109, 98, 101, 114, 32, 45, 49]), .str (st [110, 117, 109, 98, 101, 114, 32, 45, 49]), .str (st [110, 117, 109, 98, 101, 114, 32, 39, 49, 39]), .str (st [110, 117, 109, 98, 101, 114, 32, 49, 48, 48, 48, 48, 48, 48, 48, 48, 48, 48, 48, 48, 48, 48, 48, 48, 48, 48, 48, 48, 48, 48, 48, 48, 48, 48, 48, 48, 48, 48, 48, 48, 48, 48, 48, 48, 48, 48, 48, 48, 48, 48, 48, 48, 48, 48, 48, 48, 48, 48, 48, 48, 48, 48, 48, 48, 48, 48, 48, 48]), .str two]])) := by kernel_rfl
theorem c5_1_2_5 (R : List D) (a b c : Int) (odd none prime : D) (x : Str) (L : List D) : RUN 22 18 1 (sg odd none (.int (-1)) (.str (st [49])) (.tup [.int 2, .int 1]) prime 21 (.d (.glo 33)) .no) (hh R a b c (rep 12 tT) (mC x L [])) = .nx (sg odd none (.int (-1)) (.str (st [49])) (.tup [.int 2, .int 1]) prime 21 (.d (.glo 33)) (.d (.ref 22))) (hh R a b c (rep 12 tT) (mC x L [.lst [.str (st [110, 117, 109, 98, 101, 114, 32, 45, 49]), .str (st [110, 117, 109, 98, 101, 114, 32, 45, 49]), .str (st [110, 117, 109, 98, 101, 114, 32, 39, 49, 39]), .str (st [110, 117, 109, 98, 101, 114, 32, 40, 50, 44, 32, 49, 41]), .str two]])) := by kernel_rfl
theorem c5_1_3_0 (R : List D) (a b c : Int) (odd none prime : D) (x : Str) (L : List D) : RUN 22 18 1 (sg odd none (.int (-1)) (.int (10 ^ 60)) (.non) prime 21 (.d (.glo 33)) .no) (hh R a b c (rep 12 tT) (mC x L [])) = .nx (sg odd none (.int (-1)) (.int (10 ^ 60)) (.non) prime 21 (.d (.glo 33)) (.d (.ref 22))) (hh R a b c (rep 12 tT) (mC x L [.lst [.str (st [110, 117, 109, 98, 101, 114, 32, 45, 49]), .str (st [110, 117, 109, 98, 101, 114, 32, 45, 49]), .str (st [110, 117, 109, 98, 101, 114, 32, 49, 48, 48, 48, 48, 48, 48, 48, 48, 48, 48, 48, 48, 48, 48, 48, 48, 48, 48, 48, 48, 48, 48, 48, 48, 48, 48, 48, 48, 48, 48, 48, 48, 48, 48, 48, 48, 48, 48, 48, 48, 48, 48, 48, 48, 48, 48, 48, 48, 48, 48, 48, 48, 48, 48, 48, 48, 48, 48, 48, 48]), .str (st [110, 117, 109, 98, 101, 114, 32, 78, 111, 110, 101]), .str two]])) := by kernel_rfl
theorem c5_1_3_1 (R : List D) (a b c : Int) (odd none prime : D) (x : Str) (L : List D) : RUN 22 18 1 (sg odd none (.int (-1)) (.int (10 ^ 60)) (.bl false) prime 21 (.d (.glo 33)) .no) (hh R a b c (rep 12 tT) (mC x L [])) = .nx (sg odd none (.int (-1)) (.int (10 ^ 60)) (.bl false) prime 21 (.d (.glo 33)) (.d (.ref 22))) (hh R a b c (rep 12 tT) (mC x L [.lst [.str (st [110, 117, 109, 98, 101, 114, 32, 45, 49]), .str (st [110, 117, 109, 98, 101, 114, 32, 45, 49]), .str (st [110, 117, 109, 98, 101, 114, 32, 49, 48, 48, 48, 48, 48, 48, 48, 48, 48, 48, 48, 48, 48, 48, 48, 48, 48, 48, 48, 48, 48, 48, 48, 48, 48, 48, 48, 48, 48, 48, 48, 48, 48, 48, 48, 48, 48, 48, 48, 48, 48, 48, 48, 48, 48, 48, 48, 48, 48, 48, 48, 48, 48, 48, 48, 48, 48, 48, 48, 48]), .str (st [110, 117, 109, 98, 101, 114, 32, 70, 97, 108, 115, 101]), .str two]])) := by kernel_rfl
theorem c5_1_3_2 (R : List D) (a b c : Int) (odd none prime : D) (x : Str) (L : List D) : RUN 22 18 1 (sg odd none (.int (-1)) (.int (10 ^ 60)) (.int 0) prime 21 (.d (.glo 33)) .no) (hh R a b c (rep 12 tT) (mC x L [])) = .nx (sg odd none (.int (-1)) (.int (10 ^ 60)) (.int 0) prime 21 (.d (.glo 33)) (.d (.ref 22))) (hh R a b c (rep 12 tT) (mC x L [.lst [.str (st [110, 117, 109, 98, 101, 114, 32, 45, 49]), .str (st [110, 117, 109, 98, 101, 114, 32, 45, 49]), .str (st [110, 117, 109, 98, 101, 114, 32, 49, 48, 48, 48, 48, 48, 48, 48, 48, 48, 48, 48, 48, 48, 48, 48, 48, 48, 48, 48, 48, 48, 48, 48, 48, 48, 48, 48, 48, 48, 48, 48, 48, 48, 48, 48, 48, 48, 48, 48, 48, 48, 48, 48, 48, 48, 48, 48, 48, 48, 48, 48, 48, 48, 48, 48, 48, 48, 48, 48, 48]), .str (st [110, 117, 109, 98, 101, 114, 32, 48]), .str two]])) := by kernel_rfl
theorem c5_1_3_3 (R : List D) (a b c : Int) (odd none prime : D) (x : Str) (L : List D) : RUN 22 18 1 (sg odd none (.int (-1)) (.int (10 ^ 60)) (.str (st [50])) prime 21 (.d (.glo 33)) .no) (hh R a b c (rep 12 tT) (mC x L [])) = .nx (sg odd none (.int (-1)) (.int (10 ^ 60)) (.str (st [50])) prime 21 (.d (.glo 33)) (.d (.ref 22))) (hh R a b c (rep 12 tT) (mC x L [.lst [.str (st [110, 117, 109, 98, 101, 114, 32, 45, 49]), .str (st [110, 117, 109, 98, 101, 114, 32, 45, 49]), .str (st [110, 117, 109, 98, 101, 114, 32, 49, 48, 48, 48, 48, 48, 48, 48, 48, 48, 48, 48, 48, 48, 48, 48, 48, 48, 48, 48, 48, 48, 48, 48, 48, 48, 48, 48, 48, 48, 48, 48, 48, 48, 48, 48, 48, 48, 48, 48, 48, 48, 48, 48, 48, 48, 48, 48, 48, 48, 48, 48, 48, 48, 48, 48, 48, 48, 48, 48, 48]), .str (st [110, 117, 109, 98, 101, 114, 32, 39, 50, 39]), .str two]])) := by kernel_rfl
theorem c5_1_3_4 (R : List D) (a b c : Int) (odd none prime : D) (x : Str) (L : List D) : RUN 22 18 1 (sg odd none (.int (-1)) (.int (10 ^ 60)) (.int (10 ^ 60)) prime 21 (.d (.glo 33)) .no) (hh R a b c (rep 12 tT) (mC x L [])) = .nx (sg odd none (.int (-1)) (.int (10 ^ 60)) (.int (10 ^ 60)) prime 21 (.d (.glo 33)) (.d (.ref 22))) (hh R a b c (rep 12 tT) (mC x L [.lst [.str (st [110, 117, 109, 98, 101, 114, 32, 45, 49]), .str (st [110, 117, 109, 98, 101, 114, 32, 45, 49]), .str (st [110, 117, 109, 98, 101, 114, 32, 49, 48, 48, 48, 48, 48, 48, 48, 48, 48, 48, 48, 48, 48, 48, 48, 48, 48, 48, 48, 48, 48, 48, 48, 48, 48, 48, 48, 48, 48, 48, 48, 48, 48, 48, 48, 48, 48, 48, 48, 48, 48, 48, 48, 48, 48, 48, 48, 48, 48, 48, 48, 48, 48, 48, 48, 48, 48, 48, 48, 48]), .str (st [110, 117, 109, 98, 101, 114, 32, 49, 48, 48, 48, 48, 48, 48, 48, 48, 48, 48, 48, 48, 48, 48, 48, 48, 48, 48, 48, 48, 48, 48, 48, 48, 48, 48, 48, 48, 48, 48, 48, 48, 48, 48, 48, 48, 48, 48, 48, 48, 48, 48, 48, 48, 48, 48, 48, 48, 48, 48, 48, 48, 48, 48, 48, 48, 48, 48, 48, 48]), .str two]])) := by kernel_rfl
theorem c5_1_3_5 (R : List D) (a b c : Int) (odd none prime : D) (x : Str) (L : List D) : RUN 22 18 1 (sg odd none (.int (-1)) (.int (10 ^ 60)) (.tup [.int 2, .int 1]) prime 21 (.d (.glo 33)) .no) (hh R a b c (rep 12 tT) (mC x L [])) = .nx (sg odd none (.int (-1)) (.int (10 ^ 60)) (.tup [.int 2, .int 1]) prime 21 (.d (.glo 33)) (.d (.ref 22))) (hh R a b c (rep 12 tT) (mC x L [.lst [.str (st [110, 117, 109, 98, 101, 114, 32, 45, 49]), .str (st [110, 117, 109, 98, 101, 114, 32, 45, 49]), .str (st [110, 117, 109, 98, 101, 114, 32, 49, 48, 48, 48, 48, 48, 48, 48, 48, 48, 48, 48, 48, 48, 48, 48, 48, 48, 48, 48, 48, 48, 48, 48, 48, 48, 48, 48, 48, 48, 48, 48, 48, 48, 48, 48, 48, 48, 48, 48, 48, 48, 48, 48, 48, 48, 48, 48, 48, 48, 48, 48, 48, 48, 48, 48, 48, 48, 48, 48, 48]), .str (st [110, 117, 109, 98, 101, 114, 32, 40, 50, 44, 32, 49, 41]), .str two]])) := by kernel_rfl
theorem c5_1_4_0 (R : List D) (a b c : Int) (odd none prime : D) (x : Str) (L : List D) : RUN 22 18 1 (sg odd none (.int (-1)) (.tup [.int 1, .int 1]) (.non) prime 21 (.d (.glo 33)) .no) (hh R a b c (rep 12 tT) (mC x L [])) = .nx (sg odd none (.int (-1)) (.tup [.int 1, .int 1]) (.non) prime 21 (.d (.glo 33)) (.d (.ref 22))) (hh R a b c (rep 12 tT) (mC x L [.lst [.str (st [110, 117, 109, 98, 101, 114, 32, 45, 49]), .str (st [110, 117, 109, 98, 101, 114, 32, 45, 49]), .str (st [110, 117, 109, 98, 101, 114, 32, 40, 49, 44, 32, 49, 41]), .str (st [110, 117, 109, 98, 101, 114, 32, 78, 111, 110, 101]), .str two]])) := by kernel_rfl
theorem c5_1_4_1 (R : List D) (a b c : Int) (odd none prime : D) (x : Str) (L : List D) : RUN 22 18 1 (sg odd none (.int (-1)) (.tup [.int 1, .int 1]) (.bl false) prime 21 (.d (.glo 33)) .no) (hh R a b c (rep 12 tT) (mC x L [])) = .nx (sg odd none (.int (-1)) (.tup [.int 1, .int 1]) (.bl false) prime 21 (.d (.glo 33)) (.d (.ref 22))) (hh R a b c (rep 12 tT) (mC x L [.lst [.str (st [110, 117, 109, 98, 101, 114, 32, 45, 49]), .str (st [110, 117, 109, 98, 101, 114, 32, 45, 49]), .str (st [110, 117, 109, 98, 101, 114, 32, 40, 49, 44, 32, 49, 41]), .str (st [110, 117, 109, 98, 101, 114, 32, 70, 97, 108, 115, 101]), .str two]])) := by kernel_rfl
theorem c5_1_4_2 (R : List D) (a b c : Int) (odd none prime : D) (x : Str) (L : List D) : RUN 22 18 1 (sg odd none (.int (-1)) (.tup [.int 1, .int 1]) (.int 0) prime 21 (.d (.glo 33)) .no) (hh R a b c (rep 12 tT) (mC x L [])) = .nx (sg odd none (.int (-1)) (.tup [.int 1, .int 1]) (.int 0) prime 21 (.d (.glo 33)) (.d (.ref 22))) (hh R a b c (rep 12 tT) (mC x L [.lst [.str (st [110, 117, 109, 98, 101, 114, 32, 45, 49]), .str (st [110, 117, 109, 98, 101, 114, 32, 45, 49]), .str (st [110, 117, 109, 98, 101, 114, 32, 40, 49, 44, 32, 49, 41]), .str (st [110, 117, 109, 98, 101, 114, 32, 48]), .str two]])) := by kernel_rfl
theorem c5_1_4_3 (R : List D) (a b c : Int) (odd none prime : D) (x : Str) (L : List D) : RUN 22 18 1 (sg odd none (.int (-1)) (.tup [.int 1, .int 1]) (.str (st [50])) prime 21 (.d (.glo 33)) .no) (hh R a b c (rep 12 tT) (mC x L [])) = .nx (sg odd none (.int (-1)) (.tup [.int 1, .int 1]) (.str (st [50])) prime 21 (.d (.glo 33)) (.d (.ref 22))) (hh R a b c (rep 12 tT) (mC x L [.lst [.str (st [110, 117, 109, 98, 101, 114, 32, 45, 49]), .str (st [110, 117, 109, 98, 101, 114, 32, 45, 49]), .str (st [110, 117, 109, 98, 101, 114, 32, 40, 49, 44, 32, 49, 41]), .str (st [110, 117, 109, 98, 101, 114, 32, 39, 50, 39]), .str two]])) := by kernel_rfl
theorem c5_1_4_4 (R : List D) (a b c : Int) (odd none prime : D) (x : Str) (L : List D) : RUN 22 18 1 (sg odd none (.int (-1)) (.tup [.int 1, .int 1]) (.int (10 ^ 60)) prime 21 (.d (.glo 33)) .no) (hh R a b c (rep 12 tT) (mC x L [])) = .nx (sg odd none (.int (-1)) (.tup [.int 1, .int 1]) (.int (10 ^ 60)) prime 21 (.d (.glo 33)) (.d (.ref 22))) (hh R a b c (rep 12 tT) (mC x L [.lst [.str (st [110, 117, 109, 98, 101, 114, 32, 45, 49]), .str (st [110, 117, 109, 98, 101, 114, 32, 45, 49]), .str (st [110, 117, 109, 98, 101, 114, 32, 40, 49, 44, 32, 49, 41]), .str (st [110, 117, 109, 98, 101, 114, 32, 49, 48, 48, 48, 48, 48, 48, 48, 48, 48, 48, 48, 48, 48, 48, 48, 48, 48, 48, 48, 48, 48, 48, 48, 48, 48, 48, 48, 48, 48, 48, 48, 48, 48, 48, 48, 48, 48, 48, 48, 48, 48, 48, 48, 48, 48, 48, 48, 48, 48, 48, 48, 48, 48, 48, 48, 48, 48, 48, 48, 48]), .str two]])) := by kernel_rfl
theorem c5_1_4_5 (R : List D) (a b c : Int) (odd none prime : D) (x : Str) (L : List D) : RUN 22 18 1 (sg odd none (.int (-1)) (.tup [.int 1, .int 1]) (.tup [.int 2, .int 1]) prime 21 (.d (.glo 33)) .no) (hh R a b c (rep 12 tT) (mC x L [])) = .nx (sg odd none (.int (-1)) (.tup [.int 1, .int 1]) (.tup [.int 2, .int 1]) prime 21 (.d (.glo 33)) (.d (.ref 22))) (hh R a b c (rep 12 tT) (mC x L [.lst [.str (st [110, 117, 109, 98, 101, 114, 32, 45, 49]), .str (st [110, 117, 109, 98, 101, 114, 32, 45, 49]), .str (st [110, 117, 109, 98, 101, 114, 32, 40, 49, 44, 32, 49, 41]), .str (st [110, 117, 109, 98, 101, 114, 32, 40, 50, 44, 32, 49, 41]), .str two]])) := by kernel_rfl
theorem c5_1_5_0 (R : List D) (a b c : Int) (odd none prime : D) (x : Str) (L : List D) : RUN 22 18 1 (sg odd none (.int (-1)) (.ref 10) (.non) prime 21 (.d (.glo 33)) .no) (hh R a b c (rep 12 tT) (mC x L [])) = .nx (sg odd none (.int (-1)) (.ref 10) (.non) prime 21 (.d (.glo 33)) (.d (.ref 22))) (hh R a b c (rep 12 tT) (mC x L [.lst [.str (st [110, 117, 109, 98, 101, 114, 32, 45, 49]), .str (st [110, 117, 109, 98, 101, 114, 32, 45, 49]), .str (st [110, 117, 109, 98, 101, 114, 32, 91, 49, 93]), .str (st [110, 117, 109, 98, 101, 114, 32, 78, 111, 110, 101]), .str two]])) := by kernel_rfl
theorem c5_1_5_1 (R : List D) (a b c : Int) (odd none prime : D) (x : Str) (L : List D) : RUN 22 18 1 (sg odd none (.int (-1)) (.ref 10) (.bl false) prime 21 (.d (.glo 33)) .no) (hh R a b c (rep 12 tT) (mC x L [])) = .nx (sg odd none (.int (-1)) (.ref 10) (.bl false) prime 21 (.d (.glo 33)) (.d (.ref 22))) (hh R a b c (rep 12 tT) (mC x L [.lst [.str (st [110, 117, 109, 98, 101, 114, 32, 45, 49]), .str (st [110, 117, 109, 98, 101, 114, 32, 45, 49]), .str (st [110, 117, 109, 98, 101, 114, 32, 91, 49, 93]), .str (st [110, 117, 109, 98, 101, 114, 32, 70, 97, 108, 115, 101]), .str two]])) := by kernel_rfl
theorem c5_1_5_2 (R : List D) (a b c : Int) (odd none prime : D) (x : Str) (L : List D) : RUN 22 18 1 (sg odd none (.int (-1)) (.ref 10) (.int 0) prime 21 (.d (.glo 33)) .no) (hh R a b c (rep 12 tT) (mC x L [])) = .nx (sg odd none (.int (-1)) (.ref 10) (.int 0) prime 21 (.d (.glo 33)) (.d (.ref 22))) (hh R a b c (rep 12 tT) (mC x L [.lst [.str (st [110, 117, 109, 98, 101, 114, 32, 45, 49]), .str (st [110, 117, 109, 98, 101, 114, 32, 45, 49]), .str (st [110, 117, 109, 98, 101, 114, 32, 91, 49, 93]), .str (st [110, 117, 109, 98, 101, 114, 32, 48]), .str two]])) := by kernel_rfl
theorem c5_1_5_3 (R : List D) (a b c : Int) (odd none prime : D) (x : Str) (L : List D) : RUN 22 18 1 (sg odd none (.int (-1)) (.ref 10) (.str (st [50])) prime 21 (.d (.glo 33)) .no) (hh R a b c (rep 12 tT) (mC x L [])) = .nx (sg odd none (.int (-1)) (.ref 10) (.str (st [50])) prime 21 (.d (.glo 33)) (.d (.ref 22))) (hh R a b c (rep 12 tT) (mC x L [.lst [.str (st [110, 117, 109, 98, 101, 114, 32, 45, 49]), .str (st [110, 117, 109, 98, 101, 114, 32, 45, 49]), .str (st [110, 117, 109, 98, 101, 114, 32, 91, 49, 93]), .str (st [110, 117, 109, 98, 101, 114, 32, 39, 50, 39]), .str two]])) := by kernel_rfl
theorem c5_1_5_4 (R : List D) (a b c : Int) (odd none prime : D) (x : Str) (L : List D) : RUN 22 18 1 (sg odd none (.int (-1)) (.ref 10) (.int (10 ^ 60)) prime 21 (.d (.glo 33)) .no) (hh R a b c (rep 12 tT) (mC x L [])) = .nx (sg odd none (.int (-1)) (.ref 10) (.int (10 ^ 60)) prime 21 (.d (.glo 33)) (.d (.ref 22))) (hh R a b c (rep 12 tT) (mC x L [.lst [.str (st [110, 117, 109, 98, 101, 114, 32, 45, 49]), .str (st [110, 117, 109, 98, 101, 114, 32, 45, 49]), .str (st [110, 117, 109, 98, 101, 114, 32, 91, 49, 93]), .str (st [110, 117, 109, 98, 101, 114, 32, 49, 48, 48, 48, 48, 48, 48, 48, 48, 48, 48, 48, 48, 48, 48, 48, 48, 48, 48, 48, 48, 48, 48, 48, 48, 48, 48, 48, 48, 48, 48, 48, 48, 48, 48, 48, 48, 48, 48, 48, 48, 48, 48, 48, 48, 48, 48, 48, 48, 48, 48, 48, 48, 48, 48, 48, 48, 48, 48, 48, 48]), .str two]])) := by kernel_rfl
theorem c5_1_5_5 (R : List D) (a b c : Int) (odd none prime : D) (x : Str) (L : List D) : RUN 22 18 1 (sg odd none (.int (-1)) (.ref 10) (.tup [.int 2, .int 1]) prime 21 (.d (.glo 33)) .no) (hh R a b c (rep 12 tT) (mC x L [])) = .nx (sg odd none (.int (-1)) (.ref 10) (.tup [.int 2, .int 1]) prime 21 (.d (.glo 33)) (.d (.ref 22))) (hh R a b c (rep 12 tT) (mC x L [.lst [.str (st [110, 117, 109, 98, 101, 114, 32, 45, 49]), .str (st [110, 117, 109, 98, 101, 114, 32, 45, 49]), .str (st [110, 117, 109, 98, 101, 114, 32, 91, 49, 93]), .str (st [110, 117, 109, 98, 101, 114, 32, 40, 50, 44, 32, 49, 41]), .str two]])) := by kernel_rfl
theorem c5_2_0_0 (R : List D) (a b c : Int) (odd none prime : D) (x : Str) (L : List D) : RUN 22 18 1 (sg odd none (.int 201) (.non) (.non) prime 21 (.d (.glo 33)) .no) (hh R a b c (rep 12 tT) (mC x L [])) = .nx (sg odd none (.int 201) (.non) (.non) prime 21 (.d (.glo 33)) (.d (.ref 22))) (hh R a b c (rep 12 tT) (mC x L [.lst [.str (st [110, 117, 109, 98, 101, 114, 32, 50, 48, 49]), .str (st [110, 117, 109, 98, 101, 114, 32, 50, 48, 49]), .str (st [110, 117, 109, 98, 101, 114, 32, 78, 111, 110, 101]), .str (st [110, 117, 109, 98, 101, 114, 32, 78, 111, 110, 101]), .str two]])) := by kernel_rfl
theorem c5_2_0_1 (R : List D) (a b c : Int) (odd none prime : D) (x : Str) (L : List D) : RUN 22 18 1 (sg odd none (.int 201) (.non) (.bl false) prime 21 (.d (.glo 33)) .no) (hh R a b c (rep 12 tT) (mC x L [])) = .nx (sg odd none (.int 201) (.non) (.bl false) prime 21 (.d (.glo 33)) (.d (.ref 22))) (hh R a b c (rep 12 tT) (mC x L [.lst [.str (st [110, 117, 109, 98, 101, 114, 32, 50, 48, 49]), .str (st [110, 117, 109, 98, 101, 114, 32, 50, 48, 49]), .str (st [110, 117, 109, 98, 101, 114, 32, 78, 111, 110, 101]), .str (st [110, 117, 109, 98, 101, 114, 32, 70, 97, 108, 115, 101]), .str two]])) := by kernel_rfl
theorem c5_2_0_2 (R : List D) (a b c : Int) (odd none prime : D) (x : Str) (L : List D) : RUN 22 18 1 (sg odd none (.int 201) (.non) (.int 0) prime 21 (.d (.glo 33)) .no) (hh R a b c (rep 12 tT) (mC x L [])) = .nx (sg odd none (.int 201) (.non) (.int 0) prime 21 (.d (.glo 33)) (.d (.ref 22))) (hh R a b c (rep 12 tT) (mC x L [.lst [.str (st [110, 117, 109, 98, 101, 114, 32, 50, 48, 49]), .str (st [110, 117, 109, 98, 101, 114, 32, 50, 48, 49]), .str (st [110, 117, 109, 98, 101, 114, 32, 78, 111, 110, 101]), .str (st [110, 117, 109, 98, 101, 114, 32, 48]), .str two]])) := by kernel_rfl
theorem c5_2_0_3 (R : List D) (a b c : Int) (odd none prime : D) (x : Str) (L : List D) : RUN 22 18 1 (sg odd none (.int 201) (.non) (.str (st [50])) prime 21 (.d (.glo 33)) .no) (hh R a b c (rep 12 tT) (mC x L [])) = .nx (sg odd none (.int 201) (.non) (.str (st [50])) prime 21 (.d (.glo 33)) (.d (.ref 22))) (hh R a b c (rep 12 tT) (mC x L [.lst [.str (st [110, 117, 109, 98, 101, 114, 32, 50, 48, 49]), .str (st [110, 117, 109, 98, 101, 114, 32, 50, 48, 49]), .str (st [110, 117, 109, 98, 101, 114, 32, 78, 111, 110, 101]), .str (st [110, 117, 109, 98, 101, 114, 32, 39, 50, 39]), .str two]])) := by kernel_rfl
theorem c5_2_0_4 (R : List D) (a b c : Int) (odd none prime : D) (x : Str) (L : List D) : RUN 22 18 1 (sg odd none (.int 201) (.non) (.int (10 ^ 60)) prime 21 (.d (.glo 33)) .no) (hh R a b c (rep 12 tT) (mC x L [])) = .nx (sg odd none (.int 201) (.non) (.int (10 ^ 60)) prime 21 (.d (.glo 33)) (.d (.ref 22))) (hh R a b c (rep 12 tT) (mC x L [.lst [.str (st [110, 117, 109, 98, 101, 114, 32, 50, 48, 49]), .str (st [110, 117, 109, 98, 101, 114, 32, 50, 48, 49]), .str (st [110, 117, 109, 98, 101, 114, 32, 78, 111, 110, 101]), .str (st [110, 117, 109, 98, 101, 114, 32, 49, 48, 48, 48, 48, 48, 48, 48, 48, 48, 48, 48, 48, 48, 48, 48, 48, 48, 48, 48, 48, 48, 48, 48, 48, 48, 48, 48, 48, 48, 48, 48, 48, 48, 48, 48, 48, 48, 48, 48, 48, 48, 48, 48, 48, 48, 48, 48, 48, 48, 48, 48, 48, 48, 48, 48, 48, 48, 48, 48, 48]), .str two]])) := by kernel_rfl
theorem c5_2_0_5 (R : List D) (a b c : Int) (odd none prime : D) (x : Str) (L : List D) : RUN 22 18 1 (sg odd none (.int 201) (.non) (.tup [.int 2, .int 1]) prime 21 (.d (.glo 33)) .no) (hh R a b c (rep 12 tT) (mC x L [])) = .nx (sg odd none (.int 201) (.non) (.tup [.int 2, .int 1]) prime 21 (.d (.glo 33)) (.d (.ref 22))) (hh R a b c (rep 12 tT) (mC x L [.lst [.str (st [110, 117, 109, 98, 101, 114, 32, 50, 48, 49]), .str (st [110, 117, 109, 98, 101, 114, 32, 50, 48, 49]), .str (st [110, 117, 109, 98, 101, 114, 32, 78, 111, 110, 101]), .str (st [110, 117, 109, 98, 101, 114, 32, 40, 50, 44, 32, 49, 41]), .str two]])) := by kernel_rfl
theorem c5_2_1_0 (R : List D) (a b c : Int) (odd none prime : D) (x : Str) (L : List D) : RUN 22 18 1 (sg odd none (.int 201) (.bl true) (.non) prime 21 (.d (.glo 33)) .no) (hh R a b c (rep 12 tT) (mC x L [])) = .nx (sg odd none (.int 201) (.bl true) (.non) prime 21 (.d (.glo 33)) (.d (.ref 22))) (hh R a b c (rep 12 tT) (mC x L [.lst [.str (st [110, 117, 109, 98, 101, 114, 32, 50, 48, 49]), .str (st [110, 117, 109, 98, 101, 114, 32, 50, 48, 49]), .str (st [110, 117, 109, 98, 101, 114, 32, 84, 114, 117, 101]), .str (st [110, 117, 109, 98, 101, 114, 32, 78, 111, 110, 101]), .str two]])) := by kernel_rfl
theorem c5_2_1_1 (R : List D) (a b c : Int) (odd none prime : D) (x : Str) (L : List D) : RUN 22 18 1 (sg odd none (.int 201) (.bl true) (.bl false) prime 21 (.d (.glo 33)) .no) (hh R a b c (rep 12 tT) (mC x L [])) = .nx (sg odd none (.int 201) (.bl true) (.bl false) prime 21 (.d (.glo 33)) (.d (.ref 22))) (hh R a b c (rep 12 tT) (mC x L [.lst [.str (st [110, 117, 109, 98, 101, 114, 32, 50, 48, 49]), .str (st [110, 117, 109, 98, 101, 114, 32, 50, 48, 49]), .str (st [110, 117, 109, 98, 101, 114, 32, 84, 114, 117, 101]), .str (st [110, 117, 109, 98, 101, 114, 32, 70, 97, 108, 115, 101]), .str two]])) := by kernel_rfl
theorem c5_2_1_2 (R : List D) (a b c : Int) (odd none prime : D) (x : Str) (L : List D) : RUN 22 18 1 (sg odd none (.int 201) (.bl true) (.int 0) prime 21 (.d (.glo 33)) .no) (hh R a b c (rep 12 tT) (mC x L [])) = .nx (sg odd none (.int 201) (.bl true) (.int 0) prime 21 (.d (.glo 33)) (.d (.ref 22))) (hh R a b c (rep 12 tT) (mC x L [.lst [.str (st [110, 117, 109, 98, 101, 114, 32, 50, 48, 49]), .str (st [110, 117, 109, 98, 101, 114, 32, 50, 48, 49]), .str (st [110, 117, 109, 98, 101, 114, 32, 84, 114, 117, 101]), .str (st [110, 117, 109, 98, 101, 114, 32, 48]), .str two]])) := by kernel_rfl
theorem c5_2_1_3 (R : List D) (a b c : Int) (odd none prime : D) (x : Str) (L : List D) : RUN 22 18 1 (sg odd none (.int 201) (.bl true) (.str (st [50])) prime 21 (.d (.glo 33)) .no) (hh R a b c (rep 12 tT) (mC x L [])) = .nx (sg odd none (.int 201) (.bl true) (.str (st [50])) prime 21 (.d (.glo 33)) (.d (.ref 22))) (hh R a b c (rep 12 tT) (mC x L [.lst [.str (st [110, 117, 109, 98, 101, 114, 32, 50, 48, 49]), .str (st [110, 117, 109, 98, 101, 114, 32, 50, 48, 49]), .str (st [110, 117, 109, 98, 101, 114, 32, 84, 114, 117, 101]), .str (st [110, 117, 109, 98, 101, 114, 32, 39, 50, 39]), .str two]])) := by kernel_rfl
theorem c5_2_1_4 (R : List D) (a b c : Int) (odd none prime : D) (x : Str) (L : List D) : RUN 22 18 1 (sg odd none (.int 201) (.bl true) (.int (10 ^ 60)) prime 21 (.d (.glo 33)) .no) (hh R a b c (rep 12 tT) (mC x L [])) = .nx (sg odd none (.int 201) (.bl true) (.int (10 ^ 60)) prime 21 (.d (.glo 33)) (.d (.ref 22))) (hh R a b c (rep 12 tT) (mC x L [.lst [.str (st [110, 117, 109, 98, 101, 114, 32, 50, 48, 49]), .str (st [110, 117, 109, 98, 101, 114, 32, 50, 48, 49]), .str (st [110, 117, 109, 98, 101, 114, 32, 84, 114, 117, 101]), .str (st [110, 117, 109, 98, 101, 114, 32, 49, 48, 48, 48, 48, 48, 48, 48, 48, 48, 48, 48, 48, 48, 48, 48, 48, 48, 48, 48, 48, 48, 48, 48, 48, 48, 48, 48, 48, 48, 48, 48, 48, 48, 48, 48, 48, 48, 48, 48, 48, 48, 48, 48, 48, 48, 48, 48, 48, 48, 48, 48, 48, 48, 48, 48, 48, 48, 48, 48, 48]), .str two]])) := by kernel_rfl
theorem c5_2_1_5 (R : List D) (a b c : Int) (odd none prime : D) (x : Str) (L : List D) : RUN 22 18 1 (sg odd none (.int 201) (.bl true) (.tup [.int 2, .int 1]) prime 21 (.d (.glo 33)) .no) (hh R a b c (rep 12 tT) (mC x L [])) = .nx (sg odd none (.int 201) (.bl true) (.tup [.int 2, .int 1]) prime 21 (.d (.glo 33)) (.d (.ref 22))) (hh R a b c (rep 12 tT) (mC x L [.lst [.str (st [110, 117, 109, 98, 101, 114, 32, 50, 48, 49]), .str (st [110, 117, 109, 98, 101, 114, 32, 50, 48, 49]), .str (st [110, 117, 109, 98, 101, 114, 32, 84, 114, 117, 101]), .str (st [110, 117, 109, 98, 101, 114, 32, 40, 50, 44, 32, 49, 41]), .str two]])) := by kernel_rfl
theorem c5_2_2_0 (R : List D) (a b c : Int) (odd none prime : D) (x : Str) (L : List D) : RUN 22 18 1 (sg odd none (.int 201) (.str (st [49])) (.non) prime 21 (.d (.glo 33)) .no) (hh R a b c (rep 12 tT) (mC x L [])) = .nx (sg odd none (.int 201) (.str (st [49])) (.non) prime 21 (.d (.glo 33)) (.d (.ref 22))) (hh R a b c (rep 12 tT) (mC x L [.lst [.str (st [110, 117, 109, 98, 101, 114, 32, 50, 48, 49]), .str (st [110, 117, 109, 98, 101, 114, 32, 50, 48, 49]), .str (st [110, 117, 109, 98, 101, 114, 32, 39, 49, 39]), .str (st [110, 117, 109, 98, 101, 114, 32, 78, 111, 110, 101]), .str two]])) := by kernel_rfl
theorem c5_2_2_1 (R : List D) (a b c : Int) (odd none prime : D) (x : Str) (L : List D) : RUN 22 18 1 (sg odd none (.int 201) (.str (st [49])) (.bl false) prime 21 (.d (.glo 33)) .no) (hh R a b c (rep 12 tT) (mC x L [])) = .nx (sg odd none (.int 201) (.str (st [49])) (.bl false) prime 21 (.d (.glo 33)) (.d (.ref 22))) (hh R a b c (rep 12 tT) (mC x L [.lst [.str (st [110, 117, 109, 98, 101, 114, 32, 50, 48, 49]), .str (st [110, 117, 109, 98, 101, 114, 32, 50, 48, 49]), .str (st [110, 117, 109, 98, 101, 114, 32, 39, 49, 39]), .str (st [110, 117, 109, 98, 101, 114, 32, 70, 97, 108, 115, 101]), .str two]])) := by kernel_rfl
theorem c5_2_2_2 (R : List D) (a b c : Int) (odd none prime : D) (x : Str) (L : List D) : RUN 22 18 1 (sg odd none (.int 201) (.str (st [49])) (.int 0) prime 21 (.d (.glo 33)) .no) (hh R a b c (rep 12 tT) (mC x L [])) = .nx (sg odd none (.int 201) (.str (st [49])) (.int 0) prime 21 (.d (.glo 33)) (.d (.ref 22))) (hh R a b c (rep 12 tT) (mC x L [.lst [.str (st [110, 117, 109, 98, 101, 114, 32, 50, 48, 49]), .str (st [110, 117, 109, 98, 101, 114, 32, 50, 48, 49]), .str (st [110, 117, 109, 98, 101, 114, 32, 39, 49, 39]), .str (st [110, 117, 109, 98, 101, 114, 32, 48]), .str two]])) := by kernel_rfl
theorem c5_2_2_3 (R : List D) (a b c : Int) (odd none prime : D) (x : Str) (L : List D) : RUN 22 18 1 (sg odd none (.int 201) (.str (st [49])) (.str (st [50])) prime 21 (.d (.glo 33)) .no) (hh R a b c (rep 12 tT) (mC x L [])) = .nx (sg odd none (.int 201) (.str (st [49])) (.str (st [50])) prime 21 (.d (.glo 33)) (.d (.ref 22))) (hh R a b c (rep 12 tT) (mC x L [.lst [.str (st [110, 117, 109, 98, 101, 114, 32, 50, 48, 49]), .str (st [110, 117, 109, 98, 101, 114, 32, 50, 48, 49]), .str (st [110, 117, 109, 98, 101, 114, 32, 39, 49, 39]), .str (st [110, 117, 109, 98, 101, 114, 32, 39, 50, 39]), .str two]])) := by kernel_rfl
theorem c5_2_2_4 (R : List D) (a b c : Int) (odd none prime : D) (x : Str) (L : List D) : RUN 22 18 1 (sg odd none (.int 201) (.str (st [49])) (.int (10 ^ 60)) prime 21 (.d (.glo 33)) .no) (hh R a b c (rep 12 tT) (mC x L [])) = .nx (sg odd none (.int 201) (.str (st [49])) (.int (10 ^ 60)) prime 21 (.d (.glo 33)) (.d (.ref 22))) (hh R a b c (rep 12 tT) (mC x L [.lst [.str (st [110, 117, 109, 98, 101, 114, 32, 50, 48, 49]), .str (st [110, 117, 109, 98, 101, 114, 32, 50, 48, 49]), .str (st [110, 117, 109, 98, 101, 114, 32, 39, 49, 39]), .str (st [110, 117, 109, 98, 101, 114, 32, 49, 48, 48, 48, 48, 48, 48, 48, 48, 48, 48, 48, 48, 48, 48, 48, 48, 48, 48, 48, 48, 48, 48, 48, 48, 48, 48, 48, 48, 48, 48, 48, 48, 48, 48, 48, 48, 48, 48, 48, 48, 48, 48, 48, 48, 48, 48, 48, 48, 48, 48, 48, 48, 48, 48, 48, 48, 48, 48, 48, 48]), .str two]])) := by kernel_rfl
theorem c5_2_2_5 (R : List D) (a b c : Int) (odd none prime : D) (x : Str) (L : List D) : RUN 22 18 1 (sg odd none (.int 201) (.str (st [49])) (.tup [.int 2, .int 1]) prime 21 (.d (.glo 33)) .no) (hh R a b c (rep 12 tT) (mC x L [])) = .nx (sg odd none (.int 201) (.str (st [49])) (.tup [.int 2, .int 1]) prime 21 (.d (.glo 33)) (.d (.ref 22))) (hh R a b c (rep 12 tT) (mC x L [.lst [.str (st [110, 117, 109, 98, 101, 114, 32, 50, 48, 49]), .str (st [110, 117, 109, 98, 101, 114, 32, 50, 48, 49]), .str (st [110, 117, 109, 98, 101, 114, 32, 39, 49, 39]), .str (st [110, 117, 109, 98, 101, 114, 32, 40, 50, 44, 32, 49, 41]), .str two]])) := by kernel_rfl
theorem c5_2_3_0 (R : List D) (a b c : Int) (odd none prime : D) (x : Str) (L : List D) : RUN 22 18 1 (sg odd none (.int 201) (.int (10 ^ 60)) (.non) prime 21 (.d (.glo 33)) .no) (hh R a b c (rep 12 tT) (mC x L [])) = .nx (sg odd none (.int 201) (.int (10 ^ 60)) (.non) prime 21 (.d (.glo 33)) (.d (.ref 22))) (hh R a b c (rep 12 tT) (mC x L [.lst [.str (st [110, 117, 109, 98, 101, 114, 32, 50, 48, 49]), .str (st [110, 117, 109, 98, 101, 114, 32, 50, 48, 49]), .str (st [110, 117, 109, 98, 101, 114, 32, 49, 48, 48, 48, 48, 48, 48, 48, 48, 48, 48, 48, 48, 48, 48, 48, 48, 48, 48, 48, 48, 48, 48, 48, 48, 48, 48, 48, 48, 48, 48, 48, 48, 48, 48, 48, 48, 48, 48, 48, 48, 48, 48, 48, 48, 48, 48, 48, 48, 48, 48, 48, 48, 48, 48, 48, 48, 48, 48, 48, 48]), .str (st [110, 117, 109, 98, 101, 114, 32, 78, 111, 110, 101]), .str two]])) := by kernel_rfl
theorem c5_2_3_1 (R : List D) (a b c : Int) (odd none prime : D) (x : Str) (L : List D) : RUN 22 18 1 (sg odd none (.int 201) (.int (10 ^ 60)) (.bl false) prime 21 (.d (.glo 33)) .no) (hh R a b c (rep 12 tT) (mC x L [])) = .nx (sg odd none (.int 201) (.int (10 ^ 60)) (.bl false) prime 21 (.d (.glo 33)) (.d (.ref 22))) (hh R a b c (rep 12 tT) (mC x L [.lst [.str (st [110, 117, 109, 98, 101, 114, 32, 50, 48, 49]), .str (st [110, 117, 109, 98, 101, 114, 32, 50, 48, 49]), .str (st [110, 117, 109, 98, 101, 114, 32, 49, 48, 48, 48, 48, 48, 48, 48, 48, 48, 48, 48, 48, 48, 48, 48, 48, 48, 48, 48, 48, 48, 48, 48, 48, 48, 48, 48, 48, 48, 48, 48, 48, 48, 48, 48, 48, 48, 48, 48, 48, 48, 48, 48, 48, 48, 48, 48, 48, 48, 48, 48, 48, 48, 48, 48, 48, 48, 48, 48, 48]), .str (st [110, 117, 109, 98, 101, 114, 32, 70, 97, 108, 115, 101]), .str two]])) := by kernel_rfl
theorem c5_2_3_2 (R : List D) (a b c : Int) (odd none prime : D) (x : Str) (L : List D) : RUN 22 18 1 (sg odd none (.int 201) (.int (10 ^ 60)) (.int 0) prime 21 (.d (.glo 33)) .no) (hh R a b c (rep 12 tT) (mC x L [])) = .nx (sg odd none (.int 201) (.int (10 ^ 60)) (.int 0) prime 21 (.d (.glo 33)) (.d (.ref 22))) (hh R a b c (rep 12 tT) (mC x L [.lst [.str (st [110, 117, 109, 98, 101, 114, 32, 50, 48, 49]), .str (st [110, 117, 109, 98, 101, 114, 32, 50, 48, 49]), .str (st [110, 117, 109, 98, 101, 114, 32, 49, 48, 48, 48, 48, 48, 48, 48, 48, 48, 48, 48, 48, 48, 48, 48, 48, 48, 48, 48, 48, 48, 48, 48, 48, 48, 48, 48, 48, 48, 48, 48, 48, 48, 48, 48, 48, 48, 48, 48, 48, 48, 48, 48, 48, 48, 48, 48, 48, 48, 48, 48, 48, 48, 48, 48, 48, 48, 48, 48, 48]), .str (st [110, 117, 109, 98, 101, 114, 32, 48]), .str two]])) := by kernel_rfl
theorem c5_2_3_3 (R : List D) (a b c : Int) (odd none prime : D) (x : Str) (L : List D) : RUN 22 18 1 (sg odd none (.int 201) (.int (10 ^ 60)) (.str (st [50])) prime 21 (.d (.glo 33)) .no) (hh R a b c (rep 12 tT) (mC x L [])) = .nx (sg odd none (.int 201) (.int (10 ^ 60)) (.str (st [50])) prime 21 (.d (.glo 33)) (.d (.ref 22))) (hh R a b c (rep 12 tT) (mC x L [.lst [.str (st [110, 117, 109, 98, 101, 114, 32, 50, 48, 49]), .str (st [110, 117, 109, 98, 101, 114, 32, 50, 48, 49]), .str (st [110, 117, 109, 98, 101, 114, 32, 49, 48, 48, 48, 48, 48, 48, 48, 48, 48, 48, 48, 48, 48, 48, 48, 48, 48, 48, 48, 48, 48, 48, 48, 48, 48, 48, 48, 48, 48, 48, 48, 48, 48, 48, 48, 48, 48, 48, 48, 48, 48, 48, 48, 48, 48, 48, 48, 48, 48, 48, 48, 48, 48, 48, 48, 48, 48, 48, 48, 48]), .str (st [110, 117, 109, 98, 101, 114, 32, 39, 50, 39]), .str two]])) := by kernel_rfl
theorem c5_2_3_4 (R : List D) (a b c : Int) (odd none prime : D) (x : Str) (L : List D) : RUN 22 18 1 (sg odd none (.int 201) (.int (10 ^ 60)) (.int (10 ^ 60)) prime 21 (.d (.glo 33)) .no) (hh R a b c (rep 12 tT) (mC x L [])) = .nx (sg odd none (.int 201) (.int (10 ^ 60)) (.int (10 ^ 60)) prime 21 (.d (.glo 33)) (.d (.ref 22))) (hh R a b c (rep 12 tT) (mC x L [.lst [.str (st [110, 117, 109, 98, 101, 114, 32, 50, 48, 49]), .str (st [110, 117, 109, 98, 101, 114, 32, 50, 48, 49]), .str (st [110, 117, 109, 98, 101, 114, 32, 49, 48, 48, 48, 48, 48, 48, 48, 48, 48, 48, 48, 48, 48, 48, 48, 48, 48, 48, 48, 48, 48, 48, 48, 48, 48, 48, 48, 48, 48, 48, 48, 48, 48, 48, 48, 48, 48, 48, 48, 48, 48, 48, 48, 48, 48, 48, 48, 48, 48, 48, 48, 48, 48, 48, 48, 48, 48, 48, 48, 48]), .str (st [110, 117, 109, 98, 101, 114, 32, 49, 48, 48, 48, 48, 48, 48, 48, 48, 48, 48, 48, 48, 48, 48, 48, 48, 48, 48, 48, 48, 48, 48, 48, 48, 48, 48, 48, 48, 48, 48, 48, 48, 48, 48, 48, 48, 48, 48, 48, 48, 48, 48, 48, 48, 48, 48, 48, 48, 48, 48, 48, 48, 48, 48, 48, 48, 48, 48, 48, 48]), .str two]])) := by kernel_rfl
theorem c5_2_3_5 (R : List D) (a b c : Int) (odd none prime : D) (x : Str) (L : List D) : RUN 22 18 1 (sg odd none (.int 201) (.int (10 ^ 60)) (.tup [.int 2, .int 1]) prime 21 (.d (.glo 33)) .no) (hh R a b c (rep 12 tT) (mC x L [])) = .nx (sg odd none (.int 201) (.int (10 ^ 60)) (.tup [.int 2, .int 1]) prime 21 (.d (.glo 33)) (.d (.ref 22))) (hh R a b c (rep 12 tT) (mC x L [.lst [.str (st [110, 117, 109, 98, 101, 114, 32, 50, 48, 49]), .str (st [110, 117, 109, 98, 101, 114, 32, 50, 48, 49]), .str (st [110, 117, 109, 98, 101, 114, 32, 49, 48, 48, 48, 48, 48, 48, 48, 48, 48, 48, 48, 48, 48, 48, 48, 48, 48, 48, 48, 48, 48, 48, 48, 48, 48, 48, 48, 48, 48, 48, 48, 48, 48, 48, 48, 48, 48, 48, 48, 48, 48, 48, 48, 48, 48, 48, 48, 48, 48, 48, 48, 48, 48, 48, 48, 48, 48, 48, 48, 48]), .str (st [110, 117, 109, 98, 101, 114, 32, 40, 50, 44, 32, 49, 41]), .str two]])) := by kernel_rfl
theorem c5_2_4_0 (R : List D) (a b c : Int) (odd none prime : D) (x : Str) (L : List D) : RUN 22 18 1 (sg odd none (.int 201) (.tup [.int 1, .int 1]) (.non) prime 21 (.d (.glo 33)) .no) (hh R a b c (rep 12 tT) (mC x L [])) = .nx (sg odd none (.int 201) (.tup [.int 1, .int 1]) (.non) prime 21 (.d (.glo 33)) (.d (.ref 22))) (hh R a b c (rep 12 tT) (mC x L [.lst [.str (st [110, 117, 109, 98, 101, 114, 32, 50, 48, 49]), .str (st [110, 117, 109, 98, 101, 114, 32, 50, 48, 49]), .str (st [110, 117, 109, 98, 101, 114, 32, 40, 49, 44, 32, 49, 41]), .str (st [110, 117, 109, 98, 101, 114, 32, 78, 111, 110, 101]), .str two]])) := by kernel_rfl
theorem c5_2_4_1 (R : List D) (a b c : Int) (odd none prime : D) (x : Str) (L : List D) : RUN 22 18 1 (sg odd none (.int 201) (.tup [.int 1, .int 1]) (.bl false) prime 21 (.d (.glo 33)) .no) (hh R a b c (rep 12 tT) (mC x L [])) = .nx (sg odd none (.int 201) (.tup [.int 1, .int 1]) (.bl false) prime 21 (.d (.glo 33)) (.d (.ref 22))) (hh R a b c (rep 12 tT) (mC x L [.lst [.str (st [110, 117, 109, 98, 101, 114, 32, 50, 48, 49]), .str (st [110, 117, 109, 98, 101, 114, 32, 50, 48, 49]), .str (st [110, 117, 109, 98, 101, 114, 32, 40, 49, 44, 32, 49, 41]), .str (st [110, 117, 109, 98, 101, 114, 32, 70, 97, 108, 115, 101]), .str two]])) := by kernel_rfl
theorem c5_2_4_2 (R : List D) (a b c : Int) (odd none prime : D) (x : Str) (L : List D) : RUN 22 18 1 (sg odd none (.int 201) (.tup [.int 1, .int 1]) (.int 0) prime 21 (.d (.glo 33)) .no) (hh R a b c (rep 12 tT) (mC x L [])) = .nx (sg odd none (.int 201) (.tup [.int 1, .int 1]) (.int 0) prime 21 (.d (.glo 33)) (.d (.ref 22))) (hh R a b c (rep 12 tT) (mC x L [.lst [.str (st [110, 117, 109, 98, 101, 114, 32, 50, 48, 49]), .str (st [110, 117, 109, 98, 101, 114, 32, 50, 48, 49]), .str (st [110, 117, 109, 98, 101, 114, 32, 40, 49, 44, 32, 49, 41]), .str (st [110, 117, 109, 98, 101, 114, 32, 48]), .str two]])) := by kernel_rfl
theorem c5_2_4_3 (R : List D) (a b c : Int) (odd none prime : D) (x : Str) (L : List D) : RUN 22 18 1 (sg odd none (.int 201) (.tup [.int 1, .int 1]) (.str (st [50])) prime 21 (.d (.glo 33)) .no) (hh R a b c (rep 12 tT) (mC x L [])) = .nx (sg odd none (.int 201) (.tup [.int 1, .int 1]) (.str (st [50])) prime 21 (.d (.glo 33)) (.d (.ref 22))) (hh R a b c (rep 12 tT) (mC x L [.lst [.str (st [110, 117, 109, 98, 101, 114, 32, 50, 48, 49]), .str (st [110, 117, 109, 98, 101, 114, 32, 50, 48, 49]), .str (st [110, 117, 109, 98, 101, 114, 32, 40, 49, 44, 32, 49, 41]), .str (st [110, 117, 109, 98, 101, 114, 32, 39, 50, 39]), .str two]])) := by kernel_rfl
theorem c5_2_4_4 (R : List D) (a b c : Int) (odd none prime : D) (x : Str) (L : List D) : RUN 22 18 1 (sg odd none (.int 201) (.tup [.int 1, .int 1]) (.int (10 ^ 60)) prime 21 (.d (.glo 33)) .no) (hh R a b c (rep 12 tT) (mC x L [])) = .nx (sg odd none (.int 201) (.tup [.int 1, .int 1]) (.int (10 ^ 60)) prime 21 (.d (.glo 33)) (.d (.ref 22))) (hh R a b c (rep 12 tT) (mC x L [.lst [.str (st [110, 117, 109, 98, 101, 114, 32, 50, 48, 49]), .str (st [110, 117, 109, 98, 101, 114, 32, 50, 48, 49]), .str (st [110, 117, 109, 98, 101, 114, 32, 40, 49, 44, 32, 49, 41]), .str (st [110, 117, 109, 98, 101, 114, 32, 49, 48, 48, 48, 48, 48, 48, 48, 48, 48, 48, 48, 48, 48, 48, 48, 48, 48, 48, 48, 48, 48, 48, 48, 48, 48, 48, 48, 48, 48, 48, 48, 48, 48, 48, 48, 48, 48, 48, 48, 48, 48, 48, 48, 48, 48, 48, 48, 48, 48, 48, 48, 48, 48, 48, 48, 48, 48, 48, 48, 48]), .str two]])) := by kernel_rfl
theorem c5_2_4_5 (R : List D) (a b c : Int) (odd none prime : D) (x : Str) (L : List D) : RUN 22 18 1 (sg odd none (.int 201) (.tup [.int 1, .int 1]) (.tup [.int 2, .int 1]) prime 21 (.d (.glo 33)) .no) (hh R a b c (rep 12 tT) (mC x L [])) = .nx (sg odd none (.int 201) (.tup [.int 1, .int 1]) (.tup [.int 2, .int 1]) prime 21 (.d (.glo 33)) (.d (.ref 22))) (hh R a b c (rep 12 tT) (mC x L [.lst [.str (st [110, 117, 109, 98, 101, 114, 32, 50, 48, 49]), .str (st [110, 117, 109, 98, 101, 114, 32, 50, 48, 49]), .str (st [110, 117, 109, 98, 101, 114, 32, 40, 49, 44, 32, 49, 41]), .str (st [110, 117, 109, 98, 101, 114, 32, 40, 50, 44, 32, 49, 41]), .str two]])) := by kernel_rfl
theorem c5_2_5_0 (R : List D) (a b c : Int) (odd none prime : D) (x : Str) (L : List D) : RUN 22 18 1 (sg odd none (.int 201) (.ref 10) (.non) prime 21 (.d (.glo 33)) .no) (hh R a b c (rep 12 tT) (mC x L [])) = .nx (sg odd none (.int 201) (.ref 10) (.non) prime 21 (.d (.glo 33)) (.d (.ref 22))) (hh R a b c (rep 12 tT) (mC x L [.lst [.str (st [110, 117, 109, 98, 101, 114, 32, 50, 48, 49]), .str (st [110, 117, 109, 98, 101, 114, 32, 50, 48, 49]), .str (st [110, 117, 109, 98, 101, 114, 32, 91, 49, 93]), .str (st [110, 117, 109, 98, 101, 114, 32, 78, 111, 110, 101]), .str two]])) := by kernel_rfl
theorem c5_2_5_1 (R : List D) (a b c : Int) (odd none prime : D) (x : Str) (L : List D) : RUN 22 18 1 (sg odd none (.int 201) (.ref 10) (.bl false) prime 21 (.d (.glo 33)) .no) (hh R a b c (rep 12 tT) (mC x L [])) = .nx (sg odd none (.int 201) (.ref 10) (.bl false) prime 21 (.d (.glo 33)) (.d (.ref 22))) (hh R a b c (rep 12 tT) (mC x L [.lst [.str (st [110, 117, 109, 98, 101, 114, 32, 50, 48, 49]), .str (st [110, 117, 109, 98, 101, 114, 32, 50, 48, 49]), .str (st [110, 117, 109, 98, 101, 114, 32, 91, 49, 93]), .str (st [110, 117, 109, 98, 101, 114, 32, 70, 97, 108, 115, 101]), .str two]])) := by kernel_rfl
theorem c5_2_5_2 (R : List D) (a b c : Int) (odd none prime : D) (x : Str) (L : List D) : RUN 22 18 1 (sg odd none (.int 201) (.ref 10) (.int 0) prime 21 (.d (.glo 33)) .no) (hh R a b c (rep 12 tT) (mC x L [])) = .nx (sg odd none (.int 201) (.ref 10) (.int 0) prime 21 (.d (.glo 33)) (.d (.ref 22))) (hh R a b c (rep 12 tT) (mC x L [.lst [.str (st [110, 117, 109, 98, 101, 114, 32, 50, 48, 49]), .str (st [110, 117, 109, 98, 101, 114, 32, 50, 48, 49]), .str (st [110, 117, 109, 98, 101, 114, 32, 91, 49, 93]), .str (st [110, 117, 109, 98, 101, 114, 32, 48]), .str two]])) := by kernel_rfl
theorem c5_2_5_3 (R : List D) (a b c : Int) (odd none prime : D) (x : Str) (L : List D) : RUN 22 18 1 (sg odd none (.int 201) (.ref 10) (.str (st [50])) prime 21 (.d (.glo 33)) .no) (hh R a b c (rep 12 tT) (mC x L [])) = .nx (sg odd none (.int 201) (.ref 10) (.str (st [50])) prime 21 (.d (.glo 33)) (.d (.ref 22))) (hh R a b c (rep 12 tT) (mC x L [.lst [.str (st [110, 117, 109, 98, 101, 114, 32, 50, 48, 49]), .str (st [110, 117, 109, 98, 101, 114, 32, 50, 48, 49]), .str (st [110, 117, 109, 98, 101, 114, 32, 91, 49, 93]), .str (st [110, 117, 109, 98, 101, 114, 32, 39, 50, 39]), .str two]])) := by kernel_rfl
theorem c5_2_5_4 (R : List D) (a b c : Int) (odd none prime : D) (x : Str) (L : List D) : RUN 22 18 1 (sg odd none (.int 201) (.ref 10) (.int (10 ^ 60)) prime 21 (.d (.glo 33)) .no) (hh R a b c (rep 12 tT) (mC x L [])) = .nx (sg odd none (.int 201) (.ref 10) (.int (10 ^ 60)) prime 21 (.d (.glo 33)) (.d (.ref 22))) (hh R a b c (rep 12 tT) (mC x L [.lst [.str (st [110, 117, 109, 98, 101, 114, 32, 50, 48, 49]), .str (st [110, 117, 109, 98, 101, 114, 32, 50, 48, 49]), .str (st [110, 117, 109, 98, 101, 114, 32, 91, 49, 93]), .str (st [110, 117, 109, 98, 101, 114, 32, 49, 48, 48, 48, 48, 48, 48, 48, 48, 48, 48, 48, 48, 48, 48, 48, 48, 48, 48, 48, 48, 48, 48, 48, 48, 48, 48, 48, 48, 48, 48, 48, 48, 48, 48, 48, 48, 48, 48, 48, 48, 48, 48, 48, 48, 48, 48, 48, 48, 48, 48, 48, 48, 48, 48, 48, 48, 48, 48, 48, 48]), .str two]])) := by kernel_rfl
theorem c5_2_5_5 (R : List D) (a b c : Int) (odd none prime : D) (x : Str) (L : List D) : RUN 22 18 1 (sg odd none (.int 201) (.ref 10) (.tup [.int 2, .int 1]) prime 21 (.d (.glo 33)) .no) (hh R a b c (rep 12 tT) (mC x L [])) = .nx (sg odd none (.int 201) (.ref 10) (.tup [.int 2, .int 1]) prime 21 (.d (.glo 33)) (.d (.ref 22))) (hh R a b c (rep 12 tT) (mC x L [.lst [.str (st [110, 117, 109, 98, 101, 114, 32, 50, 48, 49]), .str (st [110, 117, 109, 98, 101, 114, 32, 50, 48, 49]), .str (st [110, 117, 109, 98, 101, 114, 32, 91, 49, 93]), .str (st [110, 117, 109, 98, 101, 114, 32, 40, 50, 44, 32, 49, 41]), .str two]])) := by kernel_rfl
theorem c5_3_0_0 (R : List D) (a b c : Int) (odd none prime : D) (x : Str) (L : List D) : RUN 22 18 1 (sg odd none (.bl true) (.non) (.non) prime 21 (.d (.glo 33)) .no) (hh R a b c (rep 12 tT) (mC x L [])) = .nx (sg odd none (.bl true) (.non) (.non) prime 21 (.d (.glo 33)) (.d (.ref 22))) (hh R a b c (rep 12 tT) (mC x L [.lst [.str (st [110, 117, 109, 98, 101, 114, 32, 84, 114, 117, 101]), .str (st [110, 117, 109, 98, 101, 114, 32, 84, 114, 117, 101]), .str (st [110, 117, 109, 98, 101, 114, 32, 78, 111, 110, 101]), .str (st [110, 117, 109, 98, 101, 114, 32, 78, 111, 110, 101]), .str two]])) := by kernel_rfl
theorem c5_3_0_1 (R : List D) (a b c : Int) (odd none prime : D) (x : Str) (L : List D) : RUN 22 18 1 (sg odd none (.bl true) (.non) (.bl false) prime 21 (.d (.glo 33)) .no) (hh R a b c (rep 12 tT) (mC x L [])) = .nx (sg odd none (.bl true) (.non) (.bl false) prime 21 (.d (.glo 33)) (.d (.ref 22))) (hh R a b c (rep 12 tT) (mC x L [.lst [.str (st [110, 117, 109, 98, 101, 114, 32, 84, 114, 117, 101]), .str (st [110, 117, 109, 98, 101, 114, 32, 84, 114, 117, 101]), .str (st [110, 117, 109, 98, 101, 114, 32, 78, 111, 110, 101]), .str (st [110, 117, 109, 98, 101, 114, 32, 70, 97, 108, 115, 101]), .str two]])) := by kernel_rfl
theorem c5_3_0_2 (R : List D) (a b c : Int) (odd none prime : D) (x : Str) (L : List D) : RUN 22 18 1 (sg odd none (.bl true) (.non) (.int 0) prime 21 (.d (.glo 33)) .no) (hh R a b c (rep 12 tT) (mC x L [])) = .nx (sg odd none (.bl true) (.non) (.int 0) prime 21 (.d (.glo 33)) (.d (.ref 22))) (hh R a b c (rep 12 tT) (mC x L [.lst [.str (st [110, 117, 109, 98, 101, 114, 32, 84, 114, 117, 101]), .str (st [110, 117, 109, 98, 101, 114, 32, 84, 114, 117, 101]), .str (st [110, 117, 109, 98, 101, 114, 32, 78, 111, 110, 101]), .str (st [110, 117, 109, 98, 101, 114, 32, 48]), .str two]])) := by kernel_rfl
theorem c5_3_0_3 (R : List D) (a b c : Int) (odd none prime : D) (x : Str) (L : List D) : RUN 22 18 1 (sg odd none (.bl true) (.non) (.str (st [50])) prime 21 (.d (.glo 33)) .no) (hh R a b c (rep 12 tT) (mC x L [])) = .nx (sg odd none (.bl true) (.non) (.str (st [50])) prime 21 (.d (.glo 33)) (.d (.ref 22))) (hh R a b c (rep 12 tT) (mC x L [.lst [.str (st [110, 117, 109, 98, 101, 114, 32, 84, 114, 117, 101]), .str (st [110, 117, 109, 98, 101, 114, 32, 84, 114, 117, 101]), .str (st [110, 117, 109, 98, 101, 114, 32, 78, 111, 110, 101]), .str (st [110, 117, 109, 98, 101, 114, 32, 39, 50, 39]), .str two]])) := by kernel_rfl
theorem c5_3_0_4 (R : List D) (a b c : Int) (odd none prime : D) (x : Str) (L : List D) : RUN 22 18 1 (sg odd none (.bl true) (.non) (.int (10 ^ 60)) prime 21 (.d (.glo 33)) .no) (hh R a b c (rep 12 tT) (mC x L [])) = .nx (sg odd none (.bl true) (.non) (.int (10 ^ 60)) prime 21 (.d (.glo 33)) (.d (.ref 22))) (hh R a b c (rep 12 tT) (mC x L [.lst [.str (st [110, 117, 109, 98, 101, 114, 32, 84, 114, 117, 101]), .str (st [110, 117, 109, 98, 101, 114, 32, 84, 114, 117, 101]), .str (st [110, 117, 109, 98, 101, 114, 32, 78, 111, 110, 101]), .str (st [110, 117, 109, 98, 101, 114, 32, 49, 48, 48, 48, 48, 48, 48, 48, 48, 48, 48, 48, 48, 48, 48, 48, 48, 48, 48, 48, 48, 48, 48, 48, 48, 48, 48, 48, 48, 48, 48, 48, 48, 48, 48, 48, 48, 48, 48, 48, 48, 48, 48, 48, 48, 48, 48, 48, 48, 48, 48, 48, 48, 48, 48, 48, 48, 48, 48, 48, 48]), .str two]])) := by kernel_rfl
theorem c5_3_0_5 (R : List D) (a b c : Int) (odd none prime : D) (x : Str) (L : List D) : RUN 22 18 1 (sg odd none (.bl true) (.non) (.tup [.int 2, .int 1]) prime 21 (.d (.glo 33)) .no) (hh R a b c (rep 12 tT) (mC x L [])) = .nx (sg odd none (.bl true) (.non) (.tup [.int 2, .int 1]) prime 21 (.d (.glo 33)) (.d (.ref 22))) (hh R a b c (rep 12 tT) (mC x L [.lst [.str (st [110, 117, 109, 98, 101, 114, 32, 84, 114, 117, 101]), .str (st [110, 117, 109, 98, 101, 114, 32, 84, 114, 117, 101]), .str (st [110, 117, 109, 98, 101, 114, 32, 78, 111, 110, 101]), .str (st [110, 117, 109, 98, 101, 114, 32, 40, 50, 44, 32, 49, 41]), .str two]])) := by kernel_rfl
theorem c5_3_1_0 (R : List D) (a b c : Int) (odd none prime : D) (x : Str) (L : List D) : RUN 22 18 1 (sg odd none (.bl true) (.bl true) (.non) prime 21 (.d (.glo 33)) .no) (hh R a b c (rep 12 tT) (mC x L [])) = .nx (sg odd none (.bl true) (.bl true) (.non) prime 21 (.d (.glo 33)) (.d (.ref 22))) (hh R a b c (rep 12 tT) (mC x L [.lst [.str (st [110, 117, 109, 98, 101, 114, 32, 84, 114, 117, 101]), .str (st [110, 117, 109, 98, 101, 114, 32, 84, 114, 117, 101]), .str (st [110, 117, 109, 98, 101, 114, 32, 84, 114, 117, 101]), .str (st [110, 117, 109, 98, 101, 114, 32, 78, 111, 110, 101]), .str two]])) := by kernel_rfl
theorem c5_3_1_1 (R : List D) (a b c : Int) (odd none prime : D) (x : Str) (L : List D) : RUN 22 18 1 (sg odd none (.bl true) (.bl true) (.bl false) prime 21 (.d (.glo 33)) .no) (hh R a b c (rep 12 tT) (mC x L [])) = .nx (sg odd none (.bl true) (.bl true) (.bl false) prime 21 (.d (.glo 33)) (.d (.ref 22))) (hh R a b c (rep 12 tT) (mC x L [.lst [.str (st [110, 117, 109, 98, 101, 114, 32, 84, 114, 117, 101]), .str (st [110, 117, 109, 98, 101, 114, 32, 84, 114, 117, 101]), .str (st [110, 117, 109, 98, 101, 114, 32, 84, 114, 117, 101]), .str (st [110, 117, 109, 98, 101, 114, 32, 70, 97, 108, 115, 101]), .str two]])) := by kernel_rfl
theorem c5_3_1_2 (R : List D) (a b c : Int) (odd none prime : D) (x : Str) (L : List D) : RUN 22 18 1 (sg odd none (.bl true) (.bl true) (.int 0) prime 21 (.d (.glo 33)) .no) (hh R a b c (rep 12 tT) (mC x L [])) = .nx (sg odd none (.bl true) (.bl true) (.int 0) prime 21 (.d (.glo 33)) (.d (.ref 22))) (hh R a b c (rep 12 tT) (mC x L [.lst [.str (st [110, 117, 109, 98, 101, 114, 32, 84, 114, 117, 101]), .str (st [110, 117, 109, 98, 101, 114, 32, 84, 114, 117, 101]), .str (st [110, 117, 109, 98, 101, 114, 32, 84, 114, 117, 101]), .str (st [110, 117, 109, 98, 101, 114, 32, 48]), .str two]])) := by kernel_rfl
theorem c5_3_1_3 (R : List D) (a b c : Int) (odd none prime : D) (x : Str) (L : List D) : RUN 22 18 1 (sg odd none (.bl true) (.bl true) (.str (st [50])) prime 21 (.d (.glo 33)) .no) (hh R a b c (rep 12 tT) (mC x L [])) = .nx (sg odd none (.bl true) (.bl true) (.str (st [50])) prime 21 (.d (.glo 33)) (.d (.ref 22))) (hh R a b c (rep 12 tT) (mC x L [.lst [.str (st [110, 117, 109, 98, 101, 114, 32, 84, 114, 117, 101]), .str (st [110, 117, 109, 98, 101, 114, 32, 84, 114, 117, 101]), .str (st [110, 117, 109, 98, 101, 114, 32, 84, 114, 117, 101]), .str (st [110, 117, 109, 98, 101, 114, 32, 39, 50, 39]), .str two]])) := by kernel_rfl
theorem c5_3_1_4 (R : List D) (a b c : Int) (odd none prime : D) (x : Str) (L : List D) : RUN 22 18 1 (sg odd none (.bl true) (.bl true) (.int (10 ^ 60)) prime 21 (.d (.glo 33)) .no) (hh R a b c (rep 12 tT) (mC x L [])) = .nx (sg odd none (.bl true) (.bl true) (.int (10 ^ 60)) prime 21 (.d (.glo 33)) (.d (.ref 22))) (hh R a b c (rep 12 tT) (mC x L [.lst [.str (st [110, 117, 109, 98, 101, 114, 32, 84, 114, 117, 101]), .str (st [110, 117, 109, 98, 101, 114, 32, 84, 114, 117, 101]), .str (st [110, 117, 109, 98, 101, 114, 32, 84, 114, 117, 101]), .str (st [110, 117, 109, 98, 101, 114, 32, 49, 48, 48, 48, 48, 48, 48, 48, 48, 48, 48, 48, 48, 48, 48, 48, 48, 48, 48, 48, 48, 48, 48, 48, 48, 48, 48, 48, 48, 48, 48, 48, 48, 48, 48, 48, 48, 48, 48, 48, 48, 48, 48, 48, 48, 48, 48, 48, 48, 48, 48, 48, 48, 48, 48, 48, 48, 48, 48, 48, 48]), .str two]])) := by kernel_rfl
theorem c5_3_1_5 (R : List D) (a b c : Int) (odd none prime : D) (x : Str) (L : List D) : RUN 22 18 1 (sg odd none (.bl true) (.bl true) (.tup [.int 2, .int 1]) prime 21 (.d (.glo 33)) .no) (hh R a b c (rep 12 tT) (mC x L [])) = .nx (sg odd none (.bl true) (.bl true) (.tup [.int 2, .int 1]) prime 21 (.d (.glo 33)) (.d (.ref 22))) (hh R a b c (rep 12 tT) (mC x L [.lst [.str (st [110, 117, 109, 98, 101, 114, 32, 84, 114, 117, 101]), .str (st [110, 117, 109, 98, 101, 114, 32, 84, 114, 117, 101]), .str (st [110, 117, 109, 98, 101, 114, 32, 84, 114, 117, 101]), .str (st [110, 117, 109, 98, 101, 114, 32, 40, 50, 44, 32, 49, 41]), .str two]])) := by kernel_rfl
theorem c5_3_2_0 (R : List D) (a b c : Int) (odd none prime : D) (x : Str) (L : List D) : RUN 22 18 1 (sg odd none (.bl true) (.str (st [49])) (.non) prime 21 (.d (.glo 33)) .no) (hh R a b c (rep 12 tT) (mC x L [])) = .nx (sg odd none (.bl true) (.str (st [49])) (.non) prime 21 (.d (.glo 33)) (.d (.ref 22))) (hh R a b c (rep 12 tT) (mC x L [.lst [.str (st [110, 117, 109, 98, 101, 114, 32, 84, 114, 117, 101]), .str (st [110, 117, 109, 98, 101, 114, 32, 84, 114, 117, 101]), .str (st [110, 117, 109, 98, 101, 114, 32, 39, 49, 39]), .str (st [110, 117, 109, 98, 101, 114, 32, 78, 111, 110, 101]), .str two]])) := by kernel_rfl
theorem c5_3_2_1 (R : List D) (a b c : Int) (odd none prime : D) (x : Str) (L : List D) : RUN 22 18 1 (sg odd none (.bl true) (.str (st [49])) (.bl false) prime 21 (.d (.glo 33)) .no) (hh R a b c (rep 12 tT) (mC x L [])) = .nx (sg odd none (.bl true) (.str (st [49])) (.bl false) prime 21 (.d (.glo 33)) (.d (.ref 22))) (hh R a b c (rep 12 tT) (mC x L [.lst [.str (st [110, 117, 109, 98, 101, 114, 32, 84, 114, 117, 101]), .str (st [110, 117, 109, 98, 101, 114, 32, 84, 114, 117, 101]), .str (st [110, 117, 109, 98, 101, 114, 32, 39, 49, 39]), .str (st [110, 117, 109, 98, 101, 114, 32, 70, 97, 108, 115, 101]), .str two]])) := by kernel_rfl
theorem c5_3_2_2 (R : List D) (a b c : Int) (odd none prime : D) (x : Str) (L : List D) : RUN 22 18 1 (sg odd none (.bl true) (.str (st [49])) (.int 0) prime 21 (.d (.glo 33)) .no) (hh R a b c (rep 12 tT) (mC x L [])) = .nx (sg odd none (.bl true) (.str (st [49])) (.int 0) prime 21 (.d (.glo 33)) (.d (.ref 22))) (hh R a b c (rep 12 tT) (mC x L [.lst [.str (st [110, 117, 109, 98, 101, 114, 32, 84, 114, 117, 101]), .str (st [110, 117, 109, 98, 101, 114, 32, 84, 114, 117, 101]), .str (st [110, 117, 109, 98, 101, 114, 32, 39, 49, 39]), .str (st [110, 117, 109, 98, 101, 114, 32, 48]), .str two]])) := by kernel_rfl
theorem c5_3_2_3 (R : List D) (a b c : Int) (odd none prime : D) (x : Str) (L : List D) : RUN 22 18 1 (sg odd none (.bl true) (.str (st [49])) (.str (st [50])) prime 21 (.d (.glo 33)) .no) (hh R a b c (rep 12 tT) (mC x L [])) = .nx (sg odd none (.bl true) (.str (st [49])) (.str (st [50])) prime 21 (.d (.glo 33)) (.d (.ref 22))) (hh R a b c (rep 12 tT) (mC x L [.lst [.str (st [110, 117, 109, 98, 101, 114, 32, 84, 114, 117, 101]), .str (st [110, 117, 109, 98, 101, 114, 32, 84, 114, 117, 101]), .str (st [110, 117, 109, 98, 101, 114, 32, 39, 49, 39]), .str (st [110, 117, 109, 98, 101, 114, 32, 39, 50, 39]), .str two]])) := by kernel_rfl
theorem c5_3_2_4 (R : List D) (a b c : Int) (odd none prime : D) (x : Str) (L : List D) : RUN 22 18 1 (sg odd none (.bl true) (.str (st [49])) (.int (10 ^ 60)) prime 21 (.d (.glo 33)) .no) (hh R a b c (rep 12 tT) (mC x L [])) = .nx (sg odd none (.bl true) (.str (st [49])) (.int (10 ^ 60)) prime 21 (.d (.glo 33)) (.d (.ref 22))) (hh R a b c (rep 12 tT) (mC x L [.lst [.str (st [110, 117, 109, 98, 101, 114, 32, 84, 114, 117, 101]), .str (st [110, 117, 109, 98, 101, 114, 32, 84, 114, 117, 101]), .str (st [110, 117, 109, 98, 101, 114, 32, 39, 49, 39]), .str (st [110, 117, 109, 98, 101, 114, 32, 49, 48, 48, 48, 48, 48, 48, 48, 48, 48, 48, 48, 48, 48, 48, 48, 48, 48, 48, 48, 48, 48, 48, 48, 48, 48, 48, 48, 48, 48, 48, 48, 48, 48, 48, 48, 48, 48, 48, 48, 48, 48, 48, 48, 48, 48, 48, 48, 48, 48, 48, 48, 48, 48, 48, 48, 48, 48, 48, 48, 48]), .str two]])) := by kernel_rfl
theorem c5_3_2_5 (R : List D) (a b c : Int) (odd none prime : D) (x : Str) (L : List D) : RUN 22 18 1 (sg odd none (.bl true) (.str (st [49])) (.tup [.int 2, .int 1]) prime 21 (.d (.glo 33)) .no) (hh R a b c (rep 12 tT) (mC x L [])) = .nx (sg odd none (.bl true) (.str (st [49])) (.tup [.int 2, .int 1]) prime 21 (.d (.glo 33)) (.d (.ref 22))) (hh R a b c (rep 12 tT) (mC x L [.lst [.str (st [110, 117, 109, 98, 101, 114, 32, 84, 114, 117, 101]), .str (st [110, 117, 109, 98, 101, 114, 32, 84, 114, 117, 101]), .str (st [110, 117, 109, 98, 101, 114, 32, 39, 49, 39]), .str (st [110, 117, 109, 98, 101, 114, 32, 40, 50, 44, 32, 49, 41]), .str two]])) := by kernel_rfl
theorem c5_3_3_0 (R : List D) (a b c : Int) (odd none prime : D) (x : Str) (L : List D) : RUN 22 18 1 (sg odd none (.bl true) (.int (10 ^ 60)) (.non) prime 21 (.d (.glo 33)) .no) (hh R a b c (rep 12 tT) (mC x L [])) = .nx (sg odd none (.bl true) (.int (10 ^ 60)) (.non) prime 21 (.d (.glo 33)) (.d (.ref 22))) (hh R a b c (rep 12 tT) (mC x L [.lst [.str (st [110, 117, 109, 98, 101, 114, 32, 84, 114, 117, 101]), .str (st [110, 117, 109, 98, 101, 114, 32, 84, 114, 117, 101]), .str (st [110, 117, 109, 98, 101, 114, 32, 49, 48, 48, 48, 48, 48, 48, 48, 48, 48, 48, 48, 48, 48, 48, 48, 48, 48, 48, 48, 48, 48, 48, 48, 48, 48, 48, 48, 48, 48, 48, 48, 48, 48, 48, 48, 48, 48, 48, 48, 48, 48, 48, 48, 48, 48, 48, 48, 48, 48, 48, 48, 48, 48, 48, 48, 48, 48, 48, 48, 48]), .str (st [110, 117, 109, 98, 101, 114, 32, 78, 111, 110, 101]), .str two]])) := by kernel_rfl
theorem c5_3_3_1 (R : List D) (a b c : Int) (odd none prime : D) (x : Str) (L : List D) : RUN 22 18 1 (sg odd none (.bl true) (.int (10 ^ 60)) (.bl false) prime 21 (.d (.glo 33)) .no) (hh R a b c (rep 12 tT) (mC x L [])) = .nx (sg odd none (.bl true) (.int (10 ^ 60)) (.bl false) prime 21 (.d (.glo 33)) (.d (.ref 22))) (hh R a b c (rep 12 tT) (mC x L [.lst [.str (st [110, 117, 109, 98, 101, 114, 32, 84, 114, 117, 101]), .str (st [110, 117, 109, 98, 101, 114, 32, 84, 114, 117, 101]), .str (st [110, 117, 109, 98, 101, 114, 32, 49, 48, 48, 48, 48, 48, 48, 48, 48, 48, 48, 48, 48, 48, 48, 48, 48, 48, 48, 48, 48, 48, 48, 48, 48, 48, 48, 48, 48, 48, 48, 48, 48, 48, 48, 48, 48, 48, 48, 48, 48, 48, 48, 48, 48, 48, 48, 48, 48, 48, 48, 48, 48, 48, 48, 48, 48, 48, 48, 48, 48]), .str (st [110, 117, 109, 98, 101, 114, 32, 70, 97, 108, 115, 101]), .str two]])) := by kernel_rfl
theorem c5_3_3_2 (R : List D) (a b c : Int) (odd none prime : D) (x : Str) (L : List D) : RUN 22 18 1 (sg odd none (.bl true) (.int (10 ^ 60)) (.int 0) prime 21 (.d (.glo 33)) .no) (hh R a b c (rep 12 tT) (mC x L [])) = .nx (sg odd none (.bl true) (.int (10 ^ 60)) (.int 0) prime 21 (.d (.glo 33)) (.d (.ref 22))) (hh R a b c (rep 12 tT) (mC x L [.lst [.str (st [110, 117, 109, 98, 101, 114, 32, 84, 114, 117, 101]), .str (st [110, 117, 109, 98, 101, 114, 32, 84, 114, 117, 101]), .str (st [110, 117, 109, 98, 101, 114, 32, 49, 48, 48, 48, 48, 48, 48, 48, 48, 48, 48, 48, 48, 48, 48, 48, 48, 48, 48, 48, 48, 48, 48, 48, 48, 48, 48, 48, 48, 48, 48, 48, 48, 48, 48, 48, 48, 48, 48, 48, 48, 48, 48, 48, 48, 48, 48, 48, 48, 48, 48, 48, 48, 48, 48, 48, 48, 48, 48, 48, 48]), .str (st [110, 117, 109, 98, 101, 114, 32, 48]), .str two]])) := by kernel_rfl
theorem c5_3_3_3 (R : List D) (a b c : Int) (odd none prime : D) (x : Str) (L : List D) : RUN 22 18 1 (sg odd none (.bl true) (.int (10 ^ 60)) (.str (st [50])) prime 21 (.d (.glo 33)) .no) (hh R a b c (rep 12 tT) (mC x L [])) = .nx (sg odd none (.bl true) (.int (10 ^ 60)) (.str (st [50])) prime 21 (.d (.glo 33)) (.d (.ref 22))) (hh R a b c (rep 12 tT) (mC x L [.lst [.str (st [110, 117, 109, 98, 101, 114, 32, 84, 114, 117, 101]), .str (st [110, 117, 109, 98, 101, 114, 32, 84, 114, 117, 101]), .str (st [110, 117, 109, 98, 101, 114, 32, 49, 48, 48, 48, 48, 48, 48, 48, 48, 48, 48, 48, 48, 48, 48, 48, 48, 48, 48, 48, 48, 48, 48, 48, 48, 48, 48, 48, 48, 48, 48, 48, 48, 48, 48, 48, 48, 48, 48, 48, 48, 48, 48, 48, 48, 48, 48, 48, 48, 48, 48, 48, 48, 48, 48, 48, 48, 48, 48, 48, 48]), .str (st [110, 117, 109, 98, 101, 114, 32, 39, 50, 39]), .str two]])) := by kernel_rfl
theorem c5_3_3_4 (R : List D) (a b c : Int) (odd none prime : D) (x : Str) (L : List D) : RUN 22 18 1 (sg odd none (.bl true) (.int (10 ^ 60)) (.int (10 ^ 60)) prime 21 (.d (.glo 33)) .no) (hh R a b c (rep 12 tT) (mC x L [])) = .nx (sg odd none (.bl true) (.int (10 ^ 60)) (.int (10 ^ 60)) prime 21 (.d (.glo 33)) (.d (.ref 22))) (hh R a b c (rep 12 tT) (mC x L [.lst [.str (st [110, 117, 109, 98, 101, 114, 32, 84, 114, 117, 101]), .str (st [110, 117, 109, 98, 101, 114, 32, 84, 114, 117, 101]), .str (st [110, 117, 109, 98, 101, 114, 32, 49, 48, 48, 48, 48, 48, 48, 48, 48, 48, 48, 48, 48, 48, 48, 48, 48, 48, 48, 48, 48, 48, 48, 48, 48, 48, 48, 48, 48, 48, 48, 48, 48, 48, 48, 48, 48, 48, 48, 48, 48, 48, 48, 48, 48, 48, 48, 48, 48, 48, 48, 48, 48, 48, 48, 48, 48, 48, 48, 48, 48]), .str (st [110, 117, 109, 98, 101, 114, 32, 49, 48, 48, 48, 48, 48, 48, 48, 48, 48, 48, 48, 48, 48, 48, 48, 48, 48, 48, 48, 48, 48, 48, 48, 48, 48, 48, 48, 48, 48, 48, 48, 48, 48, 48, 48, 48, 48, 48, 48, 48, 48, 48, 48, 48, 48, 48, 48, 48, 48, 48, 48, 48, 48, 48, 48, 48, 48, 48, 48, 48]), .str two]])) := by kernel_rfl
theorem c5_3_3_5 (R : List D) (a b c : Int) (odd none prime : D) (x : Str) (L : List D) : RUN 22 18 1 (sg odd none (.bl true) (.int (10 ^ 60)) (.tup [.int 2, .int 1]) prime 21 (.d (.glo 33)) .no) (hh R a b c (rep 12 tT) (mC x L [])) = .nx (sg odd none (.bl true) (.int (10 ^ 60)) (.tup [.int 2, .int 1]) prime 21 (.d (.glo 33)) (.d (.ref 22))) (hh R a b c (rep 12 tT) (mC x L [.lst [.str (st [110, 117, 109, 98, 101, 114, 32, 84, 114, 117, 101]), .str (st [110, 117, 109, 98, 101, 114, 32, 84, 114, 117, 101]), .str (st [110, 117, 109, 98, 101, 114, 32, 49, 48, 48, 48, 48, 48, 48, 48, 48, 48, 48, 48, 48, 48, 48, 48, 48, 48, 48, 48, 48, 48, 48, 48, 48, 48, 48, 48, 48, 48, 48, 48, 48, 48, 48, 48, 48, 48, 48, 48, 48, 48, 48, 48, 48, 48, 48, 48, 48, 48, 48, 48, 48, 48, 48, 48, 48, 48, 48, 48, 48]), .str (st [110, 117, 109, 98, 101, 114, 32, 40, 50, 44, 32, 49, 41]), .str two]])) := by kernel_rfl
theorem c5_3_4_0 (R : List D) (a b c : Int) (odd none prime : D) (x : Str) (L : List D) : RUN 22 18 1 (sg odd none (.bl true) (.tup [.int 1, .int 1]) (.non) prime 21 (.d (.glo 33)) .no) (hh R a b c (rep 12 tT) (mC x L [])) = .nx (sg odd none (.bl true) (.tup [.int 1, .int 1]) (.non) prime 21 (.d (.glo 33)) (.d (.ref 22))) (hh R a b c (rep 12 tT) (mC x L [.lst [.str (st [110, 117, 109, 98, 101, 114, 32, 84, 114, 117, 101]), .str (st [110, 117, 109, 98, 101, 114, 32, 84, 114, 117, 101]), .str (st [110, 117, 109, 98, 101, 114, 32, 40, 49, 44, 32, 49, 41]), .str (st [110, 117, 109, 98, 101, 114, 32, 78, 111, 110, 101]), .str two]])) := by kernel_rfl
theorem c5_3_4_1 (R : List D) (a b c : Int) (odd none prime : D) (x : Str) (L : List D) : RUN 22 18 1 (sg odd none (.bl true) (.tup [.int 1, .int 1]) (.bl false) prime 21 (.d (.glo 33)) .no) (hh R a b c (rep 12 tT) (mC x L [])) = .nx (sg odd none (.bl true) (.tup [.int 1, .int 1]) (.bl false) prime 21 (.d (.glo 33)) (.d (.ref 22))) (hh R a b c (rep 12 tT) (mC x L [.lst [.str (st [110, 117, 109, 98, 101, 114, 32, 84, 114, 117, 101]), .str (st [110, 117, 109, 98, 101, 114, 32, 84, 114, 117, 101]), .str (st [110, 117, 109, 98, 101, 114, 32, 40, 49, 44, 32, 49, 41]), .str (st [110, 117, 109, 98, 101, 114, 32, 70, 97, 108, 115, 101]), .str two]])) := by kernel_rfl
theorem c5_3_4_2 (R : List D) (a b c : Int) (odd none prime : D) (x : Str) (L : List D) : RUN 22 18 1 (sg odd none (.bl true) (.tup [.int 1, .int 1]) (.int 0) prime 21 (.d (.glo 33)) .no) (hh R a b c (rep 12 tT) (mC x L [])) = .nx (sg odd none (.bl true) (.tup [.int 1, .int 1]) (.int 0) prime 21 (.d (.glo 33)) (.d (.ref 22))) (hh R a b c (rep 12 tT) (mC x L [.lst [.str (st [110, 117, 109, 98, 101, 114, 32, 84, 114, 117, 101]), .str (st [110, 117, 109, 98, 101, 114, 32, 84, 114, 117, 101]), .str (st [110, 117, 109, 98, 101, 114, 32, 40, 49, 44, 32, 49, 41]), .str (st [110, 117, 109, 98, 101, 114, 32, 48]), .str two]])) := by kernel_rfl
theorem c5_3_4_3 (R : List D) (a b c : Int) (odd none prime : D) (x : Str) (L : List D) : RUN 22 18 1 (sg odd none (.bl true) (.tup [.int 1, .int 1]) (.str (st [50])) prime 21 (.d (.glo 33)) .no) (hh R a b c (rep 12 tT) (mC x L [])) = .nx (sg odd none (.bl true) (.tup [.int 1, .int 1]) (.str (st [50])) prime 21 (.d (.glo 33)) (.d (.ref 22))) (hh R a b c (rep 12 tT) (mC x L [.lst [.str (st [110, 117, 109, 98, 101, 114, 32, 84, 114, 117, 101]), .str (st [110, 117, 109, 98, 101, 114, 32, 84, 114, 117, 101]), .str (st [110, 117, 109, 98, 101, 114, 32, 40, 49, 44, 32, 49, 41]), .str (st [110, 117, 109, 98, 101, 114, 32, 39, 50, 39]), .str two]])) := by kernel_rfl
theorem c5_3_4_4 (R : List D) (a b c : Int) (odd none prime : D) (x : Str) (L : List D) : RUN 22 18 1 (sg odd none (.bl true) (.tup [.int 1, .int 1]) (.int (10 ^ 60)) prime 21 (.d (.glo 33)) .no) (hh R a b c (rep 12 tT) (mC x L [])) = .nx (sg odd none (.bl true) (.tup [.int 1, .int 1]) (.int (10 ^ 60)) prime 21 (.d (.glo 33)) (.d (.ref 22))) (hh R a b c (rep 12 tT) (mC x L [.lst [.str (st [110, 117, 109, 98, 101, 114, 32, 84, 114, 117, 101]), .str (st [110, 117, 109, 98, 101, 114, 32, 84, 114, 117, 101]), .str (st [110, 117, 109, 98, 101, 114, 32, 40, 49, 44, 32, 49, 41]), .str (st [110, 117, 109, 98, 101, 114, 32, 49, 48, 48, 48, 48, 48, 48, 48, 48, 48, 48, 48, 48, 48, 48, 48, 48, 48, 48, 48, 48, 48, 48, 48, 48, 48, 48, 48, 48, 48, 48, 48, 48, 48, 48, 48, 48, 48, 48, 48, 48, 48, 48, 48, 48, 48, 48, 48, 48, 48, 48, 48, 48, 48, 48, 48, 48, 48, 48, 48, 48]), .str two]])) := by kernel_rfl
theorem c5_3_4_5 (R : List D) (a b c : Int) (odd none prime : D) (x : Str) (L : List D) : RUN 22 18 1 (sg odd none (.bl true) (.tup [.int 1, .int 1]) (.tup [.int 2, .int 1]) prime 21 (.d (.glo 33)) .no) (hh R a b c (rep 12 tT) (mC x L [])) = .nx (sg odd none (.bl true) (.tup [.int 1, .int 1]) (.tup [.int 2, .int 1]) prime 21 (.d (.glo 33)) (.d (.ref 22))) (hh R a b c (rep 12 tT) (mC x L [.lst [.str (st [110, 117, 109, 98, 101, 114, 32, 84, 114, 117, 101]), .str (st [110, 117, 109, 98, 101, 114, 32, 84, 114, 117, 101]), .str (st [110, 117, 109, 98, 101, 114, 32, 40, 49, 44, 32, 49, 41]), .str (st [110, 117, 109, 98, 101, 114, 32, 40, 50, 44, 32, 49, 41]), .str two]])) := by kernel_rfl
theorem c5_3_5_0 (R : List D) (a b c : Int) (odd none prime : D) (x : Str) (L : List D) : RUN 22 18 1 (sg odd none (.bl true) (.ref 10) (.non) prime 21 (.d (.glo 33)) .no) (hh R a b c (rep 12 tT) (mC x L [])) = .nx (sg odd none (.bl true) (.ref 10) (.non) prime 21 (.d (.glo 33)) (.d (.ref 22))) (hh R a b c (rep 12 tT) (mC x L [.lst [.str (st [110, 117, 109, 98, 101, 114, 32, 84, 114, 117, 101]), .str (st [110, 117, 109, 98, 101, 114, 32, 84, 114, 117, 101]), .str (st [110, 117, 109, 98, 101, 114, 32, 91, 49, 93]), .str (st [110, 117, 109, 98, 101, 114, 32, 78, 111, 110, 101]), .str two]])) := by kernel_rfl
theorem c5_3_5_1 (R : List D) (a b c : Int) (odd none prime : D) (x : Str) (L : List D) : RUN 22 18 1 (sg odd none (.bl true) (.ref 10) (.bl false) prime 21 (.d (.glo 33)) .no) (hh R a b c (rep 12 tT) (mC x L [])) = .nx (sg odd none (.bl true) (.ref 10) (.bl false) prime 21 (.d (.glo 33)) (.d (.ref 22))) (hh R a b c (rep 12 tT) (mC x L [.lst [.str (st [110, 117, 109, 98, 101, 114, 32, 84, 114, 117, 101]), .str (st [110, 117, 109, 98, 101, 114, 32, 84, 114, 117, 101]), .str (st [110, 117, 109, 98, 101, 114, 32, 91, 49, 93]), .str (st [110, 117, 109, 98, 101, 114, 32, 70, 97, 108, 115, 101]), .str two]])) := by kernel_rfl
theorem c5_3_5_2 (R : List D) (a b c : Int) (odd none prime : D) (x : Str) (L : List D) : RUN 22 18 1 (sg odd none (.bl true) (.ref 10) (.int 0) prime 21 (.d (.glo 33)) .no) (hh R a b c (rep 12 tT) (mC x L [])) = .nx (sg odd none (.bl true) (.ref 10) (.int 0) prime 21 (.d (.glo 33)) (.d (.ref 22))) (hh R a b c (rep 12 tT) (mC x L [.lst [.str (st [110, 117, 109, 98, 101, 114, 32, 84, 114, 117, 101]), .str (st [110, 117, 109, 98, 101, 114, 32, 84, 114, 117, 101]), .str (st [110, 117, 109, 98, 101, 114, 32, 91, 49, 93]), .str (st [110, 117, 109, 98, 101, 114, 32, 48]), .str two]])) := by kernel_rfl
theorem c5_3_5_3 (R : List D) (a b c : Int) (odd none prime : D) (x : Str) (L : List D) : RUN 22 18 1 (sg odd none (.bl true) (.ref 10) (.str (st [50])) prime 21 (.d (.glo 33)) .no) (hh R a b c (rep 12 tT) (mC x L [])) = .nx (sg odd none (.bl true) (.ref 10) (.str (st [50])) prime 21 (.d (.glo 33)) (.d (.ref 22))) (hh R a b c (rep 12 tT) (mC x L [.lst [.str (st [110, 117, 109, 98, 101, 114, 32, 84, 114, 117, 101]), .str (st [110, 117, 109, 98, 101, 114, 32, 84, 114, 117, 101]), .str (st [110, 117, 109, 98, 101, 114, 32, 91, 49, 93]), .str (st [110, 117, 109, 98, 101, 114, 32, 39, 50, 39]), .str two]])) := by kernel_rfl
theorem c5_3_5_4 (R : List D) (a b c : Int) (odd none prime : D) (x : Str) (L : List D) : RUN 22 18 1 (sg odd none (.bl true) (.ref 10) (.int (10 ^ 60)) prime 21 (.d (.glo 33)) .no) (hh R a b c (rep 12 tT) (mC x L [])) = .nx (sg odd none (.bl true) (.ref 10) (.int (10 ^ 60)) prime 21 (.d (.glo 33)) (.d (.ref 22))) (hh R a b c (rep 12 tT) (mC x L [.lst [.str (st [110, 117, 109, 98, 101, 114, 32, 84, 114, 117, 101]), .str (st [110, 117, 109, 98, 101, 114, 32, 84, 114, 117, 101]), .str (st [110, 117, 109, 98, 101, 114, 32, 91, 49, 93]), .str (st [110, 117, 109, 98, 101, 114, 32, 49, 48, 48, 48, 48, 48, 48, 48, 48, 48, 48, 48, 48, 48, 48, 48, 48, 48, 48, 48, 48, 48, 48, 48, 48, 48, 48, 48, 48, 48, 48, 48, 48, 48, 48, 48, 48, 48, 48, 48, 48, 48, 48, 48, 48, 48, 48, 48, 48, 48, 48, 48, 48, 48, 48, 48, 48, 48, 48, 48, 48]), .str two]])) := by kernel_rfl
theorem c5_3_5_5 (R : List D) (a b c : Int) (odd none prime : D) (x : Str) (L : List D) : RUN 22 18 1 (sg odd none (.bl true) (.ref 10) (.tup [.int 2, .int 1]) prime 21 (.d (.glo 33)) .no) (hh R a b c (rep 12 tT) (mC x L [])) = .nx (sg odd none (.bl true) (.ref 10) (.tup [.int 2, .int 1]) prime 21 (.d (.glo 33)) (.d (.ref 22))) (hh R a b c (rep 12 tT) (mC x L [.lst [.str (st [110, 117, 109, 98, 101, 114, 32, 84, 114, 117, 101]), .str (st [110, 117, 109, 98, 101, 114, 32, 84, 114, 117, 101]), .str (st [110, 117, 109, 98, 101, 114, 32, 91, 49, 93]), .str (st [110, 117, 109, 98, 101, 114, 32, 40, 50, 44, 32, 49, 41]), .str two]])) := by kernel_rfl
theorem c5_4_0_0 (R : List D) (a b c : Int) (odd none prime : D) (x : Str) (L : List D) : RUN 22 18 1 (sg odd none (.str (st [49])) (.non) (.non) prime 21 (.d (.glo 33)) .no) (hh R a b c (rep 12 tT) (mC x L [])) = .nx (sg odd none (.str (st [49])) (.non) (.non) prime 21 (.d (.glo 33)) (.d (.ref 22))) (hh R a b c (rep 12 tT) (mC x L [.lst [.str (st [110, 117, 109, 98, 101, 114, 32, 39, 49, 39]), .str (st [110, 117, 109, 98, 101, 114, 32, 39, 49, 39]), .str (st [110, 117, 109, 98, 101, 114, 32, 78, 111, 110, 101]), .str (st [110, 117, 109, 98, 101, 114, 32, 78, 111, 110, 101]), .str two]])) := by kernel_rfl
theorem c5_4_0_1 (R : List D) (a b c : Int) (odd none prime : D) (x : Str) (L : List D) : RUN 22 18 1 (sg odd none (.str (st [49])) (.non) (.bl false) prime 21 (.d (.glo 33)) .no) (hh R a b c (rep 12 tT) (mC x L [])) = .nx (sg odd none (.str (st [49])) (.non) (.bl false) prime 21 (.d (.glo 33)) (.d (.ref 22))) (hh R a b c (rep 12 tT) (mC x L [.lst [.str (st [110, 117, 109, 98, 101, 114, 32, 39, 49, 39]), .str (st [110, 117, 109, 98, 101, 114, 32, 39, 49, 39]), .str (st [110, 117, 109, 98, 101, 114, 32, 78, 111, 110, 101]), .str (st [110, 117, 109, 98, 101, 114, 32, 70, 97, 108, 115, 101]), .str two]])) := by kernel_rfl
theorem c5_4_0_2 (R : List D) (a b c : Int) (odd none prime : D) (x : Str) (L : List D) : RUN 22 18 1 (sg odd none (.str (st [49])) (.non) (.int 0) prime 21 (.d (.glo 33)) .no) (hh R a b c (rep 12 tT) (mC x L [])) = .nx (sg odd none (.str (st [49])) (.non) (.int 0) prime 21 (.d (.glo 33)) (.d (.ref 22))) (hh R a b c (rep 12 tT) (mC x L [.lst [.str (st [110, 117, 109, 98, 101, 114, 32, 39, 49, 39]), .str (st [110, 117, 109, 98, 101, 114, 32, 39, 49, 39]), .str (st [110, 117, 109, 98, 101, 114, 32, 78, 111, 110, 101]), .str (st [110, 117, 109, 98, 101, 114, 32, 48]), .str two]])) := by kernel_rfl
theorem c5_4_0_3 (R : List D) (a b c : Int) (odd none prime : D) (x : Str) (L : List D) : RUN 22 18 1 (sg odd none (.str (st [49])) (.non) (.str (st [50])) prime 21 (.d (.glo 33)) .no) (hh R a b c (rep 12 tT) (mC x L [])) = .nx (sg odd none (.str (st [49])) (.non) (.str (st [50])) prime 21 (.d (.glo 33)) (.d (.ref 22))) (hh R a b c (rep 12 tT) (mC x L [.lst [.str (st [110, 117, 109, 98, 101, 114, 32, 39, 49, 39]), .str (st [110, 117, 109, 98, 101, 114, 32, 39, 49, 39]), .str (st [110, 117, 109, 98, 101, 114, 32, 78, 111, 110, 101]), .str (st [110, 117, 109, 98, 101, 114, 32, 39, 50, 39]), .str two]])) := by kernel_rfl
theorem c5_4_0_4 (R : List D) (a b c : Int) (odd none prime : D) (x : Str) (L : List D) : RUN 22 18 1 (sg odd none (.str (st [49])) (.non) (.int (10 ^ 60)) prime 21 (.d (.glo 33)) .no) (hh R a b c (rep 12 tT) (mC x L [])) = .nx (sg odd none (.str (st [49])) (.non) (.int (10 ^ 60)) prime 21 (.d (.glo 33)) (.d (.ref 22))) (hh R a b c (rep 12 tT) (mC x L [.lst [.str (st [110, 117, 109, 98, 101, 114, 32, 39, 49, 39]), .str (st [110, 117, 109, 98, 101, 114, 32, 39, 49, 39]), .str (st [110, 117, 109, 98, 101, 114, 32, 78, 111, 110, 101]), .str (st [110, 117, 109, 98, 101, 114, 32, 49, 48, 48, 48, 48, 48, 48, 48, 48, 48, 48, 48, 48, 48, 48, 48, 48, 48, 48, 48, 48, 48, 48, 48, 48, 48, 48, 48, 48, 48, 48, 48, 48, 48, 48, 48, 48, 48, 48, 48, 48, 48, 48, 48, 48, 48, 48, 48, 48, 48, 48, 48, 48, 48, 48, 48, 48, 48, 48, 48, 48]), .str two]])) := by kernel_rfl
theorem c5_4_0_5 (R : List D) (a b c : Int) (odd none prime : D) (x : Str) (L : List D) : RUN 22 18 1 (sg odd none (.str (st [49])) (.non) (.tup [.int 2, .int 1]) prime 21 (.d (.glo 33)) .no) (hh R a b c (rep 12 tT) (mC x L [])) = .nx (sg odd none (.str (st [49])) (.non) (.tup [.int 2, .int 1]) prime 21 (.d (.glo 33)) (.d (.ref 22))) (hh R a b c (rep 12 tT) (mC x L [.lst [.str (st [110, 117, 109, 98, 101, 114, 32, 39, 49, 39]), .str (st [110, 117, 109, 98, 101, 114, 32, 39, 49, 39]), .str (st [110, 117, 109, 98, 101, 114, 32, 78, 111, 110, 101]), .str (st [110, 117, 109, 98, 101, 114, 32, 40, 50, 44, 32, 49, 41]), .str two]])) := by kernel_rfl
theorem c5_4_1_0 (R : List D) (a b c : Int) (odd none prime : D) (x : Str) (L : List D) : RUN 22 18 1 (sg odd none (.str (st [49])) (.bl true) (.non) prime 21 (.d (.glo 33)) .no) (hh R a b c (rep 12 tT) (mC x L [])) = .nx (sg odd none (.str (st [49])) (.bl true) (.non) prime 21 (.d (.glo 33)) (.d (.ref 22))) (hh R a b c (rep 12 tT) (mC x L [.lst [.str (st [110, 117, 109, 98, 101, 114, 32, 39, 49, 39]), .str (st [110, 117, 109, 98, 101, 114, 32, 39, 49, 39]), .str (st [110, 117, 109, 98, 101, 114, 32, 84, 114, 117, 101]), .str (st [110, 117, 109, 98, 101, 114, 32, 78, 111, 110, 101]), .str two]])) := by kernel_rfl
theorem c5_4_1_1 (R : List D) (a b c : Int) (odd none prime : D) (x : Str) (L : List D) : RUN 22 18 1 (sg odd none (.str (st [49])) (.bl true) (.bl false) prime 21 (.d (.glo 33)) .no) (hh R a b c (rep 12 tT) (mC x L [])) = .nx (sg odd none (.str (st [49])) (.bl true) (.bl false) prime 21 (.d (.glo 33)) (.d (.ref 22))) (hh R a b c (rep 12 tT) (mC x L [.lst [.str (st [110, 117, 109, 98, 101, 114, 32, 39, 49, 39]), .str (st [110, 117, 109, 98, 101, 114, 32, 39, 49, 39]), .str (st [110, 117, 109, 98, 101, 114, 32, 84, 114, 117, 101]), .str (st [110, 117, 109, 98, 101, 114, 32, 70, 97, 108, 115, 101]), .str two]])) := by kernel_rfl
theorem c5_4_1_2 (R : List D) (a b c : Int) (odd none prime : D) (x : Str) (L : List D) : RUN 22 18 1 (sg odd none (.str (st [49])) (.bl true) (.int 0) prime 21 (.d (.glo 33)) .no) (hh R a b c (rep 12 tT) (mC x L [])) = .nx (sg odd none (.str (st [49])) (.bl true) (.int 0) prime 21 (.d (.glo 33)) (.d (.ref 22))) (hh R a b c (rep 12 tT) (mC x L [.lst [.str (st [110, 117, 109, 98, 101, 114, 32, 39, 49, 39]), .str (st [110, 117, 109, 98, 101, 114, 32, 39, 49, 39]), .str (st [110, 117, 109, 98, 101, 114, 32, 84, 114, 117, 101]), .str (st [110, 117, 109, 98, 101, 114, 32, 48]), .str two]])) := by kernel_rfl
theorem c5_4_1_3 (R : List D) (a b c : Int) (odd none prime : D) (x : Str) (L : List D) : RUN 22 18 1 (sg odd none (.str (st [49])) (.bl true) (.str (st [50])) prime 21 (.d (.glo 33)) .no) (hh R a b c (rep 12 tT) (mC x L [])) = .nx (sg odd none (.str (st [49])) (.bl true) (.str (st [50])) prime 21 (.d (.glo 33)) (.d (.ref 22))) (hh R a b c (rep 12 tT) (mC x L [.lst [.str (st [110, 117, 109, 98, 101, 114, 32, 39, 49, 39]), .str (st [110, 117, 109, 98, 101, 114, 32, 39, 49, 39]), .str (st [110, 117, 109, 98, 101, 114, 32, 84, 114, 117, 101]), .str (st [110, 117, 109, 98, 101, 114, 32, 39, 50, 39]), .str two]])) := by kernel_rfl
theorem c5_4_1_4 (R : List D) (a b c : Int) (odd none prime : D) (x : Str) (L : List D) : RUN 22 18 1 (sg odd none (.str (st [49])) (.bl true) (.int (10 ^ 60)) prime 21 (.d (.glo 33)) .no) (hh R a b c (rep 12 tT) (mC x L [])) = .nx (sg odd none (.str (st [49])) (.bl true) (.int (10 ^ 60)) prime 21 (.d (.glo 33)) (.d (.ref 22))) (hh R a b c (rep 12 tT) (mC x L [.lst [.str (st [110, 117, 109, 98, 101, 114, 32, 39, 49, 39]), .str (st [110, 117, 109, 98, 101, 114, 32, 39, 49, 39]), .str (st [110, 117, 109, 98, 101, 114, 32, 84, 114, 117, 101]), .str (st [110, 117, 109, 98, 101, 114, 32, 49, 48, 48, 48, 48, 48, 48, 48, 48, 48, 48, 48, 48, 48, 48, 48, 48, 48, 48, 48, 48, 48, 48, 48, 48, 48, 48, 48, 48, 48, 48, 48, 48, 48, 48, 48, 48, 48, 48, 48, 48, 48, 48, 48, 48, 48, 48, 48, 48, 48, 48, 48, 48, 48, 48, 48, 48, 48, 48, 48, 48]), .str two]])) := by kernel_rfl
theorem c5_4_1_5 (R : List D) (a b c : Int) (odd none prime : D) (x : Str) (L : List D) : RUN 22 18 1 (sg odd none (.str (st [49])) (.bl true) (.tup [.int 2, .int 1]) prime 21 (.d (.glo 33)) .no) (hh R a b c (rep 12 tT) (mC x L [])) = .nx (sg odd none (.str (st [49])) (.bl true) (.tup [.int 2, .int 1]) prime 21 (.d (.glo 33)) (.d (.ref 22))) (hh R a b c (rep 12 tT) (mC x L [.lst [.str (st [110, 117, 109, 98, 101, 114, 32, 39, 49, 39]), .str (st [110, 117, 109, 98, 101, 114, 32, 39, 49, 39]), .str (st [110, 117, 109, 98, 101, 114, 32, 84, 114, 117, 101]), .str (st [110, 117, 109, 98, 101, 114, 32, 40, 50, 44, 32, 49, 41]), .str two]])) := by kernel_rfl
theorem c5_4_2_0 (R : List D) (a b c : Int) (odd none prime : D) (x : Str) (L : List D) : RUN 22 18 1 (sg odd none (.str (st [49])) (.str (st [49])) (.non) prime 21 (.d (.glo 33)) .no) (hh R a b c (rep 12 tT) (mC x L [])) = .nx (sg odd none (.str (st [49])) (.str (st [49])) (.non) prime 21 (.d (.glo 33)) (.d (.ref 22))) (hh R a b c (rep 12 tT) (mC x L [.lst [.str (st [110, 117, 109, 98, 101, 114, 32, 39, 49, 39]), .str (st [110, 117, 109, 98, 101, 114, 32, 39, 49, 39]), .str (st [110, 117, 109, 98, 101, 114, 32, 39, 49, 39]), .str (st [110, 117, 109, 98, 101, 114, 32, 78, 111, 110, 101]), .str two]])) := by kernel_rfl
theorem c5_4_2_1 (R : List D) (a b c : Int) (odd none prime : D) (x : Str) (L : List D) : RUN 22 18 1 (sg odd none (.str (st [49])) (.str (st [49])) (.bl false) prime 21 (.d (.glo 33)) .no) (hh R a b c (rep 12 tT) (mC x L [])) = .nx (sg odd none (.str (st [49])) (.str (st [49])) (.bl false) prime 21 (.d (.glo 33)) (.d (.ref 22))) (hh R a b c (rep 12 tT) (mC x L [.lst [.str (st [110, 117, 109, 98, 101, 114, 32, 39, 49, 39]), .str (st [110, 117, 109, 98, 101, 114, 32, 39, 49, 39]), .str (st [110, 117, 109, 98, 101, 114, 32, 39, 49, 39]), .str (st [110, 117, 109, 98, 101, 114, 32, 70, 97, 108, 115, 101]), .str two]])) := by kernel_rfl
theorem c5_4_2_2 (R : List D) (a b c : Int) (odd none prime : D) (x : Str) (L : List D) : RUN 22 18 1 (sg odd none (.str (st [49])) (.str (st [49])) (.int 0) prime 21 (.d (.glo 33)) .no) (hh R a b c (rep 12 tT) (mC x L [])) = .nx (sg odd none (.str (st [49])) (.str (st [49])) (.int 0) prime 21 (.d (.glo 33)) (.d (.ref 22))) (hh R a b c (rep 12 tT) (mC x L [.lst [.str (st [110, 117, 109, 98, 101, 114, 32, 39, 49, 39]), .str (st [110, 117, 109, 98, 101, 114, 32, 39, 49, 39]), .str (st [110, 117, 109, 98, 101, 114, 32, 39, 49, 39]), .str (st [110, 117, 109, 98, 101, 114, 32, 48]), .str two]])) := by kernel_rfl
theorem c5_4_2_3 (R : List D) (a b c : Int) (odd none prime : D) (x : Str) (L : List D) : RUN 22 18 1 (sg odd none (.str (st [49])) (.str (st [49])) (.str (st [50])) prime 21 (.d (.glo 33)) .no) (hh R a b c (rep 12 tT) (mC x L [])) = .nx (sg odd none (.str (st [49])) (.str (st [49])) (.str (st [50])) prime 21 (.d (.glo 33)) (.d (.ref 22))) (hh R a b c (rep 12 tT) (mC x L [.lst [.str (st [110, 117, 109, 98, 101, 114, 32, 39, 49, 39]), .str (st [110, 117, 109, 98, 101, 114, 32, 39, 49, 39]), .str (st [110, 117, 109, 98, 101, 114, 32, 39, 49, 39]), .str (st [110, 117, 109, 98, 101, 114, 32, 39, 50, 39]), .str two]])) := by kernel_rfl
theorem c5_4_2_4 (R : List D) (a b c : Int) (odd none prime : D) (x : Str) (L : List D) : RUN 22 18 1 (sg odd none (.str (st [49])) (.str (st [49])) (.int (10 ^ 60)) prime 21 (.d (.glo 33)) .no) (hh R a b c (rep 12 tT) (mC x L [])) = .nx (sg odd none (.str (st [49])) (.str (st [49])) (.int (10 ^ 60)) prime 21 (.d (.glo 33)) (.d (.ref 22))) (hh R a b c (rep 12 tT) (mC x L [.lst [.str (st [110, 117, 109, 98, 101, 114, 32, 39, 49, 39]), .str (st [110, 117, 109, 98, 101, 114, 32, 39, 49, 39]), .str (st [110, 117, 109, 98, 101, 114, 32, 39, 49, 39]), .str (st [110, 117, 109, 98, 101, 114, 32, 49, 48, 48, 48, 48, 48, 48, 48, 48, 48, 48, 48, 48, 48, 48, 48, 48, 48, 48, 48, 48, 48, 48, 48, 48, 48, 48, 48, 48, 48, 48, 48, 48, 48, 48, 48, 48, 48, 48, 48, 48, 48, 48, 48, 48, 48, 48, 48, 48, 48, 48, 48, 48, 48, 48, 48, 48, 48, 48, 48, 48]), .str two]])) := by kernel_rfl
theorem c5_4_2_5 (R : List D) (a b c : Int) (odd none prime : D) (x : Str) (L : List D) : RUN 22 18 1 (sg odd none (.str (st [49])) (.str (st [49])) (.tup [.int 2, .int 1]) prime 21 (.d (.glo 33)) .no) (hh R a b c (rep 12 tT) (mC x L [])) = .nx (sg odd none (.str (st [49])) (.str (st [49])) (.tup [.int 2, .int 1]) prime 21 (.d (.glo 33)) (.d (.ref 22))) (hh R a b c (rep 12 tT) (mC x L [.lst [.str (st [110, 117, 109, 98, 101, 114, 32, 39, 49, 39]), .str (st [110, 117, 109, 98, 101, 114, 32, 39, 49, 39]), .str (st [110, 117, 109, 98, 101, 114, 32, 39, 49, 39]), .str (st [110, 117, 109, 98, 101, 114, 32, 40, 50, 44, 32, 49, 41]), .str two]])) := by kernel_rfl
theorem c5_4_3_0 (R : List D) (a b c : Int) (odd none prime : D) (x : Str) (L : List D) : RUN 22 18 1 (sg odd none (.str (st [49])) (.int (10 ^ 60)) (.non) prime 21 (.d (.glo 33)) .no) (hh R a b c (rep 12 tT) (mC x L [])) = .nx (sg odd none (.str (st [49])) (.int (10 ^ 60)) (.non) prime 21 (.d (.glo 33)) (.d (.ref 22))) (hh R a b c (rep 12 tT) (mC x L [.lst [.str (st [110, 117, 109, 98, 101, 114, 32, 39, 49, 39]), .str (st [110, 117, 109, 98, 101, 114, 32, 39, 49, 39]), .str (st [110, 117, 109, 98, 101, 114, 32, 49, 48, 48, 48, 48, 48, 48, 48, 48, 48, 48, 48, 48, 48, 48, 48, 48, 48, 48, 48, 48, 48, 48, 48, 48, 48, 48, 48, 48, 48, 48, 48, 48, 48, 48, 48, 48, 48, 48, 48, 48, 48, 48, 48, 48, 48, 48, 48, 48, 48, 48, 48, 48, 48, 48, 48, 48, 48, 48, 48, 48]), .str (st [110, 117, 109, 98, 101, 114, 32, 78, 111, 110, 101]), .str two]])) := by kernel_rfl
theorem c5_4_3_1 (R : List D) (a b c : Int) (odd none prime : D) (x : Str) (L : List D) : RUN 22 18 1 (sg odd none (.str (st [49])) (.int (10 ^ 60)) (.bl false) prime 21 (.d (.glo 33)) .no) (hh R a b c (rep 12 tT) (mC x L [])) = .nx (sg odd none (.str (st [49])) (.int (10 ^ 60)) (.bl false) prime 21 (.d (.glo 33)) (.d (.ref 22))) (hh R a b c (rep 12 tT) (mC x L [.lst [.str (st [110, 117, 109, 98, 101, 114, 32, 39, 49, 39]), .str (st [110, 117, 109, 98, 101, 114, 32, 39, 49, 39]), .str (st [110, 117, 109, 98, 101, 114, 32, 49, 48, 48, 48, 48, 48, 48, 48, 48, 48, 48, 48, 48, 48, 48, 48, 48, 48, 48, 48, 48, 48, 48, 48, 48, 48, 48, 48, 48, 48, 48, 48, 48, 48, 48, 48, 48, 48, 48, 48, 48, 48, 48, 48, 48, 48, 48, 48, 48, 48, 48, 48, 48, 48, 48, 48, 48, 48, 48, 48, 48]), .str (st [110, 117, 109, 98, 101, 114, 32, 70, 97, 108, 115, 101]), .str two]])) := by kernel_rfl
theorem c5_4_3_2 (R : List D) (a b c : Int) (odd none prime : D) (x : Str) (L : List D) : RUN 22 18 1 (sg odd none (.str (st [49])) (.int (10 ^ 60)) (.int 0) prime 21 (.d (.glo 33)) .no) (hh R a b c (rep 12 tT) (mC x L [])) = .nx (sg odd none (.str (st [49])) (.int (10 ^ 60)) (.int 0) prime 21 (.d (.glo 33)) (.d (.ref 22))) (hh R a b c (rep 12 tT) (mC x L [.lst [.str (st [110, 117, 109, 98, 101, 114, 32, 39, 49, 39]), .str (st [110, 117, 109, 98, 101, 114, 32, 39, 49, 39]), .str (st [110, 117, 109, 98, 101, 114, 32, 49, 48, 48, 48, 48, 48, 48, 48, 48, 48, 48, 48, 48, 48, 48, 48, 48, 48, 48, 48, 48, 48, 48, 48, 48, 48, 48, 48, 48, 48, 48, 48, 48, 48, 48, 48, 48, 48, 48, 48, 48, 48, 48, 48, 48, 48, 48, 48, 48, 48, 48, 48, 48, 48, 48, 48, 48, 48, 48, 48, 48]), .str (st [110, 117, 109, 98, 101, 114, 32, 48]), .str two]])) := by kernel_rfl
theorem c5_4_3_3 (R : List D) (a b c : Int) (odd none prime : D) (x : Str) (L : List D) : RUN 22 18 1 (sg odd none (.str (st [49])) (.int (10 ^ 60)) (.str (st [50])) prime 21 (.d (.glo 33)) .no) (hh R a b c (rep 12 tT) (mC x L [])) = .nx (sg odd none (.str (st [49])) (.int (10 ^ 60)) (.str (st [50])) prime 21 (.d (.glo 33)) (.d (.ref 22))) (hh R a b c (rep 12 tT) (mC x L [.lst [.str (st [110, 117, 109, 98, 101, 114, 32, 39, 49, 39]), .str (st [110, 117, 109, 98, 101, 114, 32, 39, 49, 39]), .str (st [110, 117, 109, 98, 101, 114, 32, 49, 48, 48, 48, 48, 48, 48, 48, 48, 48, 48, 48, 48, 48, 48, 48, 48, 48, 48, 48, 48, 48, 48, 48, 48, 48, 48, 48, 48, 48, 48, 48, 48, 48, 48, 48, 48, 48, 48, 48, 48, 48, 48, 48, 48, 48, 48, 48, 48, 48, 48, 48, 48, 48, 48, 48, 48, 48, 48, 48, 48]), .str (st [110, 117, 109, 98, 101, 114, 32, 39, 50, 39]), .str two]])) := by kernel_rfl
theorem c5_4_3_4 (R : List D) (a b c : Int) (odd none prime : D) (x : Str) (L : List D) : RUN 22 18 1 (sg odd none (.str (st [49])) (.int (10 ^ 60)) (.int (10 ^ 60)) prime 21 (.d (.glo 33)) .no) (hh R a b c (rep 12 tT) (mC x L [])) = .nx (sg odd none (.str (st [49])) (.int (10 ^ 60)) (.int (10 ^ 60)) prime 21 (.d (.glo 33)) (.d (.ref 22))) (hh R a b c (rep 12 tT) (mC x L [.lst [.str (st [110, 117, 109, 98, 101, 114, 32, 39, 49, 39]), .str (st [110, 117, 109, 98, 101, 114, 32, 39, 49, 39]), .str (st [110, 117, 109, 98, 101, 114, 32, 49, 48, 48, 48, 48, 48, 48, 48, 48, 48, 48, 48, 48, 48, 48, 48, 48, 48, 48, 48, 48, 48, 48, 48, 48, 48, 48, 48, 48, 48, 48, 48, 48, 48, 48, 48, 48, 48, 48, 48, 48, 48, 48, 48, 48, 48, 48, 48, 48, 48, 48, 48, 48, 48, 48, 48, 48, 48, 48, 48, 48]), .str (st [110, 117, 109, 98, 101, 114, 32, 49, 48, 48, 48, 48, 48, 48, 48, 48, 48, 48, 48, 48, 48, 48, 48, 48, 48, 48, 48, 48, 48, 48, 48, 48, 48, 48, 48, 48, 48, 48, 48, 48, 48, 48, 48, 48, 48, 48, 48, 48, 48, 48, 48, 48, 48, 48, 48, 48, 48, 48, 48, 48, 48, 48, 48, 48, 48, 48, 48, 48]), .str two]])) := by kernel_rfl
theorem c5_4_3_5 (R : List D) (a b c : Int) (odd none prime : D) (x : Str) (L : List D) : RUN 22 18 1 (sg odd none (.str (st [49])) (.int (10 ^ 60)) (.tup [.int 2, .int 1]) prime 21 (.d (.glo 33)) .no) (hh R a b c (rep 12 tT) (mC x L [])) = .nx (sg odd none (.str (st [49])) (.int (10 ^ 60)) (.tup [.int 2, .int 1]) prime 21 (.d (.glo 33)) (.d (.ref 22))) (hh R a b c (rep 12 tT) (mC x L [.lst [.str (st [110, 117, 109, 98, 101, 114, 32, 39, 49, 39]), .str (st [110, 117, 109, 98, 101, 114, 32, 39, 49, 39]), .str (st [110, 117, 109, 98, 101, 114, 32, 49, 48, 48, 48, 48, 48, 48, 48, 48, 48, 48, 48, 48, 48, 48, 48, 48, 48, 48, 48, 48, 48, 48, 48, 48, 48, 48, 48, 48, 48, 48, 48, 48, 48, 48, 48, 48, 48, 48, 48, 48, 48, 48, 48, 48, 48, 48, 48, 48, 48, 48, 48, 48, 48, 48, 48, 48, 48, 48, 48, 48]), .str (st [110, 117, 109, 98, 101, 114, 32, 40, 50, 44, 32, 49, 41]), .str two]])) := by kernel_rfl
theorem c5_4_4_0 (R : List D) (a b c : Int) (odd none prime : D) (x : Str) (L : List D) : RUN 22 18 1 (sg odd none (.str (st [49])) (.tup [.int 1, .int 1]) (.non) prime 21 (.d (.glo 33)) .no) (hh R a b c (rep 12 tT) (mC x L [])) = .nx (sg odd none (.str (st [49])) (.tup [.int 1, .int 1]) (.non) prime 21 (.d (.glo 33)) (.d (.ref 22))) (hh R a b c (rep 12 tT) (mC x L [.lst [.str (st [110, 117, 109, 98, 101, 114, 32, 39, 49, 39]), .str (st [110, 117, 109, 98, 101, 114, 32, 39, 49, 39]), .str (st [110, 117, 109, 98, 101, 114, 32, 40, 49, 44, 32, 49, 41]), .str (st [110, 117, 109, 98, 101, 114, 32, 78, 111, 110, 101]), .str two]])) := by kernel_rfl
theorem c5_4_4_1 (R : List D) (a b c : Int) (odd none prime : D) (x : Str) (L : List D) : RUN 22 18 1 (sg odd none (.str (st [49])) (.tup [.int 1, .int 1]) (.bl false) prime 21 (.d (.glo 33)) .no) (hh R a b c (rep 12 tT) (mC x L [])) = .nx (sg odd none (.str (st [49])) (.tup [.int 1, .int 1]) (.bl false) prime 21 (.d (.glo 33)) (.d (.ref 22))) (hh R a b c (rep 12 tT) (mC x L [.lst [.str (st [110, 117, 109, 98, 101, 114, 32, 39, 49, 39]), .str (st [110, 117, 109, 98, 101, 114, 32, 39, 49, 39]), .str (st [110, 117, 109, 98, 101, 114, 32, 40, 49, 44, 32, 49, 41]), .str (st [110, 117, 109, 98, 101, 114, 32, 70, 97, 108, 115, 101]), .str two]])) := by kernel_rfl
theorem c5_4_4_2 (R : List D) (a b c : Int) (odd none prime : D) (x : Str) (L : List D) : RUN 22 18 1 (sg odd none (.str (st [49])) (.tup [.int 1, .int 1]) (.int 0) prime 21 (.d (.glo 33)) .no) (hh R a b c (rep 12 tT) (mC x L [])) = .nx (sg odd none (.str (st [49])) (.tup [.int 1, .int 1]) (.int 0) prime 21 (.d (.glo 33)) (.d (.ref 22))) (hh R a b c (rep 12 tT) (mC x L [.lst [.str (st [110, 117, 109, 98, 101, 114, 32, 39, 49, 39]), .str (st [110, 117, 109, 98, 101, 114, 32, 39, 49, 39]), .str (st [110, 117, 109, 98, 101, 114, 32, 40, 49, 44, 32, 49, 41]), .str (st [110, 117, 109, 98, 101, 114, 32, 48]), .str two]])) := by kernel_rfl
theorem c5_4_4_3 (R : List D) (a b c : Int) (odd none prime : D) (x : Str) (L : List D) : RUN 22 18 1 (sg odd none (.str (st [49])) (.tup [.int 1, .int 1]) (.str (st [50])) prime 21 (.d (.glo 33)) .no) (hh R a b c (rep 12 tT) (mC x L [])) = .nx (sg odd none (.str (st [49])) (.tup [.int 1, .int 1]) (.str (st [50])) prime 21 (.d (.glo 33)) (.d (.ref 22))) (hh R a b c (rep 12 tT) (mC x L [.lst [.str (st [110, 117, 109, 98, 101, 114, 32, 39, 49, 39]), .str (st [110, 117, 109, 98, 101, 114, 32, 39, 49, 39]), .str (st [110, 117, 109, 98, 101, 114, 32, 40, 49, 44, 32, 49, 41]), .str (st [110, 117, 109, 98, 101, 114, 32, 39, 50, 39]), .str two]])) := by kernel_rfl
theorem c5_4_4_4 (R : List D) (a b c : Int) (odd none prime : D) (x : Str) (L : List D) : RUN 22 18 1 (sg odd none (.str (st [49])) (.tup [.int 1, .int 1]) (.int (10 ^ 60)) prime 21 (.d (.glo 33)) .no) (hh R a b c (rep 12 tT) (mC x L [])) = .nx (sg odd none (.str (st [49])) (.tup [.int 1, .int 1]) (.int (10 ^ 60)) prime 21 (.d (.glo 33)) (.d (.ref 22))) (hh R a b c (rep 12 tT) (mC x L [.lst [.str (st [110, 117, 109, 98, 101, 114, 32, 39, 49, 39]), .str (st [110, 117, 109, 98, 101, 114, 32, 39, 49, 39]), .str (st [110, 117, 109, 98, 101, 114, 32, 40, 49, 44, 32, 49, 41]), .str (st [110, 117, 109, 98, 101, 114, 32, 49, 48, 48, 48, 48, 48, 48, 48, 48, 48, 48, 48, 48, 48, 48, 48, 48, 48, 48, 48, 48, 48, 48, 48, 48, 48, 48, 48, 48, 48, 48, 48, 48, 48, 48, 48, 48, 48, 48, 48, 48, 48, 48, 48, 48, 48, 48, 48, 48, 48, 48, 48, 48, 48, 48, 48, 48, 48, 48, 48, 48]), .str two]])) := by kernel_rfl
theorem c5_4_4_5 (R : List D) (a b c : Int) (odd none prime : D) (x : Str) (L : List D) : RUN 22 18 1 (sg odd none (.str (st [49])) (.tup [.int 1, .int 1]) (.tup [.int 2, .int 1]) prime 21 (.d (.glo 33)) .no) (hh R a b c (rep 12 tT) (mC x L [])) = .nx (sg odd none (.str (st [49])) (.tup [.int 1, .int 1]) (.tup [.int 2, .int 1]) prime 21 (.d (.glo 33)) (.d (.ref 22))) (hh R a b c (rep 12 tT) (mC x L [.lst [.str (st [110, 117, 109, 98, 101, 114, 32, 39, 49, 39]), .str (st [110, 117, 109, 98, 101, 114, 32, 39, 49, 39]), .str (st [110, 117, 109, 98, 101, 114, 32, 40, 49, 44, 32, 49, 41]), .str (st [110, 117, 109, 98, 101, 114, 32, 40, 50, 44, 32, 49, 41]), .str two]])) := by kernel_rfl
theorem c5_4_5_0 (R : List D) (a b c : Int) (odd none prime : D) (x : Str) (L : List D) : RUN 22 18 1 (sg odd none (.str (st [49])) (.ref 10) (.non) prime 21 (.d (.glo 33)) .no) (hh R a b c (rep 12 tT) (mC x L [])) = .nx (sg odd none (.str (st [49])) (.ref 10) (.non) prime 21 (.d (.glo 33)) (.d (.ref 22))) (hh R a b c (rep 12 tT) (mC x L [.lst [.str (st [110, 117, 109, 98, 101, 114, 32, 39, 49, 39]), .str (st [110, 117, 109, 98, 101, 114, 32, 39, 49, 39]), .str (st [110, 117, 109, 98, 101, 114, 32, 91, 49, 93]), .str (st [110, 117, 109, 98, 101, 114, 32, 78, 111, 110, 101]), .str two]])) := by kernel_rfl
theorem c5_4_5_1 (R : List D) (a b c : Int) (odd none prime : D) (x : Str) (L : List D) : RUN 22 18 1 (sg odd none (.str (st [49])) (.ref 10) (.bl false) prime 21 (.d (.glo 33)) .no) (hh R a b c (rep 12 tT) (mC x L [])) = .nx (sg odd none (.str (st [49])) (.ref 10) (.bl false) prime 21 (.d (.glo 33)) (.d (.ref 22))) (hh R a b c (rep 12 tT) (mC x L [.lst [.str (st [110, 117, 109, 98, 101, 114, 32, 39, 49, 39]), .str (st [110, 117, 109, 98, 101, 114, 32, 39, 49, 39]), .str (st [110, 117, 109, 98, 101, 114, 32, 91, 49, 93]), .str (st [110, 117, 109, 98, 101, 114, 32, 70, 97, 108, 115, 101]), .str two]])) := by kernel_rfl
theorem c5_4_5_2 (R : List D) (a b c : Int) (odd none prime : D) (x : Str) (L : List D) : RUN 22 18 1 (sg odd none (.str (st [49])) (.ref 10) (.int 0) prime 21 (.d (.glo 33)) .no) (hh R a b c (rep 12 tT) (mC x L [])) = .nx (sg odd none (.str (st [49])) (.ref 10) (.int 0) prime 21 (.d (.glo 33)) (.d (.ref 22))) (hh R a b c (rep 12 tT) (mC x L [.lst [.str (st [110, 117, 109, 98, 101, 114, 32, 39, 49, 39]), .str (st [110, 117, 109, 98, 101, 114, 32, 39, 49, 39]), .str (st [110, 117, 109, 98, 101, 114, 32, 91, 49, 93]), .str (st [110, 117, 109, 98, 101, 114, 32, 48]), .str two]])) := by kernel_rfl
theorem c5_4_5_3 (R : List D) (a b c : Int) (odd none prime : D) (x : Str) (L : List D) : RUN 22 18 1 (sg odd none (.str (st [49])) (.ref 10) (.str (st [50])) prime 21 (.d (.glo 33)) .no) (hh R a b c (rep 12 tT) (mC x L [])) = .nx (sg odd none (.str (st [49])) (.ref 10) (.str (st [50])) prime 21 (.d (.glo 33)) (.d (.ref 22))) (hh R a b c (rep 12 tT) (mC x L [.lst [.str (st [110, 117, 109, 98, 101, 114, 32, 39, 49, 39]), .str (st [110, 117, 109, 98, 101, 114, 32, 39, 49, 39]), .str (st [110, 117, 109, 98, 101, 114, 32, 91, 49, 93]), .str (st [110, 117, 109, 98, 101, 114, 32, 39, 50, 39]), .str two]])) := by kernel_rfl
theorem c5_4_5_4 (R : List D) (a b c : Int) (odd none prime : D) (x : Str) (L : List D) : RUN 22 18 1 (sg odd none (.str (st [49])) (.ref 10) (.int (10 ^ 60)) prime 21 (.d (.glo 33)) .no) (hh R a b c (rep 12 tT) (mC x L [])) = .nx (sg odd none (.str (st [49])) (.ref 10) (.int (10 ^ 60)) prime 21 (.d (.glo 33)) (.d (.ref 22))) (hh R a b c (rep 12 tT) (mC x L [.lst [.str (st [110, 117, 109, 98, 101, 114, 32, 39, 49, 39]), .str (st [110, 117, 109, 98, 101, 114, 32, 39, 49, 39]), .str (st [110, 117, 109, 98, 101, 114, 32, 91, 49, 93]), .str (st [110, 117, 109, 98, 101, 114, 32, 49, 48, 48, 48, 48, 48, 48, 48, 48, 48, 48, 48, 48, 48, 48, 48, 48, 48, 48, 48, 48, 48, 48, 48, 48, 48, 48, 48, 48, 48, 48, 48, 48, 48, 48, 48, 48, 48, 48, 48, 48, 48, 48, 48, 48, 48, 48, 48, 48, 48, 48, 48, 48, 48, 48, 48, 48, 48, 48, 48, 48]), .str two]])) := by kernel_rfl
theorem c5_4_5_5 (R : List D) (a b c : Int) (odd none prime : D) (x : Str) (L : List D) : RUN 22 18 1 (sg odd none (.str (st [49])) (.ref 10) (.tup [.int 2, .int 1]) prime 21 (.d (.glo 33)) .no) (hh R a b c (rep 12 tT) (mC x L [])) = .nx (sg odd none (.str (st [49])) (.ref 10) (.tup [.int 2, .int 1]) prime 21 (.d (.glo 33)) (.d (.ref 22))) (hh R a b c (rep 12 tT) (mC x L [.lst [.str (st [110, 117, 109, 98, 101, 114, 32, 39, 49, 39]), .str (st [110, 117, 109, 98, 101, 114, 32, 39, 49, 39]), .str (st [110, 117, 109, 98, 101, 114, 32, 91, 49, 93]), .str (st [110, 117, 109, 98, 101, 114, 32, 40, 50, 44, 32, 49, 41]), .str two]])) := by kernel_rfl
theorem c5_5_0_0 (R : List D) (a b c : Int) (odd none prime : D) (x : Str) (L : List D) : RUN 22 18 1 (sg odd none (.tup [.int 1]) (.non) (.non) prime 21 (.d (.glo 33)) .no) (hh R a b c (rep 12 tT) (mC x L [])) = .nx (sg odd none (.tup [.int 1]) (.non) (.non) prime 21 (.d (.glo 33)) (.d (.ref 22))) (hh R a b c (rep 12 tT) (mC x L [.lst [.str (st [110, 117, 109, 98, 101, 114, 32, 40, 49, 44, 41]), .str (st [110, 117, 109, 98, 101, 114, 32, 40, 49, 44, 41]), .str (st [110, 117, 109, 98, 101, 114, 32, 78, 111, 110, 101]), .str (st [110, 117, 109, 98, 101, 114, 32, 78, 111, 110, 101]), .str two]])) := by kernel_rfl
theorem c5_5_0_1 (R : List D) (a b c : Int) (odd none prime : D) (x : Str) (L : List D) : RUN 22 18 1 (sg odd none (.tup [.int 1]) (.non) (.bl false) prime 21 (.d (.glo 33)) .no) (hh R a b c (rep 12 tT) (mC x L [])) = .nx (sg odd none (.tup [.int 1]) (.non) (.bl false) prime 21 (.d (.glo 33)) (.d (.ref 22))) (hh R a b c (rep 12 tT) (mC x L [.lst [.str (st [110, 117, 109, 98, 101, 114, 32, 40, 49, 44, 41]), .str (st [110, 117, 109, 98, 101, 114, 32, 40, 49, 44, 41]), .str (st [110, 117, 109, 98, 101, 114, 32, 78, 111, 110, 101]), .str (st [110, 117, 109, 98, 101, 114, 32, 70, 97, 108, 115, 101]), .str two]])) := by kernel_rfl
theorem c5_5_0_2 (R : List D) (a b c : Int) (odd none prime : D) (x : Str) (L : List D) : RUN 22 18 1 (sg odd none (.tup [.int 1]) (.non) (.int 0) prime 21 (.d (.glo 33)) .no) (hh R a b c (rep 12 tT) (mC x L [])) = .nx (sg odd none (.tup [.int 1]) (.non) (.int 0) prime 21 (.d (.glo 33)) (.d (.ref 22))) (hh R a b c (rep 12 tT) (mC x L [.lst [.str (st [110, 117, 109, 98, 101, 114, 32, 40, 49, 44, 41]), .str (st [110, 117, 109, 98, 101, 114, 32, 40, 49, 44, 41]), .str (st [110, 117, 109, 98, 101, 114, 32, 78, 111, 110, 101]), .str (st [110, 117, 109, 98, 101, 114, 32, 48]), .str two]])) := by kernel_rfl
theorem c5_5_0_3 (R : List D) (a b c : Int) (odd none prime : D) (x : Str) (L : List D) : RUN 22 18 1 (sg odd none (.tup [.int 1]) (.non) (.str (st [50])) prime 21 (.d (.glo 33)) .no) (hh R a b c (rep 12 tT) (mC x L [])) = .nx (sg odd none (.tup [.int 1]) (.non) (.str (st [50])) prime 21 (.d (.glo 33)) (.d (.ref 22))) (hh R a b c (rep 12 tT) (mC x L [.lst [.str (st [110, 117, 109, 98, 101, 114, 32, 40, 49, 44, 41]), .str (st [110, 117, 109, 98, 101, 114, 32, 40, 49, 44, 41]), .str (st [110, 117, 109, 98, 101, 114, 32, 78, 111, 110, 101]), .str (st [110, 117, 109, 98, 101, 114, 32, 39, 50, 39]), .str two]])) := by kernel_rfl
theorem c5_5_0_4 (R : List D) (a b c : Int) (odd none prime : D) (x : Str) (L : List D) : RUN 22 18 1 (sg odd none (.tup [.int 1]) (.non) (.int (10 ^ 60)) prime 21 (.d (.glo 33)) .no) (hh R a b c (rep 12 tT) (mC x L [])) = .nx (sg odd none (.tup [.int 1]) (.non) (.int (10 ^ 60)) prime 21 (.d (.glo 33)) (.d (.ref 22))) (hh R a b c (rep 12 tT) (mC x L [.lst [.str (st [110, 117, 109, 98, 101, 114, 32, 40, 49, 44, 41]), .str (st [110, 117, 109, 98, 101, 114, 32, 40, 49, 44, 41]), .str (st [110, 117, 109, 98, 101, 114, 32, 78, 111, 110, 101]), .str (st [110, 117, 109, 98, 101, 114, 32, 49, 48, 48, 48, 48, 48, 48, 48, 48, 48, 48, 48, 48, 48, 48, 48, 48, 48, 48, 48, 48, 48, 48, 48, 48, 48, 48, 48, 48, 48, 48, 48, 48, 48, 48, 48, 48, 48, 48, 48, 48, 48, 48, 48, 48, 48, 48, 48, 48, 48, 48, 48, 48, 48, 48, 48, 48, 48, 48, 48, 48]), .str two]])) := by kernel_rfl
theorem c5_5_0_5 (R : List D) (a b c : Int) (odd none prime : D) (x : Str) (L : List D) : RUN 22 18 1 (sg odd none (.tup [.int 1]) (.non) (.tup [.int 2, .int 1]) prime 21 (.d (.glo 33)) .no) (hh R a b c (rep 12 tT) (mC x L [])) = .nx (sg odd none (.tup [.int 1]) (.non) (.tup [.int 2, .int 1]) prime 21 (.d (.glo 33)) (.d (.ref 22))) (hh R a b c (rep 12 tT) (mC x L [.lst [.str (st [110, 117, 109, 98, 101, 114, 32, 40, 49, 44, 41]), .str (st [110, 117, 109, 98, 101, 114, 32, 40, 49, 44, 41]), .str (st [110, 117, 109, 98, 101, 114, 32, 78, 111, 110, 101]), .str (st [110, 117, 109, 98, 101, 114, 32, 40, 50, 44, 32, 49, 41]), .str two]])) := by kernel_rfl
theorem c5_5_1_0 (R : List D) (a b c : Int) (odd none prime : D) (x : Str) (L : List D) : RUN 22 18 1 (sg odd none (.tup [.int 1]) (.bl true) (.non) prime 21 (.d (.glo 33)) .no) (hh R a b c (rep 12 tT) (mC x L [])) = .nx (sg odd none (.tup [.int 1]) (.bl true) (.non) prime 21 (.d (.glo 33)) (.d (.ref 22))) (hh R a b c (rep 12 tT) (mC x L [.lst [.str (st [110, 117, 109, 98, 101, 114, 32, 40, 49, 44, 41]), .str (st [110, 117, 109, 98, 101, 114, 32, 40, 49, 44, 41]), .str (st [110, 117, 109, 98, 101, 114, 32, 84, 114, 117, 101]), .str (st [110, 117, 109, 98, 101, 114, 32, 78, 111, 110, 101]), .str two]])) := by kernel_rfl
theorem c5_5_1_1 (R : List D) (a b c : Int) (odd none prime : D) (x : Str) (L : List D) : RUN 22 18 1 (sg odd none (.tup [.int 1]) (.bl true) (.bl false) prime 21 (.d (.glo 33)) .no) (hh R a b c (rep 12 tT) (mC x L [])) = .nx (sg odd none (.tup [.int 1]) (.bl true) (.bl false) prime 21 (.d (.glo 33)) (.d (.ref 22))) (hh R a b c (rep 12 tT) (mC x L [.lst [.str (st [110, 117, 109, 98, 101, 114, 32, 40, 49, 44, 41]), .str (st [110, 117, 109, 98, 101, 114, 32, 40, 49, 44, 41]), .str (st [110, 117, 109, 98, 101, 114, 32, 84, 114, 117, 101]), .str (st [110, 117, 109, 98, 101, 114, 32, 70, 97, 108, 115, 101]), .str two]])) := by kernel_rfl
theorem c5_5_1_2 (R : List D) (a b c : Int) (odd none prime : D) (x : Str) (L : List D) : RUN 22 18 1 (sg odd none (.tup [.int 1]) (.bl true) (.int 0) prime 21 (.d (.glo 33)) .no) (hh R a b c (rep 12 tT) (mC x L [])) = .nx (sg odd none (.tup [.int 1]) (.bl true) (.int 0) prime 21 (.d (.glo 33)) (.d (.ref 22))) (hh R a b c (rep 12 tT) (mC x L [.lst [.str (st [110, 117, 109, 98, 101, 114, 32, 40, 49, 44, 41]), .str (st [110, 117, 109, 98, 101, 114, 32, 40, 49, 44, 41]), .str (st [110, 117, 109, 98, 101, 114, 32, 84, 114, 117, 101]), .str (st [110, 117, 109, 98, 101, 114, 32, 48]), .str two]])) := by kernel_rfl
theorem c5_5_1_3 (R : List D) (a b c : Int) (odd none prime : D) (x : Str) (L : List D) : RUN 22 18 1 (sg odd none (.tup [.int 1]) (.bl true) (.str (st [50])) prime 21 (.d (.glo 33)) .no) (hh R a b c (rep 12 tT) (mC x L [])) = .nx (sg odd none (.tup [.int 1]) (.bl true) (.str (st [50])) prime 21 (.d (.glo 33)) (.d (.ref 22))) (hh R a b c (rep 12 tT) (mC x L [.lst [.str (st [110, 117, 109, 98, 101, 114, 32, 40, 49, 44, 41]), .str (st [110, 117, 109, 98, 101, 114, 32, 40, 49, 44, 41]), .str (st [110, 117, 109, 98, 101, 114, 32, 84, 114, 117, 101]), .str (st [110, 117, 109, 98, 101, 114, 32, 39, 50, 39]), .str two]])) := by kernel_rfl
theorem c5_5_1_4 (R : List D) (a b c : Int) (odd none prime : D) (x : Str) (L : List D) : RUN 22 18 1 (sg odd none (.tup [.int 1]) (.bl true) (.int (10 ^ 60)) prime 21 (.d (.glo 33)) .no) (hh R a b c (rep 12 tT) (mC x L [])) = .nx (sg odd none (.tup [.int 1]) (.bl true) (.int (10 ^ 60)) prime 21 (.d (.glo 33)) (.d (.ref 22))) (hh R a b c (rep 12 tT) (mC x L [.lst [.str (st [110, 117, 109, 98, 101, 114, 32, 40, 49, 44, 41]), .str (st [110, 117, 109, 98, 101, 114, 32, 40, 49, 44, 41]), .str (st [110, 117, 109, 98, 101, 114, 32, 84, 114, 117, 101]), .str (st [110, 117, 109, 98, 101, 114, 32, 49, 48, 48, 48, 48, 48, 48, 48, 48, 48, 48, 48, 48, 48, 48, 48, 48, 48, 48, 48, 48, 48, 48, 48, 48, 48, 48, 48, 48, 48, 48, 48, 48, 48, 48, 48, 48, 48, 48, 48, 48, 48, 48, 48, 48, 48, 48, 48, 48, 48, 48, 48, 48, 48, 48, 48, 48, 48, 48, 48, 48]), .str two]])) := by kernel_rfl
theorem c5_5_1_5 (R : List D) (a b c : Int) (odd none prime : D) (x : Str) (L : List D) : RUN 22 18 1 (sg odd none (.tup [.int 1]) (.bl true) (.tup [.int 2, .int 1]) prime 21 (.d (.glo 33)) .no) (hh R a b c (rep 12 tT) (mC x L [])) = .nx (sg odd none (.tup [.int 1]) (.bl true) (.tup [.int 2, .int 1]) prime 21 (.d (.glo 33)) (.d (.ref 22))) (hh R a b c (rep 12 tT) (mC x L [.lst [.str (st [110, 117, 109, 98, 101, 114, 32, 40, 49, 44, 41]), .str (st [110, 117, 109, 98, 101, 114, 32, 40, 49, 44, 41]), .str (st [110, 117, 109, 98, 101, 114, 32, 84, 114, 117, 101]), .str (st [110, 117, 109, 98, 101, 114, 32, 40, 50, 44, 32, 49, 41]), .str two]])) := by kernel_rfl
theorem c5_5_2_0 (R : List D) (a b c : Int) (odd none prime : D) (x : Str) (L : List D) : RUN 22 18 1 (sg odd none (.tup [.int 1]) (.str (st [49])) (.non) prime 21 (.d (.glo 33)) .no) (hh R a b c (rep 12 tT) (mC x L [])) = .nx (sg odd none (.tup [.int 1]) (.str (st [49])) (.non) prime 21 (.d (.glo 33)) (.d (.ref 22))) (hh R a b c (rep 12 tT) (mC x L [.lst [.str (st [110, 117, 109, 98, 101, 114, 32, 40, 49, 44, 41]), .str (st [110, 117, 109, 98, 101, 114, 32, 40, 49, 44, 41]), .str (st [110, 117, 109, 98, 101, 114, 32, 39, 49, 39]), .str (st [110, 117, 109, 98, 101, 114, 32, 78, 111, 110, 101]), .str two]])) := by kernel_rfl
theorem c5_5_2_1 (R : List D) (a b c : Int) (odd none prime : D) (x : Str) (L : List D) : RUN 22 18 1 (sg odd none (.tup [.int 1]) (.str (st [49])) (.bl false) prime 21 (.d (.glo 33)) .no) (hh R a b c (rep 12 tT) (mC x L [])) = .nx (sg odd none (.tup [.int 1]) (.str (st [49])) (.bl false) prime 21 (.d (.glo 33)) (.d (.ref 22))) (hh R a b c (rep 12 tT) (mC x L [.lst [.str (st [110, 117, 109, 98, 101, 114, 32, 40, 49, 44, 41]), .str (st [110, 117, 109, 98, 101, 114, 32, 40, 49, 44, 41]), .str (st [110, 117, 109, 98, 101, 114, 32, 39, 49, 39]), .str (st [110, 117, 109, 98, 101, 114, 32, 70, 97, 108, 115, 101]), .str two]])) := by kernel_rfl
theorem c5_5_2_2 (R : List D) (a b c : Int) (odd none prime : D) (x : Str) (L : List D) : RUN 22 18 1 (sg odd none (.tup [.int 1]) (.str (st [49])) (.int 0) prime 21 (.d (.glo 33)) .no) (hh R a b c (rep 12 tT) (mC x L [])) = .nx (sg odd none (.tup [.int 1]) (.str (st [49])) (.int 0) prime 21 (.d (.glo 33)) (.d (.ref 22))) (hh R a b c (rep 12 tT) (mC x L [.lst [.str (st [110, 117, 109, 98, 101, 114, 32, 40, 49, 44, 41]), .str (st [110, 117, 109, 98, 101, 114, 32, 40, 49, 44, 41]), .str (st [110, 117, 109, 98, 101, 114, 32, 39, 49, 39]), .str (st [110, 117, 109, 98, 101, 114, 32, 48]), .str two]])) := by kernel_rfl
theorem c5_5_2_3 (R : List D) (a b c : Int) (odd none prime : D) (x : Str) (L : List D) : RUN 22 18 1 (sg odd none (.tup [.int 1]) (.str (st [49])) (.str (st [50])) prime 21 (.d (.glo 33)) .no) (hh R a b c (rep 12 tT) (mC x L [])) = .nx (sg odd none (.tup [.int 1]) (.str (st [49])) (.str (st [50])) prime 21 (.d (.glo 33)) (.d (.ref 22))) (hh R a b c (rep 12 tT) (mC x L [.lst [.str (st [110, 117, 109, 98, 101, 114, 32, 40, 49, 44, 41]), .str (st [110, 117, 109, 98, 101, 114, 32, 40, 49, 44, 41]), .str (st [110, 117, 109, 98, 101, 114, 32, 39, 49, 39]), .str (st [110, 117, 109, 98, 101, 114, 32, 39, 50, 39]), .str two]])) := by kernel_rfl
theorem c5_5_2_4 (R : List D) (a b c : Int) (odd none prime : D) (x : Str) (L : List D) : RUN 22 18 1 (sg odd none (.tup [.int 1]) (.str (st [49])) (.int (10 ^ 60)) prime 21 (.d (.glo 33)) .no) (hh R a b c (rep 12 tT) (mC x L [])) = .nx (sg odd none (.tup [.int 1]) (.str (st [49])) (.int (10 ^ 60)) prime 21 (.d (.glo 33)) (.d (.ref 22))) (hh R a b c (rep 12 tT) (mC x L [.lst [.str (st [110, 117, 109, 98, 101, 114, 32, 40, 49, 44, 41]), .str (st [110, 117, 109, 98, 101, 114, 32, 40, 49, 44, 41]), .str (st [110, 117, 109, 98, 101, 114, 32, 39, 49, 39]), .str (st [110, 117, 109, 98, 101, 114, 32, 49, 48, 48, 48, 48, 48, 48, 48, 48, 48, 48, 48, 48, 48, 48, 48, 48, 48, 48, 48, 48, 48, 48, 48, 48, 48, 48, 48, 48, 48, 48, 48, 48, 48, 48, 48, 48, 48, 48, 48, 48, 48, 48, 48, 48, 48, 48, 48, 48, 48, 48, 48, 48, 48, 48, 48, 48, 48, 48, 48, 48]), .str two]])) := by kernel_rfl
theorem c5_5_2_5 (R : List D) (a b c : Int) (odd none prime : D) (x : Str) (L : List D) : RUN 22 18 1 (sg odd none (.tup [.int 1]) (.str (st [49])) (.tup [.int 2, .int 1]) prime 21 (.d (.glo 33)) .no) (hh R a b c (rep 12 tT) (mC x L [])) = .nx (sg odd none (.tup [.int 1]) (.str (st [49])) (.tup [.int 2, .int 1]) prime 21 (.d (.glo 33)) (.d (.ref 22))) (hh R a b c (rep 12 tT) (mC x L [.lst [.str (st [110, 117, 109, 98, 101, 114, 32, 40, 49, 44, 41]), .str (st [110, 117, 109, 98, 101, 114, 32, 40, 49, 44, 41]), .str (st [110, 117, 109, 98, 101, 114, 32, 39, 49, 39]), .str (st [110, 117, 109, 98, 101, 114, 32, 40, 50, 44, 32, 49, 41]), .str two]])) := by kernel_rfl
theorem c5_5_3_0 (R : List D) (a b c : Int) (odd none prime : D) (x : Str) (L : List D) : RUN 22 18 1 (sg odd none (.tup [.int 1]) (.int (10 ^ 60)) (.non) prime 21 (.d (.glo 33)) .no) (hh R a b c (rep 12 tT) (mC x L [])) = .nx (sg odd none (.tup [.int 1]) (.int (10 ^ 60)) (.non) prime 21 (.d (.glo 33)) (.d (.ref 22))) (hh R a b c (rep 12 tT) (mC x L [.lst [.str (st [110, 117, 109, 98, 101, 114, 32, 40, 49, 44, 41]), .str (st [110, 117, 109, 98, 101, 114, 32, 40, 49, 44, 41]), .str (st [110, 117, 109, 98, 101, 114, 32, 49, 48, 48, 48, 48, 48, 48, 48, 48, 48, 48, 48, 48, 48, 48, 48, 48, 48, 48, 48, 48, 48, 48, 48, 48, 48, 48, 48, 48, 48, 48, 48, 48, 48, 48, 48, 48, 48, 48, 48, 48, 48, 48, 48, 48, 48, 48, 48, 48, 48, 48, 48, 48, 48, 48, 48, 48, 48, 48, 48, 48]), .str (st [110, 117, 109, 98, 101, 114, 32, 78, 111, 110, 101]), .str two]])) := by kernel_rfl
theorem c5_5_3_1 (R : List D) (a b c : Int) (odd none prime : D) (x : Str) (L : List D) : RUN 22 18 1 (sg odd none (.tup [.int 1]) (.int (10 ^ 60)) (.bl false) prime 21 (.d (.glo 33)) .no) (hh R a b c (rep 12 tT) (mC x L [])) = .nx (sg odd none (.tup [.int 1]) (.int (10 ^ 60)) (.bl false) prime 21 (.d (.glo 33)) (.d (.ref 22))) (hh R a b c (rep 12 tT) (mC x L [.lst [.str (st [110, 117, 109, 98, 101, 114, 32, 40, 49, 44, 41]), .str (st [110, 117, 109, 98, 101, 114, 32, 40, 49, 44, 41]), .str (st [110, 117, 109, 98, 101, 114, 32, 49, 48, 48, 48, 48, 48, 48, 48, 48, 48, 48, 48, 48, 48, 48, 48, 48, 48, 48, 48, 48, 48, 48, 48, 48, 48, 48, 48, 48, 48, 48, 48, 48, 48, 48, 48, 48, 48, 48, 48, 48, 48, 48, 48, 48, 48, 48, 48, 48, 48, 48, 48, 48, 48, 48, 48, 48, 48, 48, 48, 48]), .str (st [110, 117, 109, 98, 101, 114, 32, 70, 97, 108, 115, 101]), .str two]])) := by kernel_rfl
theorem c5_5_3_2 (R : List D) (a b c : Int) (odd none prime : D) (x : Str) (L : List D) : RUN 22 18 1 (sg odd none (.tup [.int 1]) (.int (10 ^ 60)) (.int 0) prime 21 (.d (.glo 33)) .no) (hh R a b c (rep 12 tT) (mC x L [])) = .nx (sg odd none (.tup [.int 1]) (.int (10 ^ 60)) (.int 0) prime 21 (.d (.glo 33)) (.d (.ref 22))) (hh R a b c (rep 12 tT) (mC x L [.lst [.str (st [110, 117, 109, 98, 101, 114, 32, 40, 49, 44, 41]), .str (st [110, 117, 109, 98, 101, 114, 32, 40, 49, 44, 41]), .str (st [110, 117, 109, 98, 101, 114, 32, 49, 48, 48, 48, 48, 48, 48, 48, 48, 48, 48, 48, 48, 48, 48, 48, 48, 48, 48, 48, 48, 48, 48, 48, 48, 48, 48, 48, 48, 48, 48, 48, 48, 48, 48, 48, 48, 48, 48, 48, 48, 48, 48, 48, 48, 48, 48, 48, 48, 48, 48, 48, 48, 48, 48, 48, 48, 48, 48, 48, 48]), .str (st [110, 117, 109, 98, 101, 114, 32, 48]), .str two]])) := by kernel_rfl
theorem c5_5_3_3 (R : List D) (a b c : Int) (odd none prime : D) (x : Str) (L : List D) : RUN 22 18 1 (sg odd none (.tup [.int 1]) (.int (10 ^ 60)) (.str (st [50])) prime 21 (.d (.glo 33)) .no) (hh R a b c (rep 12 tT) (mC x L [])) = .nx (sg odd none (.tup [.int 1]) (.int (10 ^ 60)) (.str (st [50])) prime 21 (.d (.glo 33)) (.d (.ref 22))) (hh R a b c (rep 12 tT) (mC x L [.lst [.str (st [110, 117, 109, 98, 101, 114, 32, 40, 49, 44, 41]), .str (st [110, 117, 109, 98, 101, 114, 32, 40, 49, 44, 41]), .str (st [110, 117, 109, 98, 101, 114, 32, 49, 48, 48, 48, 48, 48, 48, 48, 48, 48, 48, 48, 48, 48, 48, 48, 48, 48, 48, 48, 48, 48, 48, 48, 48, 48, 48, 48, 48, 48, 48, 48, 48, 48, 48, 48, 48, 48, 48, 48, 48, 48, 48, 48, 48, 48, 48, 48, 48, 48, 48, 48, 48, 48, 48, 48, 48, 48, 48, 48, 48]), .str (st [110, 117, 109, 98, 101, 114, 32, 39, 50, 39]), .str two]])) := by kernel_rfl
theorem c5_5_3_4 (R : List D) (a b c : Int) (odd none prime : D) (x : Str) (L : List D) : RUN 22 18 1 (sg odd none (.tup [.int 1]) (.int (10 ^ 60)) (.int (10 ^ 60)) prime 21 (.d (.glo 33)) .no) (hh R a b c (rep 12 tT) (mC x L [])) = .nx (sg odd none (.tup [.int 1]) (.int (10 ^ 60)) (.int (10 ^ 60)) prime 21 (.d (.glo 33)) (.d (.ref 22))) (hh R a b c (rep 12 tT) (mC x L [.lst [.str (st [110, 117, 109, 98, 101, 114, 32, 40, 49, 44, 41]), .str (st [110, 117, 109, 98, 101, 114, 32, 40, 49, 44, 41]), .str (st [110, 117, 109, 98, 101, 114, 32, 49, 48, 48, 48, 48, 48, 48, 48, 48, 48, 48, 48, 48, 48, 48, 48, 48, 48, 48, 48, 48, 48, 48, 48, 48, 48, 48, 48, 48, 48, 48, 48, 48, 48, 48, 48, 48, 48, 48, 48, 48, 48, 48, 48, 48, 48, 48, 48, 48, 48, 48, 48, 48, 48, 48, 48, 48, 48, 48, 48, 48]), .str (st [110, 117, 109, 98, 101, 114, 32, 49, 48, 48, 48, 48, 48, 48, 48, 48, 48, 48, 48, 48, 48, 48, 48, 48, 48, 48, 48, 48, 48, 48, 48, 48, 48, 48, 48, 48, 48, 48, 48, 48, 48, 48, 48, 48, 48, 48, 48, 48, 48, 48, 48, 48, 48, 48, 48, 48, 48, 48, 48, 48, 48, 48, 48, 48, 48, 48, 48, 48]), .str two]])) := by kernel_rfl
theorem c5_5_3_5 (R : List D) (a b c : Int) (odd none prime : D) (x : Str) (L : List D) : RUN 22 18 1 (sg odd none (.tup [.int 1]) (.int (10 ^ 60)) (.tup [.int 2, .int 1]) prime 21 (.d (.glo 33)) .no) (hh R a b c (rep 12 tT) (mC x L [])) = .nx (sg odd none (.tup [.int 1]) (.int (10 ^ 60)) (.tup [.int 2, .int 1]) prime 21 (.d (.glo 33)) (.d (.ref 22))) (hh R a b c (rep 12 tT) (mC x L [.lst [.str (st [110, 117, 109, 98, 101, 114, 32, 40, 49, 44, 41]), .str (st [110, 117, 109, 98, 101, 114, 32, 40, 49, 44, 41]), .str (st [110, 117, 109, 98, 101, 114, 32, 49, 48, 48, 48, 48, 48, 48, 48, 48, 48, 48, 48, 48, 48, 48, 48, 48, 48, 48, 48, 48, 48, 48, 48, 48, 48, 48, 48, 48, 48, 48, 48, 48, 48, 48, 48, 48, 48, 48, 48, 48, 48, 48, 48, 48, 48, 48, 48, 48, 48, 48, 48, 48, 48, 48, 48, 48, 48, 48, 48, 48]), .str (st [110, 117, 109, 98, 101, 114, 32, 40, 50, 44, 32, 49, 41]), .str two]])) := by kernel_rfl
theorem c5_5_4_0 (R : List D) (a b c : Int) (odd none prime : D) (x : Str) (L : List D) : RUN 22 18 1 (sg odd none (.tup [.int 1]) (.tup [.int 1, .int 1]) (.non) prime 21 (.d (.glo 33)) .no) (hh R a b c (rep 12 tT) (mC x L [])) = .nx (sg odd none (.tup [.int 1]) (.tup [.int 1, .int 1]) (.non) prime 21 (.d (.glo 33)) (.d (.ref 22))) (hh R a b c (rep 12 tT) (mC x L [.lst [.str (st [110, 117, 109, 98, 101, 114, 32, 40, 49, 44, 41]), .str (st [110, 117, 109, 98, 101, 114, 32, 40, 49, 44, 41]), .str (st [110, 117, 109, 98, 101, 114, 32, 40, 49, 44, 32, 49, 41]), .str (st [110, 117, 109, 98, 101, 114, 32, 78, 111, 110, 101]), .str two]])) := by kernel_rfl
theorem c5_5_4_1 (R : List D) (a b c : Int) (odd none prime : D) (x : Str) (L : List D) : RUN 22 18 1 (sg odd none (.tup [.int 1]) (.tup [.int 1, .int 1]) (.bl false) prime 21 (.d (.glo 33)) .no) (hh R a b c (rep 12 tT) (mC x L [])) = .nx (sg odd none (.tup [.int 1]) (.tup [.int 1, .int 1]) (.bl false) prime 21 (.d (.glo 33)) (.d (.ref 22))) (hh R a b c (rep 12 tT) (mC x L [.lst [.str (st [110, 117, 109, 98, 101, 114, 32, 40, 49, 44, 41]), .str (st [110, 117, 109, 98, 101, 114, 32, 40, 49, 44, 41]), .str (st [110, 117, 109, 98, 101, 114, 32, 40, 49, 44, 32, 49, 41]), .str (st [110, 117, 109, 98, 101, 114, 32, 70, 97, 108, 115, 101]), .str two]])) := by kernel_rfl
theorem c5_5_4_2 (R : List D) (a b c : Int) (odd none prime : D) (x : Str) (L : List D) : RUN 22 18 1 (sg odd none (.tup [.int 1]) (.tup [.int 1, .int 1]) (.int 0) prime 21 (.d (.glo 33)) .no) (hh R a b c (rep 12 tT) (mC x L [])) = .nx (sg odd none (.tup [.int 1]) (.tup [.int 1, .int 1]) (.int 0) prime 21 (.d (.glo 33)) (.d (.ref 22))) (hh R a b c (rep 12 tT) (mC x L [.lst [.str (st [110, 117, 109, 98, 101, 114, 32, 40, 49, 44, 41]), .str (st [110, 117, 109, 98, 101, 114, 32, 40, 49, 44, 41]), .str (st [110, 117, 109, 98, 101, 114, 32, 40, 49, 44, 32, 49, 41]), .str (st [110, 117, 109, 98, 101, 114, 32, 48]), .str two]])) := by kernel_rfl
theorem c5_5_4_3 (R : List D) (a b c : Int) (odd none prime : D) (x : Str) (L : List D) : RUN 22 18 1 (sg odd none (.tup [.int 1]) (.tup [.int 1, .int 1]) (.str (st [50])) prime 21 (.d (.glo 33)) .no) (hh R a b c (rep 12 tT) (mC x L [])) = .nx (sg odd none (.tup [.int 1]) (.tup [.int 1, .int 1]) (.str (st [50])) prime 21 (.d (.glo 33)) (.d (.ref 22))) (hh R a b c (rep 12 tT) (mC x L [.lst [.str (st [110, 117, 109, 98, 101, 114, 32, 40, 49, 44, 41]), .str (st [110, 117, 109, 98, 101, 114, 32, 40, 49, 44, 41]), .str (st [110, 117, 109, 98, 101, 114, 32, 40, 49, 44, 32, 49, 41]), .str (st [110, 117, 109, 98, 101, 114, 32, 39, 50, 39]), .str two]])) := by kernel_rfl
theorem c5_5_4_4 (R : List D) (a b c : Int) (odd none prime : D) (x : Str) (L : List D) : RUN 22 18 1 (sg odd none (.tup [.int 1]) (.tup [.int 1, .int 1]) (.int (10 ^ 60)) prime 21 (.d (.glo 33)) .no) (hh R a b c (rep 12 tT) (mC x L [])) = .nx (sg odd none (.tup [.int 1]) (.tup [.int 1, .int 1]) (.int (10 ^ 60)) prime 21 (.d (.glo 33)) (.d (.ref 22))) (hh R a b c (rep 12 tT) (mC x L [.lst [.str (st [110, 117, 109, 98, 101, 114, 32, 40, 49, 44, 41]), .str (st [110, 117, 109, 98, 101, 114, 32, 40, 49, 44, 41]), .str (st [110, 117, 109, 98, 101, 114, 32, 40, 49, 44, 32, 49, 41]), .str (st [110, 117, 109, 98, 101, 114, 32, 49, 48, 48, 48, 48, 48, 48, 48, 48, 48, 48, 48, 48, 48, 48, 48, 48, 48, 48, 48, 48, 48, 48, 48, 48, 48, 48, 48, 48, 48, 48, 48, 48, 48, 48, 48, 48, 48, 48, 48, 48, 48, 48, 48, 48, 48, 48, 48, 48, 48, 48, 48, 48, 48, 48, 48, 48, 48, 48, 48, 48]), .str two]])) := by kernel_rfl
theorem c5_5_4_5 (R : List D) (a b c : Int) (odd none prime : D) (x : Str) (L : List D) : RUN 22 18 1 (sg odd none (.tup [.int 1]) (.tup [.int 1, .int 1]) (.tup [.int 2, .int 1]) prime 21 (.d (.glo 33)) .no) (hh R a b c (rep 12 tT) (mC x L [])) = .nx (sg odd none (.tup [.int 1]) (.tup [.int 1, .int 1]) (.tup [.int 2, .int 1]) prime 21 (.d (.glo 33)) (.d (.ref 22))) (hh R a b c (rep 12 tT) (mC x L [.lst [.str (st [110, 117, 109, 98, 101, 114, 32, 40, 49, 44, 41]), .str (st [110, 117, 109, 98, 101, 114, 32, 40, 49, 44, 41]), .str (st [110, 117, 109, 98, 101, 114, 32, 40, 49, 44, 32, 49, 41]), .str (st [110, 117, 109, 98, 101, 114, 32, 40, 50, 44, 32, 49, 41]), .str two]])) := by kernel_rfl
theorem c5_5_5_0 (R : List D) (a b c : Int) (odd none prime : D) (x : Str) (L : List D) : RUN 22 18 1 (sg odd none (.tup [.int 1]) (.ref 10) (.non) prime 21 (.d (.glo 33)) .no) (hh R a b c (rep 12 tT) (mC x L [])) = .nx (sg odd none (.tup [.int 1]) (.ref 10) (.non) prime 21 (.d (.glo 33)) (.d (.ref 22))) (hh R a b c (rep 12 tT) (mC x L [.lst [.str (st [110, 117, 109, 98, 101, 114, 32, 40, 49, 44, 41]), .str (st [110, 117, 109, 98, 101, 114, 32, 40, 49, 44, 41]), .str (st [110, 117, 109, 98, 101, 114, 32, 91, 49, 93]), .str (st [110, 117, 109, 98, 101, 114, 32, 78, 111, 110, 101]), .str two]])) := by kernel_rfl
theorem c5_5_5_1 (R : List D) (a b c : Int) (odd none prime : D) (x : Str) (L : List D) : RUN 22 18 1 (sg odd none (.tup [.int 1]) (.ref 10) (.bl false) prime 21 (.d (.glo 33)) .no) (hh R a b c (rep 12 tT) (mC x L [])) = .nx (sg odd none (.tup [.int 1]) (.ref 10) (.bl false) prime 21 (.d (.glo 33)) (.d (.ref 22))) (hh R a b c (rep 12 tT) (mC x L [.lst [.str (st [110, 117, 109, 98, 101, 114, 32, 40, 49, 44, 41]), .str (st [110, 117, 109, 98, 101, 114, 32, 40, 49, 44, 41]), .str (st [110, 117, 109, 98, 101, 114, 32, 91, 49, 93]), .str (st [110, 117, 109, 98, 101, 114, 32, 70, 97, 108, 115, 101]), .str two]])) := by kernel_rfl
theorem c5_5_5_2 (R : List D) (a b c : Int) (odd none prime : D) (x : Str) (L : List D) : RUN 22 18 1 (sg odd none (.tup [.int 1]) (.ref 10) (.int 0) prime 21 (.d (.glo 33)) .no) (hh R a b c (rep 12 tT) (mC x L [])) = .nx (sg odd none (.tup [.int 1]) (.ref 10) (.int 0) prime 21 (.d (.glo 33)) (.d (.ref 22))) (hh R a b c (rep 12 tT) (mC x L [.lst [.str (st [110, 117, 109, 98, 101, 114, 32, 40, 49, 44, 41]), .str (st [110, 117, 109, 98, 101, 114, 32, 40, 49, 44, 41]), .str (st [110, 117, 109, 98, 101, 114, 32, 91, 49, 93]), .str (st [110, 117, 109, 98, 101, 114, 32, 48]), .str two]])) := by kernel_rfl
theorem c5_5_5_3 (R : List D) (a b c : Int) (odd none prime : D) (x : Str) (L : List D) : RUN 22 18 1 (sg odd none (.tup [.int 1]) (.ref 10) (.str (st [50])) prime 21 (.d (.glo 33)) .no) (hh R a b c (rep 12 tT) (mC x L [])) = .nx (sg odd none (.tup [.int 1]) (.ref 10) (.str (st [50])) prime 21 (.d (.glo 33)) (.d (.ref 22))) (hh R a b c (rep 12 tT) (mC x L [.lst [.str (st [110, 117, 109, 98, 101, 114, 32, 40, 49, 44, 41]), .str (st [110, 117, 109, 98, 101, 114, 32, 40, 49, 44, 41]), .str (st [110, 117, 109, 98, 101, 114, 32, 91, 49, 93]), .str (st [110, 117, 109, 98, 101, 114, 32, 39, 50, 39]), .str two]])) := by kernel_rfl
theorem c5_5_5_4 (R : List D) (a b c : Int) (odd none prime : D) (x : Str) (L : List D) : RUN 22 18 1 (sg odd none (.tup [.int 1]) (.ref 10) (.int (10 ^ 60)) prime 21 (.d (.glo 33)) .no) (hh R a b c (rep 12 tT) (mC x L [])) = .nx (sg odd none (.tup [.int 1]) (.ref 10) (.int (10 ^ 60)) prime 21 (.d (.glo 33)) (.d (.ref 22))) (hh R a b c (rep 12 tT) (mC x L [.lst [.str (st [110, 117, 109, 98, 101, 114, 32, 40, 49, 44, 41]), .str (st [110, 117, 109, 98, 101, 114, 32, 40, 49, 44, 41]), .str (st [110, 117, 109, 98, 101, 114, 32, 91, 49, 93]), .str (st [110, 117, 109, 98, 101, 114, 32, 49, 48, 48, 48, 48, 48, 48, 48, 48, 48, 48, 48, 48, 48, 48, 48, 48, 48, 48, 48, 48, 48, 48, 48, 48, 48, 48, 48, 48, 48, 48, 48, 48, 48, 48, 48, 48, 48, 48, 48, 48, 48, 48, 48, 48, 48, 48, 48, 48, 48, 48, 48, 48, 48, 48, 48, 48, 48, 48, 48, 48]), .str two]])) := by kernel_rfl
theorem c5_5_5_5 (R : List D) (a b c : Int) (odd none prime : D) (x : Str) (L : List D) : RUN 22 18 1 (sg odd none (.tup [.int 1]) (.ref 10) (.tup [.int 2, .int 1]) prime 21 (.d (.glo 33)) .no) (hh R a b c (rep 12 tT) (mC x L [])) = .nx (sg odd none (.tup [.int 1]) (.ref 10) (.tup [.int 2, .int 1]) prime 21 (.d (.glo 33)) (.d (.ref 22))) (hh R a b c (rep 12 tT) (mC x L [.lst [.str (st [110, 117, 109, 98, 101, 114, 32, 40, 49, 44, 41]), .str (st [110, 117, 109, 98, 101, 114, 32, 40, 49, 44, 41]), .str (st [110, 117, 109, 98, 101, 114, 32, 91, 49, 93]), .str (st [110, 117, 109, 98, 101, 114, 32, 40, 50, 44, 32, 49, 41]), .str two]])) := by kernel_rfl
theorem c5_6_0_0 (R : List D) (a b c : Int) (odd none prime : D) (x : Str) (L : List D) : RUN 22 18 1 (sg odd none (.ref 8) (.non) (.non) prime 21 (.d (.glo 33)) .no) (hh R a b c (rep 12 tT) (mC x L [])) = .nx (sg odd none (.ref 8) (.non) (.non) prime 21 (.d (.glo 33)) (.d (.ref 22))) (hh R a b c (rep 12 tT) (mC x L [.lst [.str (st [110, 117, 109, 98, 101, 114, 32, 91, 50, 93]), .str (st [110, 117, 109, 98, 101, 114, 32, 91, 50, 93]), .str (st [110, 117, 109, 98, 101, 114, 32, 78, 111, 110, 101]), .str (st [110, 117, 109, 98, 101, 114, 32, 78, 111, 110, 101]), .str two]])) := by kernel_rfl
theorem c5_6_0_1 (R : List D) (a b c : Int) (odd none prime : D) (x : Str) (L : List D) : RUN 22 18 1 (sg odd none (.ref 8) (.non) (.bl false) prime 21 (.d (.glo 33)) .no) (hh R a b c (rep 12 tT) (mC x L [])) = .nx (sg odd none (.ref 8) (.non) (.bl false) prime 21 (.d (.glo 33)) (.d (.ref 22))) (hh R a b c (rep 12 tT) (mC x L [.lst [.str (st [110, 117, 109, 98, 101, 114, 32, 91, 50, 93]), .str (st [110, 117, 109, 98, 101, 114, 32, 91, 50, 93]), .str (st [110, 117, 109, 98, 101, 114, 32, 78, 111, 110, 101]), .str (st [110, 117, 109, 98, 101, 114, 32, 70, 97, 108, 115, 101]), .str two]])) := by kernel_rfl
theorem c5_6_0_2 (R : List D) (a b c : Int) (odd none prime : D) (x : Str) (L : List D) : RUN 22 18 1 (sg odd none (.ref 8) (.non) (.int 0) prime 21 (.d (.glo 33)) .no) (hh R a b c (rep 12 tT) (mC x L [])) = .nx (sg odd none (.ref 8) (.non) (.int 0) prime 21 (.d (.glo 33)) (.d (.ref 22))) (hh R a b c (rep 12 tT) (mC x L [.lst [.str (st [110, 117, 109, 98, 101, 114, 32, 91, 50, 93]), .str (st [110, 117, 109, 98, 101, 114, 32, 91, 50, 93]), .str (st [110, 117, 109, 98, 101, 114, 32, 78, 111, 110, 101]), .str (st [110, 117, 109, 98, 101, 114, 32, 48]), .str two]])) := by kernel_rfl
theorem c5_6_0_3 (R : List D) (a b c : Int) (odd none prime : D) (x : Str) (L : List D) : RUN 22 18 1 (sg odd none (.ref 8) (.non) (.str (st [50])) prime 21 (.d (.glo 33)) .no) (hh R a b c (rep 12 tT) (mC x L [])) = .nx (sg odd none (.ref 8) (.non) (.str (st [50])) prime 21 (.d (.glo 33)) (.d (.ref 22))) (hh R a b c (rep 12 tT) (mC x L [.lst [.str (st [110, 117, 109, 98, 101, 114, 32, 91, 50, 93]), .str (st [110, 117, 109, 98, 101, 114, 32, 91, 50, 93]), .str (st [110, 117, 109, 98, 101, 114, 32, 78, 111, 110, 101]), .str (st [110, 117, 109, 98, 101, 114, 32, 39, 50, 39]), .str two]])) := by kernel_rfl
theorem c5_6_0_4 (R : List D) (a b c : Int) (odd none prime : D) (x : Str) (L : List D) : RUN 22 18 1 (sg odd none (.ref 8) (.non) (.int (10 ^ 60)) prime 21 (.d (.glo 33)) .no) (hh R a b c (rep 12 tT) (mC x L [])) = .nx (sg odd none (.ref 8) (.non) (.int (10 ^ 60)) prime 21 (.d (.glo 33)) (.d (.ref 22))) (hh R a b c (rep 12 tT) (mC x L [.lst [.str (st [110, 117, 109, 98, 101, 114, 32, 91, 50, 93]), .str (st [110, 117, 109, 98, 101, 114, 32, 91, 50, 93]), .str (st [110, 117, 109, 98, 101, 114, 32, 78, 111, 110, 101]), .str (st [110, 117, 109, 98, 101, 114, 32, 49, 48, 48, 48, 48, 48, 48, 48, 48, 48, 48, 48, 48, 48, 48, 48, 48, 48, 48, 48, 48, 48, 48, 48, 48, 48, 48, 48, 48, 48, 48, 48, 48, 48, 48, 48, 48, 48, 48, 48, 48, 48, 48, 48, 48, 48, 48, 48, 48, 48, 48, 48, 48, 48, 48, 48, 48, 48, 48, 48, 48]), .str two]])) := by kernel_rfl
theorem c5_6_0_5 (R : List D) (a b c : Int) (odd none prime : D) (x : Str) (L : List D) : RUN 22 18 1 (sg odd none (.ref 8) (.non) (.tup [.int 2, .int 1]) prime 21 (.d (.glo 33)) .no) (hh R a b c (rep 12 tT) (mC x L [])) = .nx (sg odd none (.ref 8) (.non) (.tup [.int 2, .int 1]) prime 21 (.d (.glo 33)) (.d (.ref 22))) (hh R a b c (rep 12 tT) (mC x L [.lst [.str (st [110, 117, 109, 98, 101, 114, 32, 91, 50, 93]), .str (st [110, 117, 109, 98, 101, 114, 32, 91, 50, 93]), .str (st [110, 117, 109, 98, 101, 114, 32, 78, 111, 110, 101]), .str (st [110, 117, 109, 98, 101, 114, 32, 40, 50, 44, 32, 49, 41]), .str two]])) := by kernel_rfl
theorem c5_6_1_0 (R : List D) (a b c : Int) (odd none prime : D) (x : Str) (L : List D) : RUN 22 18 1 (sg odd none (.ref 8) (.bl true) (.non) prime 21 (.d (.glo 33)) .no) (hh R a b c (rep 12 tT) (mC x L [])) = .nx (sg odd none (.ref 8) (.bl true) (.non) prime 21 (.d (.glo 33)) (.d (.ref 22))) (hh R a b c (rep 12 tT) (mC x L [.lst [.str (st [110, 117, 109, 98, 101, 114, 32, 91, 50, 93]), .str (st [110, 117, 109, 98, 101, 114, 32, 91, 50, 93]), .str (st [110, 117, 109, 98, 101, 114, 32, 84, 114, 117, 101]), .str (st [110, 117, 109, 98, 101, 114, 32, 78, 111, 110, 101]), .str two]])) := by kernel_rfl
theorem c5_6_1_1 (R : List D) (a b c : Int) (odd none prime : D) (x : Str) (L : List D) : RUN 22 18 1 (sg odd none (.ref 8) (.bl true) (.bl false) prime 21 (.d (.glo 33)) .no) (hh R a b c (rep 12 tT) (mC x L [])) = .nx (sg odd none (.ref 8) (.bl true) (.bl false) prime 21 (.d (.glo 33)) (.d (.ref 22))) (hh R a b c (rep 12 tT) (mC x L [.lst [.str (st [110, 117, 109, 98, 101, 114, 32, 91, 50, 93]), .str (st [110, 117, 109, 98, 101, 114, 32, 91, 50, 93]), .str (st [110, 117, 109, 98, 101, 114, 32, 84, 114, 117, 101]), .str (st [110, 117, 109, 98, 101, 114, 32, 70, 97, 108, 115, 101]), .str two]])) := by kernel_rfl
theorem c5_6_1_2 (R : List D) (a b c : Int) (odd none prime : D) (x : Str) (L : List D) : RUN 22 18 1 (sg odd none (.ref 8) (.bl true) (.int 0) prime 21 (.d (.glo 33)) .no) (hh R a b c (rep 12 tT) (mC x L [])) = .nx (sg odd none (.ref 8) (.bl true) (.int 0) prime 21 (.d (.glo 33)) (.d (.ref 22))) (hh R a b c (rep 12 tT) (mC x L [.lst [.str (st [110, 117, 109, 98, 101, 114, 32, 91, 50, 93]), .str (st [110, 117, 109, 98, 101, 114, 32, 91, 50, 93]), .str (st [110, 117, 109, 98, 101, 114, 32, 84, 114, 117, 101]), .str (st [110, 117, 109, 98, 101, 114, 32, 48]), .str two]])) := by kernel_rfl
theorem c5_6_1_3 (R : List D) (a b c : Int) (odd none prime : D) (x : Str) (L : List D) : RUN 22 18 1 (sg odd none (.ref 8) (.bl true) (.str (st [50])) prime 21 (.d (.glo 33)) .no) (hh R a b c (rep 12 tT) (mC x L [])) = .nx (sg odd none (.ref 8) (.bl true) (.str (st [50])) prime 21 (.d (.glo 33)) (.d (.ref 22))) (hh R a b c (rep 12 tT) (mC x L [.lst [.str (st [110, 117, 109, 98, 101, 114, 32, 91, 50, 93]), .str (st [110, 117, 109, 98, 101, 114, 32, 91, 50, 93]), .str (st [110, 117, 109, 98, 101, 114, 32, 84, 114, 117, 101]), .str (st [110, 117, 109, 98, 101, 114, 32, 39, 50, 39]), .str two]])) := by kernel_rfl
theorem c5_6_1_4 (R : List D) (a b c : Int) (odd none prime : D) (x : Str) (L : List D) : RUN 22 18 1 (sg odd none (.ref 8) (.bl true) (.int (10 ^ 60)) prime 21 (.d (.glo 33)) .no) (hh R a b c (rep 12 tT) (mC x L [])) = .nx (sg odd none (.ref 8) (.bl true) (.int (10 ^ 60)) prime 21 (.d (.glo 33)) (.d (.ref 22))) (hh R a b c (rep 12 tT) (mC x L [.lst [.str (st [110, 117, 109, 98, 101, 114, 32, 91, 50, 93]), .str (st [110, 117, 109, 98, 101, 114, 32, 91, 50, 93]), .str (st [110, 117, 109, 98, 101, 114, 32, 84, 114, 117, 101]), .str (st [110, 117, 109, 98, 101, 114, 32, 49, 48, 48, 48, 48, 48, 48, 48, 48, 48, 48, 48, 48, 48, 48, 48, 48, 48, 48, 48, 48, 48, 48, 48, 48, 48, 48, 48, 48, 48, 48, 48, 48, 48, 48, 48, 48, 48, 48, 48, 48, 48, 48, 48, 48, 48, 48, 48, 48, 48, 48, 48, 48, 48, 48, 48, 48, 48, 48, 48, 48]), .str two]])) := by kernel_rfl
theorem c5_6_1_5 (R : List D) (a b c : Int) (odd none prime : D) (x : Str) (L : List D) : RUN 22 18 1 (sg odd none (.ref 8) (.bl true) (.tup [.int 2, .int 1]) prime 21 (.d (.glo 33)) .no) (hh R a b c (rep 12 tT) (mC x L [])) = .nx (sg odd none (.ref 8) (.bl true) (.tup [.int 2, .int 1]) prime 21 (.d (.glo 33)) (.d (.ref 22))) (hh R a b c (rep 12 tT) (mC x L [.lst [.str (st [110, 117, 109, 98, 101, 114, 32, 91, 50, 93]), .str (st [110, 117, 109, 98, 101, 114, 32, 91, 50, 93]), .str (st [110, 117, 109, 98, 101, 114, 32, 84, 114, 117, 101]), .str (st [110, 117, 109, 98, 101, 114, 32, 40, 50, 44, 32, 49, 41]), .str two]])) := by kernel_rfl
theorem c5_6_2_0 (R : List D) (a b c : Int) (odd none prime : D) (x : Str) (L : List D) : RUN 22 18 1 (sg odd none (.ref 8) (.str (st [49])) (.non) prime 21 (.d (.glo 33)) .no) (hh R a b c (rep 12 tT) (mC x L [])) = .nx (sg odd none (.ref 8) (.str (st [49])) (.non) prime 21 (.d (.glo 33)) (.d (.ref 22))) (hh R a b c (rep 12 tT) (mC x L [.lst [.str (st [110, 117, 109, 98, 101, 114, 32, 91, 50, 93]), .str (st [110, 117, 109, 98, 101, 114, 32, 91, 50, 93]), .str (st [110, 117, 109, 98, 101, 114, 32, 39, 49, 39]), .str (st [110, 117, 109, 98, 101, 114, 32, 78, 111, 110, 101]), .str two]])) := by kernel_rfl
theorem c5_6_2_1 (R : List D) (a b c : Int) (odd none prime : D) (x : Str) (L : List D) : RUN 22 18 1 (sg odd none (.ref 8) (.str (st [49])) (.bl false) prime 21 (.d (.glo 33)) .no) (hh R a b c (rep 12 tT) (mC x L [])) = .nx (sg odd none (.ref 8) (.str (st [49])) (.bl false) prime 21 (.d (.glo 33)) (.d (.ref 22))) (hh R a b c (rep 12 tT) (mC x L [.lst [.str (st [110, 117, 109, 98, 101, 114, 32, 91, 50, 93]), .str (st [110, 117, 109, 98, 101, 114, 32, 91, 50, 93]), .str (st [110, 117, 109, 98, 101, 114, 32, 39, 49, 39]), .str (st [110, 117, 109, 98, 101, 114, 32, 70, 97, 108, 115, 101]), .str two]])) := by kernel_rfl
theorem c5_6_2_2 (R : List D) (a b c : Int) (odd none prime : D) (x : Str) (L : List D) : RUN 22 18 1 (sg odd none (.ref 8) (.str (st [49])) (.int 0) prime 21 (.d (.glo 33)) .no) (hh R a b c (rep 12 tT) (mC x L [])) = .nx (sg odd none (.ref 8) (.str (st [49])) (.int 0) prime 21 (.d (.glo 33)) (.d (.ref 22))) (hh R a b c (rep 12 tT) (mC x L [.lst [.str (st [110, 117, 109, 98, 101, 114, 32, 91, 50, 93]), .str (st [110, 117, 109, 98, 101, 114, 32, 91, 50, 93]), .str (st [110, 117, 109, 98, 101, 114, 32, 39, 49, 39]), .str (st [110, 117, 109, 98, 101, 114, 32, 48]), .str two]])) := by kernel_rfl
theorem c5_6_2_3 (R : List D) (a b c : Int) (odd none prime : D) (x : Str) (L : List D) : RUN 22 18 1 (sg odd none (.ref 8) (.str (st [49])) (.str (st [50])) prime 21 (.d (.glo 33)) .no) (hh R a b c (rep 12 tT) (mC x L [])) = .nx (sg odd none (.ref 8) (.str (st [49])) (.str (st [50])) prime 21 (.d (.glo 33)) (.d (.ref 22))) (hh R a b c (rep 12 tT) (mC x L [.lst [.str (st [110, 117, 109, 98, 101, 114, 32, 91, 50, 93]), .str (st [110, 117, 109, 98, 101, 114, 32, 91, 50, 93]), .str (st [110, 117, 109, 98, 101, 114, 32, 39, 49, 39]), .str (st [110, 117, 109, 98, 101, 114, 32, 39, 50, 39]), .str two]])) := by kernel_rfl
theorem c5_6_2_4 (R : List D) (a b c : Int) (odd none prime : D) (x : Str) (L : List D) : RUN 22 18 1 (sg odd none (.ref 8) (.str (st [49])) (.int (10 ^ 60)) prime 21 (.d (.glo 33)) .no) (hh R a b c (rep 12 tT) (mC x L [])) = .nx (sg odd none (.ref 8) (.str (st [49])) (.int (10 ^ 60)) prime 21 (.d (.glo 33)) (.d (.ref 22))) (hh R a b c (rep 12 tT) (mC x L [.lst [.str (st [110, 117, 109, 98, 101, 114, 32, 91, 50, 93]), .str (st [110, 117, 109, 98, 101, 114, 32, 91, 50, 93]), .str (st [110, 117, 109, 98, 101, 114, 32, 39, 49, 39]), .str (st [110, 117, 109, 98, 101, 114, 32, 49, 48, 48, 48, 48, 48, 48, 48, 48, 48, 48, 48, 48, 48, 48, 48, 48, 48, 48, 48, 48, 48, 48, 48, 48, 48, 48, 48, 48, 48, 48, 48, 48, 48, 48, 48, 48, 48, 48, 48, 48, 48, 48, 48, 48, 48, 48, 48, 48, 48, 48, 48, 48, 48, 48, 48, 48, 48, 48, 48, 48]), .str two]])) := by kernel_rfl
theorem c5_6_2_5 (R : List D) (a b c : Int) (odd none prime : D) (x : Str) (L : List D) : RUN 22 18 1 (sg odd none (.ref 8) (.str (st [49])) (.tup [.int 2, .int 1]) prime 21 (.d (.glo 33)) .no) (hh R a b c (rep 12 tT) (mC x L [])) = .nx (sg odd none (.ref 8) (.str (st [49])) (.tup [.int 2, .int 1]) prime 21 (.d (.glo 33)) (.d (.ref 22))) (hh R a b c (rep 12 tT) (mC x L [.lst [.str (st [110, 117, 109, 98, 101, 114, 32, 91, 50, 93]), .str (st [110, 117, 109, 98, 101, 114, 32, 91, 50, 93]), .str (st [110, 117, 109, 98, 101, 114, 32, 39, 49, 39]), .str (st [110, 117, 109, 98, 101, 114, 32, 40, 50, 44, 32, 49, 41]), .str two]])) := by kernel_rfl
theorem c5_6_3_0 (R : List D) (a b c : Int) (odd none prime : D) (x : Str) (L : List D) : RUN 22 18 1 (sg odd none (.ref 8) (.int (10 ^ 60)) (.non) prime 21 (.d (.glo 33)) .no) (hh R a b c (rep 12 tT) (mC x L [])) = .nx (sg odd none (.ref 8) (.int (10 ^ 60)) (.non) prime 21 (.d (.glo 33)) (.d (.ref 22))) (hh R a b c (rep 12 tT) (mC x L [.lst [.str (st [110, 117, 109, 98, 101, 114, 32, 91, 50, 93]), .str (st [110, 117, 109, 98, 101, 114, 32, 91, 50, 93]), .str (st [110, 117, 109, 98, 101, 114, 32, 49, 48, 48, 48, 48, 48, 48, 48, 48, 48, 48, 48, 48, 48, 48, 48, 48, 48, 48, 48, 48, 48, 48, 48, 48, 48, 48, 48, 48, 48, 48, 48, 48, 48, 48, 48, 48, 48, 48, 48, 48, 48, 48, 48, 48, 48, 48, 48, 48, 48, 48, 48, 48, 48, 48, 48, 48, 48, 48, 48, 48]), .str (st [110, 117, 109, 98, 101, 114, 32, 78, 111, 110, 101]), .str two]])) := by kernel_rfl
theorem c5_6_3_1 (R : List D) (a b c : Int) (odd none prime : D) (x : Str) (L : List D) : RUN 22 18 1 (sg odd none (.ref 8) (.int (10 ^ 60)) (.bl false) prime 21 (.d (.glo 33)) .no) (hh R a b c (rep 12 tT) (mC x L [])) = .nx (sg odd none (.ref 8) (.int (10 ^ 60)) (.bl false) prime 21 (.d (.glo 33)) (.d (.ref 22))) (hh R a b c (rep 12 tT) (mC x L [.lst [.str (st [110, 117, 109, 98, 101, 114, 32, 91, 50, 93]), .str (st [110, 117, 109, 98, 101, 114, 32, 91, 50, 93]), .str (st [110, 117, 109, 98, 101, 114, 32, 49, 48, 48, 48, 48, 48, 48, 48, 48, 48, 48, 48, 48, 48, 48, 48, 48, 48, 48, 48, 48, 48, 48, 48, 48, 48, 48, 48, 48, 48, 48, 48, 48, 48, 48, 48, 48, 48, 48, 48, 48, 48, 48, 48, 48, 48, 48, 48, 48, 48, 48, 48, 48, 48, 48, 48, 48, 48, 48, 48, 48]), .str (st [110, 117, 109, 98, 101, 114, 32, 70, 97, 108, 115, 101]), .str two]])) := by kernel_rfl
theorem c5_6_3_2 (R : List D) (a b c : Int) (odd none prime : D) (x : Str) (L : List D) : RUN 22 18 1 (sg odd none (.ref 8) (.int (10 ^ 60)) (.int 0) prime 21 (.d (.glo 33)) .no) (hh R a b c (rep 12 tT) (mC x L [])) = .nx (sg odd none (.ref 8) (.int (10 ^ 60)) (.int 0) prime 21 (.d (.glo 33)) (.d (.ref 22))) (hh R a b c (rep 12 tT) (mC x L [.lst [.str (st [110, 117, 109, 98, 101, 114, 32, 91, 50, 93]), .str (st [110, 117, 109, 98, 101, 114, 32, 91, 50, 93]), .str (st [110, 117, 109, 98, 101, 114, 32, 49, 48, 48, 48, 48, 48, 48, 48, 48, 48, 48, 48, 48, 48, 48, 48, 48, 48, 48, 48, 48, 48, 48, 48, 48, 48, 48, 48, 48, 48, 48, 48, 48, 48, 48, 48, 48, 48, 48, 48, 48, 48, 48, 48, 48, 48, 48, 48, 48, 48, 48, 48, 48, 48, 48, 48, 48, 48, 48, 48, 48]), .str (st [110, 117, 109, 98, 101, 114, 32, 48]), .str two]])) := by kernel_rfl
theorem c5_6_3_3 (R : List D) (a b c : Int) (odd none prime : D) (x : Str) (L : List D) : RUN 22 18 1 (sg odd none (.ref 8) (.int (10 ^ 60)) (.str (st [50])) prime 21 (.d (.glo 33)) .no) (hh R a b c (rep 12 tT) (mC x L [])) = .nx (sg odd none (.ref 8) (.int (10 ^ 60)) (.str (st [50])) prime 21 (.d (.glo 33)) (.d (.ref 22))) (hh R a b c (rep 12 tT) (mC x L [.lst [.str (st [110, 117, 109, 98, 101, 114, 32, 91, 50, 93]), .str (st [110, 117, 109, 98, 101, 114, 32, 91, 50, 93]), .str (st [110, 117, 109, 98, 101, 114, 32, 49, 48, 48, 48, 48, 48, 48, 48, 48, 48, 48, 48, 48, 48, 48, 48, 48, 48, 48, 48, 48, 48, 48, 48, 48, 48, 48, 48, 48, 48, 48, 48, 48, 48, 48, 48, 48, 48, 48, 48, 48, 48, 48, 48, 48, 48, 48, 48, 48, 48, 48, 48, 48, 48, 48, 48, 48, 48, 48, 48, 48]), .str (st [110, 117, 109, 98, 101, 114, 32, 39, 50, 39]), .str two]])) := by kernel_rfl
theorem c5_6_3_4 (R : List D) (a b c : Int) (odd none prime : D) (x : Str) (L : List D) : RUN 22 18 1 (sg odd none (.ref 8) (.int (10 ^ 60)) (.int (10 ^ 60)) prime 21 (.d (.glo 33)) .no) (hh R a b c (rep 12 tT) (mC x L [])) = .nx (sg odd none (.ref 8) (.int (10 ^ 60)) (.int (10 ^ 60)) prime 21 (.d (.glo 33)) (.d (.ref 22))) (hh R a b c (rep 12 tT) (mC x L [.lst [.str (st [110, 117, 109, 98, 101, 114, 32, 91, 50, 93]), .str (st [110, 117, 109, 98, 101, 114, 32, 91, 50, 93]), .str (st [110, 117, 109, 98, 101, 114, 32, 49, 48, 48, 48, 48, 48, 48, 48, 48, 48, 48, 48, 48, 48, 48, 48, 48, 48, 48, 48, 48, 48, 48, 48, 48, 48, 48, 48, 48, 48, 48, 48, 48, 48, 48, 48, 48, 48, 48, 48, 48, 48, 48, 48, 48, 48, 48, 48, 48, 48, 48, 48, 48, 48, 48, 48, 48, 48, 48, 48, 48]), .str (st [110, 117, 109, 98, 101, 114, 32, 49, 48, 48, 48, 48, 48, 48, 48, 48, 48, 48, 48, 48, 48, 48, 48, 48, 48, 48, 48, 48, 48, 48, 48, 48, 48, 48, 48, 48, 48, 48, 48, 48, 48, 48, 48, 48, 48, 48, 48, 48, 48, 48, 48, 48, 48, 48, 48, 48, 48, 48, 48, 48, 48, 48, 48, 48, 48, 48, 48, 48]), .str two]])) := by kernel_rfl
theorem c5_6_3_5 (R : List D) (a b c : Int) (odd none prime : D) (x : Str) (L : List D) : RUN 22 18 1 (sg odd none (.ref 8) (.int (10 ^ 60)) (.tup [.int 2, .int 1]) prime 21 (.d (.glo 33)) .no) (hh R a b c (rep 12 tT) (mC x L [])) = .nx (sg odd none (.ref 8) (.int (10 ^ 60)) (.tup [.int 2, .int 1]) prime 21 (.d (.glo 33)) (.d (.ref 22))) (hh R a b c (rep 12 tT) (mC x L [.lst [.str (st [110, 117, 109, 98, 101, 114, 32, 91, 50, 93]), .str (st [110, 117, 109, 98, 101, 114, 32, 91, 50, 93]), .str (st [110, 117, 109, 98, 101, 114, 32, 49, 48, 48, 48, 48, 48, 48, 48, 48, 48, 48, 48, 48, 48, 48, 48, 48, 48, 48, 48, 48, 48, 48, 48, 48, 48, 48, 48, 48, 48, 48, 48, 48, 48, 48, 48, 48, 48, 48, 48, 48, 48, 48, 48, 48, 48, 48, 48, 48, 48, 48, 48, 48, 48, 48, 48, 48, 48, 48, 48, 48]), .str (st [110, 117, 109, 98, 101, 114, 32, 40, 50, 44, 32, 49, 41]), .str two]])) := by kernel_rfl
theorem c5_6_4_0 (R : List D) (a b c : Int) (odd none prime : D) (x : Str) (L : List D) : RUN 22 18 1 (sg odd none (.ref 8) (.tup [.int 1, .int 1]) (.non) prime 21 (.d (.glo 33)) .no) (hh R a b c (rep 12 tT) (mC x L [])) = .nx (sg odd none (.ref 8) (.tup [.int 1, .int 1]) (.non) prime 21 (.d (.glo 33)) (.d (.ref 22))) (hh R a b c (rep 12 tT) (mC x L [.lst [.str (st [110, 117, 109, 98, 101, 114, 32, 91, 50, 93]), .str (st [110, 117, 109, 98, 101, 114, 32, 91, 50, 93]), .str (st [110, 117, 109, 98, 101, 114, 32, 40, 49, 44, 32, 49, 41]), .str (st [110, 117, 109, 98, 101, 114, 32, 78, 111, 110, 101]), .str two]])) := by kernel_rfl
theorem c5_6_4_1 (R : List D) (a b c : Int) (odd none prime : D) (x : Str) (L : List D) : RUN 22 18 1 (sg odd none (.ref 8) (.tup [.int 1, .int 1]) (.bl false) prime 21 (.d (.glo 33)) .no) (hh R a b c (rep 12 tT) (mC x L [])) = .nx (sg odd none (.ref 8) (.tup [.int 1, .int 1]) (.bl false) prime 21 (.d (.glo 33)) (.d (.ref 22))) (hh R a b c (rep 12 tT) (mC x L [.lst [.str (st [110, 117, 109, 98, 101, 114, 32, 91, 50, 93]), .str (st [110, 117, 109, 98, 101, 114, 32, 91, 50, 93]), .str (st [110, 117, 109, 98, 101, 114, 32, 40, 49, 44, 32, 49, 41]), .str (st [110, 117, 109, 98, 101, 114, 32, 70, 97, 108, 115, 101]), .str two]])) := by kernel_rfl
theorem c5_6_4_2 (R : List D) (a b c : Int) (odd none prime : D) (x : Str) (L : List D) : RUN 22 18 1 (sg odd none (.ref 8) (.tup [.int 1, .int 1]) (.int 0) prime 21 (.d (.glo 33)) .no) (hh R a b c (rep 12 tT) (mC x L [])) = .nx (sg odd none (.ref 8) (.tup [.int 1, .int 1]) (.int 0) prime 21 (.d (.glo 33)) (.d (.ref 22))) (hh R a b c (rep 12 tT) (mC x L [.lst [.str (st [110, 117, 109, 98, 101, 114, 32, 91, 50, 93]), .str (st [110, 117, 109, 98, 101, 114, 32, 91, 50, 93]), .str (st [110, 117, 109, 98, 101, 114, 32, 40, 49, 44, 32, 49, 41]), .str (st [110, 117, 109, 98, 101, 114, 32, 48]), .str two]])) := by kernel_rfl
theorem c5_6_4_3 (R : List D) (a b c : Int) (odd none prime : D) (x : Str) (L : List D) : RUN 22 18 1 (sg odd none (.ref 8) (.tup [.int 1, .int 1]) (.str (st [50])) prime 21 (.d (.glo 33)) .no) (hh R a b c (rep 12 tT) (mC x L [])) = .nx (sg odd none (.ref 8) (.tup [.int 1, .int 1]) (.str (st [50])) prime 21 (.d (.glo 33)) (.d (.ref 22))) (hh R a b c (rep 12 tT) (mC x L [.lst [.str (st [110, 117, 109, 98, 101, 114, 32, 91, 50, 93]), .str (st [110, 117, 109, 98, 101, 114, 32, 91, 50, 93]), .str (st [110, 117, 109, 98, 101, 114, 32, 40, 49, 44, 32, 49, 41]), .str (st [110, 117, 109, 98, 101, 114, 32, 39, 50, 39]), .str two]])) := by kernel_rfl
theorem c5_6_4_4 (R : List D) (a b c : Int) (odd none prime : D) (x : Str) (L : List D) : RUN 22 18 1 (sg odd none (.ref 8) (.tup [.int 1, .int 1]) (.int (10 ^ 60)) prime 21 (.d (.glo 33)) .no) (hh R a b c (rep 12 tT) (mC x L [])) = .nx (sg odd none (.ref 8) (.tup [.int 1, .int 1]) (.int (10 ^ 60)) prime 21 (.d (.glo 33)) (.d (.ref 22))) (hh R a b c (rep 12 tT) (mC x L [.lst [.str (st [110, 117, 109, 98, 101, 114, 32, 91, 50, 93]), .str (st [110, 117, 109, 98, 101, 114, 32, 91, 50, 93]), .str (st [110, 117, 109, 98, 101, 114, 32, 40, 49, 44, 32, 49, 41]), .str (st [110, 117, 109, 98, 101, 114, 32, 49, 48, 48, 48, 48, 48, 48, 48, 48, 48, 48, 48, 48, 48, 48, 48, 48, 48, 48, 48, 48, 48, 48, 48, 48, 48, 48, 48, 48, 48, 48, 48, 48, 48, 48, 48, 48, 48, 48, 48, 48, 48, 48, 48, 48, 48, 48, 48, 48, 48, 48, 48, 48, 48, 48, 48, 48, 48, 48, 48, 48]), .str two]])) := by kernel_rfl
theorem c5_6_4_5 (R : List D) (a b c : Int) (odd none prime : D) (x : Str) (L : List D) : RUN 22 18 1 (sg odd none (.ref 8) (.tup [.int 1, .int 1]) (.tup [.int 2, .int 1]) prime 21 (.d (.glo 33)) .no) (hh R a b c (rep 12 tT) (mC x L [])) = .nx (sg odd none (.ref 8) (.tup [.int 1, .int 1]) (.tup [.int 2, .int 1]) prime 21 (.d (.glo 33)) (.d (.ref 22))) (hh R a b c (rep 12 tT) (mC x L [.lst [.str (st [110, 117, 109, 98, 101, 114, 32, 91, 50, 93]), .str (st [110, 117, 109, 98, 101, 114, 32, 91, 50, 93]), .str (st [110, 117, 109, 98, 101, 114, 32, 40, 49, 44, 32, 49, 41]), .str (st [110, 117, 109, 98, 101, 114, 32, 40, 50, 44, 32, 49, 41]), .str two]])) := by kernel_rfl
theorem c5_6_5_0 (R : List D) (a b c : Int) (odd none prime : D) (x : Str) (L : List D) : RUN 22 18 1 (sg odd none (.ref 8) (.ref 10) (.non) prime 21 (.d (.glo 33)) .no) (hh R a b c (rep 12 tT) (mC x L [])) = .nx (sg odd none (.ref 8) (.ref 10) (.non) prime 21 (.d (.glo 33)) (.d (.ref 22))) (hh R a b c (rep 12 tT) (mC x L [.lst [.str (st [110, 117, 109, 98, 101, 114, 32, 91, 50, 93]), .str (st [110, 117, 109, 98, 101, 114, 32, 91, 50, 93]), .str (st [110, 117, 109, 98, 101, 114, 32, 91, 49, 93]), .str (st [110, 117, 109, 98, 101, 114, 32, 78, 111, 110, 101]), .str two]])) := by kernel_rfl
theorem c5_6_5_1 (R : List D) (a b c : Int) (odd none prime : D) (x : Str) (L : List D) : RUN 22 18 1 (sg odd none (.ref 8) (.ref 10) (.bl false) prime 21 (.d (.glo 33)) .no) (hh R a b c (rep 12 tT) (mC x L [])) = .nx (sg odd none (.ref 8) (.ref 10) (.bl false) prime 21 (.d (.glo 33)) (.d (.ref 22))) (hh R a b c (rep 12 tT) (mC x L [.lst [.str (st [110, 117, 109, 98, 101, 114, 32, 91, 50, 93]), .str (st [110, 117, 109, 98, 101, 114, 32, 91, 50, 93]), .str (st [110, 117, 109, 98, 101, 114, 32, 91, 49, 93]), .str (st [110, 117, 109, 98, 101, 114, 32, 70, 97, 108, 115, 101]), .str two]])) := by kernel_rfl
theorem c5_6_5_2 (R : List D) (a b c : Int) (odd none prime : D) (x : Str) (L : List D) : RUN 22 18 1 (sg odd none (.ref 8) (.ref 10) (.int 0) prime 21 (.d (.glo 33)) .no) (hh R a b c (rep 12 tT) (mC x L [])) = .nx (sg odd none (.ref 8) (.ref 10) (.int 0) prime 21 (.d (.glo 33)) (.d (.ref 22))) (hh R a b c (rep 12 tT) (mC x L [.lst [.str (st [110, 117, 109, 98, 101, 114, 32, 91, 50, 93]), .str (st [110, 117, 109, 98, 101, 114, 32, 91, 50, 93]), .str (st [110, 117, 109, 98, 101, 114, 32, 91, 49, 93]), .str (st [110, 117, 109, 98, 101, 114, 32, 48]), .str two]])) := by kernel_rfl
theorem c5_6_5_3 (R : List D) (a b c : Int) (odd none prime : D) (x : Str) (L : List D) : RUN 22 18 1 (sg odd none (.ref 8) (.ref 10) (.str (st [50])) prime 21 (.d (.glo 33)) .no) (hh R a b c (rep 12 tT) (mC x L [])) = .nx (sg odd none (.ref 8) (.ref 10) (.str (st [50])) prime 21 (.d (.glo 33)) (.d (.ref 22))) (hh R a b c (rep 12 tT) (mC x L [.lst [.str (st [110, 117, 109, 98, 101, 114, 32, 91, 50, 93]), .str (st [110, 117, 109, 98, 101, 114, 32, 91, 50, 93]), .str (st [110, 117, 109, 98, 101, 114, 32, 91, 49, 93]), .str (st [110, 117, 109, 98, 101, 114, 32, 39, 50, 39]), .str two]])) := by kernel_rfl
theorem c5_6_5_4 (R : List D) (a b c : Int) (odd none prime : D) (x : Str) (L : List D) : RUN 22 18 1 (sg odd none (.ref 8) (.ref 10) (.int (10 ^ 60)) prime 21 (.d (.glo 33)) .no) (hh R a b c (rep 12 tT) (mC x L [])) = .nx (sg odd none (.ref 8) (.ref 10) (.int (10 ^ 60)) prime 21 (.d (.glo 33)) (.d (.ref 22))) (hh R a b c (rep 12 tT) (mC x L [.lst [.str (st [110, 117, 109, 98, 101, 114, 32, 91, 50, 93]), .str (st [110, 117, 109, 98, 101, 114, 32, 91, 50, 93]), .str (st [110, 117, 109, 98, 101, 114, 32, 91, 49, 93]), .str (st [110, 117, 109, 98, 101, 114, 32, 49, 48, 48, 48, 48, 48, 48, 48, 48, 48, 48, 48, 48, 48, 48, 48, 48, 48, 48, 48, 48, 48, 48, 48, 48, 48, 48, 48, 48, 48, 48, 48, 48, 48, 48, 48, 48, 48, 48, 48, 48, 48, 48, 48, 48, 48, 48, 48, 48, 48, 48, 48, 48, 48, 48, 48, 48, 48, 48, 48, 48]), .str two]])) := by kernel_rfl
theorem c5_6_5_5 (R : List D) (a b c : Int) (odd none prime : D) (x : Str) (L : List D) : RUN 22 18 1 (sg odd none (.ref 8) (.ref 10) (.tup [.int 2, .int 1]) prime 21 (.d (.glo 33)) .no) (hh R a b c (rep 12 tT) (mC x L [])) = .nx (sg odd none (.ref 8) (.ref 10) (.tup [.int 2, .int 1]) prime 21 (.d (.glo 33)) (.d (.ref 22))) (hh R a b c (rep 12 tT) (mC x L [.lst [.str (st [110, 117, 109, 98, 101, 114, 32, 91, 50, 93]), .str (st [110, 117, 109, 98, 101, 114, 32, 91, 50, 93]), .str (st [110, 117, 109, 98, 101, 114, 32, 91, 49, 93]), .str (st [110, 117, 109, 98, 101, 114, 32, 40, 50, 44, 32, 49, 41]), .str two]])) := by kernel_rfl
theorem c5_7_0_0 (R : List D) (a b c : Int) (odd none prime : D) (x : Str) (L : List D) : RUN 22 18 1 (sg odd none (.int (10 ^ 60)) (.non) (.non) prime 21 (.d (.glo 33)) .no) (hh R a b c (rep 12 tT) (mC x L [])) = .nx (sg odd none (.int (10 ^ 60)) (.non) (.non) prime 21 (.d (.glo 33)) (.d (.ref 22))) (hh R a b c (rep 12 tT) (mC x L [.lst [.str (st [110, 117, 109, 98, 101, 114, 32, 49, 48, 48, 48, 48, 48, 48, 48, 48, 48, 48, 48, 48, 48, 48, 48, 48, 48, 48, 48, 48, 48, 48, 48, 48, 48, 48, 48, 48, 48, 48, 48, 48, 48, 48, 48, 48, 48, 48, 48, 48, 48, 48, 48, 48, 48, 48, 48, 48, 48, 48, 48, 48, 48, 48, 48, 48, 48, 48, 48, 48]), .str (st [110, 117, 109, 98, 101, 114, 32, 49, 48, 48, 48, 48, 48, 48, 48, 48, 48, 48, 48, 48, 48, 48, 48, 48, 48, 48, 48, 48, 48, 48, 48, 48, 48, 48, 48, 48, 48, 48, 48, 48, 48, 48, 48, 48, 48, 48, 48, 48, 48, 48, 48, 48, 48, 48, 48, 48, 48, 48, 48, 48, 48, 48, 48, 48, 48, 48, 48, 48]), .str (st [110, 117, 109, 98, 101, 114, 32, 78, 111, 110, 101]), .str (st [110, 117, 109, 98, 101, 114, 32, 78, 111, 110, 101]), .str two]])) := by kernel_rfl
theorem c5_7_0_1 (R : List D) (a b c : Int) (odd none prime : D) (x : Str) (L : List D) : RUN 22 18 1 (sg odd none (.int (10 ^ 60)) (.non) (.bl false) prime 21 (.d (.glo 33)) .no) (hh R a b c (rep 12 tT) (mC x L [])) = .nx (sg odd none (.int (10 ^ 60)) (.non) (.bl false) prime 21 (.d (.glo 33)) (.d (.ref 22))) (hh R a b c (rep 12 tT) (mC x L [.lst [.str (st [110, 117, 109, 98, 101, 114, 32, 49, 48, 48, 48, 48, 48, 48, 48, 48, 48, 48, 48, 48, 48, 48, 48, 48, 48, 48, 48, 48, 48, 48, 48, 48, 48, 48, 48, 48, 48, 48, 48, 48, 48, 48, 48, 48, 48, 48, 48, 48, 48, 48, 48, 48, 48, 48, 48, 48, 48, 48, 48, 48, 48, 48, 48, 48, 48, 48, 48, 48]), .str (st [110, 117, 109, 98, 101, 114, 32, 49, 48, 48, 48, 48, 48, 48, 48, 48, 48, 48, 48, 48, 48, 48, 48, 48, 48, 48, 48, 48, 48, 48, 48, 48, 48, 48, 48, 48, 48, 48, 48, 48, 48, 48, 48, 48, 48, 48, 48, 48, 48, 48, 48, 48, 48, 48, 48, 48, 48, 48, 48, 48, 48, 48, 48, 48, 48, 48, 48, 48]), .str (st [110, 117, 109, 98, 101, 114, 32, 78, 111, 110, 101]), .str (st [110, 117, 109, 98, 101, 114, 32, 70, 97, 108, 115, 101]), .str two]])) := by kernel_rfl
theorem c5_7_0_2 (R : List D) (a b c : Int) (odd none prime : D) (x : Str) (L : List D) : RUN 22 18 1 (sg odd none (.int (10 ^ 60)) (.non) (.int 0) prime 21 (.d (.glo 33)) .no) (hh R a b c (rep 12 tT) (mC x L [])) = .nx (sg odd none (.int (10 ^ 60)) (.non) (.int 0) prime 21 (.d (.glo 33)) (.d (.ref 22))) (hh R a b c (rep 12 tT) (mC x L [.lst [.str (st [110, 117, 109, 98, 101, 114, 32, 49, 48, 48, 48, 48, 48, 48, 48, 48, 48, 48, 48, 48, 48, 48, 48, 48, 48, 48, 48, 48, 48, 48, 48, 48, 48, 48, 48, 48, 48, 48, 48, 48, 48, 48, 48, 48, 48, 48, 48, 48, 48, 48, 48, 48, 48, 48, 48, 48, 48, 48, 48, 48, 48, 48, 48, 48, 48, 48, 48, 48]), .str (st [110, 117, 109, 98, 101, 114, 32, 49, 48, 48, 48, 48, 48, 48, 48, 48, 48, 48, 48, 48, 48, 48, 48, 48, 48, 48, 48, 48, 48, 48, 48, 48, 48, 48, 48, 48, 48, 48, 48, 48, 48, 48, 48, 48, 48, 48, 48, 48, 48, 48, 48, 48, 48, 48, 48, 48, 48, 48, 48, 48, 48, 48, 48, 48, 48, 48, 48, 48]), .str (st [110, 117, 109, 98, 101, 114, 32, 78, 111, 110, 101]), .str (st [110, 117, 109, 98, 101, 114, 32, 48]), .str two]])) := by kernel_rfl
theorem c5_7_0_3 (R : List D) (a b c : Int) (odd none prime : D) (x : Str) (L : List D) : RUN 22 18 1 (sg odd none (.int (10 ^ 60)) (.non) (.str (st [50])) prime 21 (.d (.glo 33)) .no) (hh R a b c (rep 12 tT) (mC x L [])) = .nx (sg odd none (.int (10 ^ 60)) (.non) (.str (st [50])) prime 21 (.d (.glo 33)) (.d (.ref 22))) (hh R a b c (rep 12 tT) (mC x L [.lst [.str (st [110, 117, 109, 98, 101, 114, 32, 49, 48, 48, 48, 48, 48, 48, 48, 48, 48, 48, 48, 48, 48, 48, 48, 48, 48, 48, 48, 48, 48, 48, 48, 48, 48, 48, 48, 48, 48, 48, 48, 48, 48, 48, 48, 48, 48, 48, 48, 48, 48, 48, 48, 48, 48, 48, 48, 48, 48, 48, 48, 48, 48, 48, 48, 48, 48, 48, 48, 48]), .str (st [110, 117, 109, 98, 101, 114, 32, 49, 48, 48, 48, 48, 48, 48, 48, 48, 48, 48, 48, 48, 48, 48, 48, 48, 48, 48, 48, 48, 48, 48, 48, 48, 48, 48, 48, 48, 48, 48, 48, 48, 48, 48, 48, 48, 48, 48, 48, 48, 48, 48, 48, 48, 48, 48, 48, 48, 48, 48, 48, 48, 48, 48, 48, 48, 48, 48, 48, 48]), .str (st [110, 117, 109, 98, 101, 114, 32, 78, 111, 110, 101]), .str (st [110, 117, 109, 98, 101, 114, 32, 39, 50, 39]), .str two]])) := by kernel_rfl
theorem c5_7_0_4 (R : List D) (a b c : Int) (odd none prime : D) (x : Str) (L : List D) : RUN 22 18 1 (sg odd none (.int (10 ^ 60)) (.non) (.int (10 ^ 60)) prime 21 (.d (.glo 33)) .no) (hh R a b c (rep 12 tT) (mC x L [])) = .nx (sg odd none (.int (10 ^ 60)) (.non) (.int (10 ^ 60)) prime 21 (.d (.glo 33)) (.d (.ref 22))) (hh R a b c (rep 12 tT) (mC x L [.lst [.str (st [110, 117, 109, 98, 101, 114, 32, 49, 48, 48, 48, 48, 48, 48, 48, 48, 48, 48, 48, 48, 48, 48, 48, 48, 48, 48, 48, 48, 48, 48, 48, 48, 48, 48, 48, 48, 48, 48, 48, 48, 48, 48, 48, 48, 48, 48, 48, 48, 48, 48, 48, 48, 48, 48, 48, 48, 48, 48, 48, 48, 48, 48, 48, 48, 48, 48, 48, 48]), .str (st [110, 117, 109, 98, 101, 114, 32, 49, 48, 48, 48, 48, 48, 48, 48, 48, 48, 48, 48, 48, 48, 48, 48, 48, 48, 48, 48, 48, 48, 48, 48, 48, 48, 48, 48, 48, 48, 48, 48, 48, 48, 48, 48, 48, 48, 48, 48, 48, 48, 48, 48, 48, 48, 48, 48, 48, 48, 48, 48, 48, 48, 48, 48, 48, 48, 48, 48, 48]), .str (st [110, 117, 109, 98, 101, 114, 32, 78, 111, 110, 101]), .str (st [110, 117, 109, 98, 101, 114, 32, 49, 48, 48, 48, 48, 48, 48, 48, 48, 48, 48, 48, 48, 48, 48, 48, 48, 48, 48, 48, 48, 48, 48, 48, 48, 48, 48, 48, 48, 48, 48, 48, 48, 48, 48, 48, 48, 48, 48, 48, 48, 48, 48, 48, 48, 48, 48, 48, 48, 48, 48, 48, 48, 48, 48, 48, 48, 48, 48, 48, 48]), .str two]])) := by kernel_rfl
theorem c5_7_0_5 (R : List D) (a b c : Int) (odd none prime : D) (x : Str) (L : List D) : RUN 22 18 1 (sg odd none (.int (10 ^ 60)) (.non) (.tup [.int 2, .int 1]) prime 21 (.d (.glo 33)) .no) (hh R a b c (rep 12 tT) (mC x L [])) = .nx (sg odd none (.int (10 ^ 60)) (.non) (.tup [.int 2, .int 1]) prime 21 (.d (.glo 33)) (.d (.ref 22))) (hh R a b c (rep 12 tT) (mC x L [.lst [.str (st [110, 117, 109, 98, 101, 114, 32, 49, 48, 48, 48, 48, 48, 48, 48, 48, 48, 48, 48, 48, 48, 48, 48, 48, 48, 48, 48, 48, 48, 48, 48, 48, 48, 48, 48, 48, 48, 48, 48, 48, 48, 48, 48, 48, 48, 48, 48, 48, 48, 48, 48, 48, 48, 48, 48, 48, 48, 48, 48, 48, 48, 48, 48, 48, 48, 48, 48, 48]), .str (st [110, 117, 109, 98, 101, 114, 32, 49, 48, 48, 48, 48, 48, 48, 48, 48, 48, 48, 48, 48, 48, 48, 48, 48, 48, 48, 48, 48, 48, 48, 48, 48, 48, 48, 48, 48, 48, 48, 48, 48, 48, 48, 48, 48, 48, 48, 48, 48, 48, 48, 48, 48, 48, 48, 48, 48, 48, 48, 48, 48, 48, 48, 48, 48, 48, 48, 48, 48]), .str (st [110, 117, 109, 98, 101, 114, 32, 78, 111, 110, 101]), .str (st [110, 117, 109, 98, 101, 114, 32, 40, 50, 44, 32, 49, 41]), .str two]])) := by kernel_rfl
theorem c5_7_1_0 (R : List D) (a b c : Int) (odd none prime : D) (x : Str) (L : List D) : RUN 22 18 1 (sg odd none (.int (10 ^ 60)) (.bl true) (.non) prime 21 (.d (.glo 33)) .no) (hh R a b c (rep 12 tT) (mC x L [])) = .nx (sg odd none (.int (10 ^ 60)) (.bl true) (.non) prime 21 (.d (.glo 33)) (.d (.ref 22))) (hh R a b c (rep 12 tT) (mC x L [.lst [.str (st [110, 117, 109, 98, 101, 114, 32, 49, 48, 48, 48, 48, 48, 48, 48, 48, 48, 48, 48, 48, 48, 48, 48, 48, 48, 48, 48, 48, 48, 48, 48, 48, 48, 48, 48, 48, 48, 48, 48, 48, 48, 48, 48, 48, 48, 48, 48, 48, 48, 48, 48, 48, 48, 48, 48, 48, 48, 48, 48, 48, 48, 48, 48, 48, 48, 48, 48, 48]), .str (st [110, 117, 109, 98, 101, 114, 32, 49, 48, 48, 48, 48, 48, 48, 48, 48, 48, 48, 48, 48, 48, 48, 48, 48, 48, 48, 48, 48, 48, 48, 48, 48, 48, 48, 48, 48, 48, 48, 48, 48, 48, 48, 48, 48, 48, 48, 48, 48, 48, 48, 48, 48, 48, 48, 48, 48, 48, 48, 48, 48, 48, 48, 48, 48, 48, 48, 48, 48]), .str (st [110, 117, 109, 98, 101, 114, 32, 84, 114, 117, 101]), .str (st [110, 117, 109, 98, 101, 114, 32, 78, 111, 110, 101]), .str two]])) := by kernel_rfl
theorem c5_7_1_1 (R : List D) (a b c : Int) (odd none prime : D) (x : Str) (L : List D) : RUN 22 18 1 (sg odd none (.int (10 ^ 60)) (.bl true) (.bl false) prime 21 (.d (.glo 33)) .no) (hh R a b c (rep 12 tT) (mC x L [])) = .nx (sg odd none (.int (10 ^ 60)) (.bl true) (.bl false) prime 21 (.d (.glo 33)) (.d (.ref 22))) (hh R a b c (rep 12 tT) (mC x L [.lst [.str (st [110, 117, 109, 98, 101, 114, 32, 49, 48, 48, 48, 48, 48, 48, 48, 48, 48, 48, 48, 48, 48, 48, 48, 48, 48, 48, 48, 48, 48, 48, 48, 48, 48, 48, 48, 48, 48, 48, 48, 48, 48, 48, 48, 48, 48, 48, 48, 48, 48, 48, 48, 48, 48, 48, 48, 48, 48, 48, 48, 48, 48, 48, 48, 48, 48, 48, 48, 48]), .str (st [110, 117, 109, 98, 101, 114, 32, 49, 48, 48, 48, 48, 48, 48, 48, 48, 48, 48, 48, 48, 48, 48, 48, 48, 48, 48, 48, 48, 48, 48, 48, 48, 48, 48, 48, 48, 48, 48, 48, 48, 48, 48, 48, 48, 48, 48, 48, 48, 48, 48, 48, 48, 48, 48, 48, 48, 48, 48, 48, 48, 48, 48, 48, 48, 48, 48, 48, 48]), .str (st [110, 117, 109, 98, 101, 114, 32, 84, 114, 117, 101]), .str (st [110, 117, 109, 98, 101, 114, 32, 70, 97, 108, 115, 101]), .str two]])) := by kernel_rfl
theorem c5_7_1_2 (R : List D) (a b c : Int) (odd none prime : D) (x : Str) (L : List D) : RUN 22 18 1 (sg odd none (.int (10 ^ 60)) (.bl true) (.int 0) prime 21 (.d (.glo 33)) .no) (hh R a b c (rep 12 tT) (mC x L [])) = .nx (sg odd none (.int (10 ^ 60)) (.bl true) (.int 0) prime 21 (.d (.glo 33)) (.d (.ref 22))) (hh R a b c (rep 12 tT) (mC x L [.lst [.str (st [110, 117, 109, 98, 101, 114, 32, 49, 48, 48, 48, 48, 48, 48, 48, 48, 48, 48, 48, 48, 48, 48, 48, 48, 48, 48, 48, 48, 48, 48, 48, 48, 48, 48, 48, 48, 48, 48, 48, 48, 48, 48, 48, 48, 48, 48, 48, 48, 48, 48, 48, 48, 48, 48, 48, 48, 48, 48, 48, 48, 48, 48, 48, 48, 48, 48, 48, 48]), .str (st [110, 117, 109, 98, 101, 114, 32, 49, 48, 48, 48, 48, 48, 48, 48, 48, 48, 48, 48, 48, 48, 48, 48, 48, 48, 48, 48, 48, 48, 48, 48, 48, 48, 48, 48, 48, 48, 48, 48, 48, 48, 48, 48, 48, 48, 48, 48, 48, 48, 48, 48, 48, 48, 48, 48, 48, 48, 48, 48, 48, 48, 48, 48, 48, 48, 48, 48, 48]), .str (st [110, 117, 109, 98, 101, 114, 32, 84, 114, 117, 101]), .str (st [110, 117, 109, 98, 101, 114, 32, 48]), .str two]])) := by kernel_rfl
theorem c5_7_1_3 (R : List D) (a b c : Int) (odd none prime : D) (x : Str) (L : List D) : RUN 22 18 1 (sg odd none (.int (10 ^ 60)) (.bl true) (.str (st [50])) prime 21 (.d (.glo 33)) .no) (hh R a b c (rep 12 tT) (mC x L [])) = .nx (sg odd none (.int (10 ^ 60)) (.bl true) (.str (st [50])) prime 21 (.d (.glo 33)) (.d (.ref 22))) (hh R a b c (rep 12 tT) (mC x L [.lst [.str (st [110, 117, 109, 98, 101, 114, 32, 49, 48, 48, 48, 48, 48, 48, 48, 48, 48, 48, 48, 48, 48, 48, 48, 48, 48, 48, 48, 48, 48, 48, 48, 48, 48, 48, 48, 48, 48, 48, 48, 48, 48, 48, 48, 48, 48, 48, 48, 48, 48, 48, 48, 48, 48, 48, 48, 48, 48, 48, 48, 48, 48, 48, 48, 48, 48, 48, 48, 48]), .str (st [110, 117, 109, 98, 101, 114, 32, 49, 48, 48, 48, 48, 48, 48, 48, 48, 48, 48, 48, 48, 48, 48, 48, 48, 48, 48, 48, 48, 48, 48, 48, 48, 48, 48, 48, 48, 48, 48, 48, 48, 48, 48, 48, 48, 48, 48, 48, 48, 48, 48, 48, 48, 48, 48, 48, 48, 48, 48, 48, 48, 48, 48, 48, 48, 48, 48, 48, 48]), .str (st [110, 117, 109, 98, 101, 114, 32, 84, 114, 117, 101]), .str (st [110, 117, 109, 98, 101, 114, 32, 39, 50, 39]), .str two]])) := by kernel_rfl
theorem c5_7_1_4 (R : List D) (a b c : Int) (odd none prime : D) (x : Str) (L : List D) : RUN 22 18 1 (sg odd none (.int (10 ^ 60)) (.bl true) (.int (10 ^ 60)) prime 21 (.d (.glo 33)) .no) (hh R a b c (rep 12 tT) (mC x L [])) = .nx (sg odd none (.int (10 ^ 60)) (.bl true) (.int (10 ^ 60)) prime 21 (.d (.glo 33)) (.d (.ref 22))) (hh R a b c (rep 12 tT) (mC x L [.lst [.str (st [110, 117, 109, 98, 101, 114, 32, 49, 48, 48, 48, 48, 48, 48, 48, 48, 48, 48, 48, 48, 48, 48, 48, 48, 48, 48, 48, 48, 48, 48, 48, 48, 48, 48, 48, 48, 48, 48, 48, 48, 48, 48, 48, 48, 48, 48, 48, 48, 48, 48, 48, 48, 48, 48, 48, 48, 48, 48, 48, 48, 48, 48, 48, 48, 48, 48, 48, 48]), .str (st [110, 117, 109, 98, 101, 114, 32, 49, 48, 48, 48, 48, 48, 48, 48, 48, 48, 48, 48, 48, 48, 48, 48, 48, 48, 48, 48, 48, 48, 48, 48, 48, 48, 48, 48, 48, 48, 48, 48, 48, 48, 48, 48, 48, 48, 48, 48, 48, 48, 48, 48, 48, 48, 48, 48, 48, 48, 48, 48, 48, 48, 48, 48, 48, 48, 48, 48, 48]), .str (st [110, 117, 109, 98, 101, 114, 32, 84, 114, 117, 101]), .str (st [110, 117, 109, 98, 101, 114, 32, 49, 48, 48, 48, 48, 48, 48, 48, 48, 48, 48, 48, 48, 48, 48, 48, 48, 48, 48, 48, 48, 48, 48, 48, 48, 48, 48, 48, 48, 48, 48, 48, 48, 48, 48, 48, 48, 48, 48, 48, 48, 48, 48, 48, 48, 48, 48, 48, 48, 48, 48, 48, 48, 48, 48, 48, 48, 48, 48, 48, 48]), .str two]])) := by kernel_rfl
theorem c5_7_1_5 (R : List D) (a b c : Int) (odd none prime : D) (x : Str) (L : List D) : RUN 22 18 1 (sg odd none (.int (10 ^ 60)) (.bl true) (.tup [.int 2, .int 1]) prime 21 (.d (.glo 33)) .no) (hh R a b c (rep 12 tT) (mC x L [])) = .nx (sg odd none (.int (10 ^ 60)) (.bl true) (.tup [.int 2, .int 1]) prime 21 (.d (.glo 33)) (.d (.ref 22))) (hh R a b c (rep 12 tT) (mC x L [.lst [.str (st [110, 117, 109, 98, 101, 114, 32, 49, 48, 48, 48, 48, 48, 48, 48, 48, 48, 48, 48, 48, 48, 48, 48, 48, 48, 48, 48, 48, 48, 48, 48, 48, 48, 48, 48, 48, 48, 48, 48, 48, 48, 48, 48, 48, 48, 48, 48, 48, 48, 48, 48, 48, 48, 48, 48, 48, 48, 48, 48, 48, 48, 48, 48, 48, 48, 48, 48, 48]), .str (st [110, 117, 109, 98, 101, 114, 32, 49, 48, 48, 48, 48, 48, 48, 48, 48, 48, 48, 48, 48, 48, 48, 48, 48, 48, 48, 48, 48, 48, 48, 48, 48, 48, 48, 48, 48, 48, 48, 48, 48, 48, 48, 48, 48, 48, 48, 48, 48, 48, 48, 48, 48, 48, 48, 48, 48, 48, 48, 48, 48, 48, 48, 48, 48, 48, 48, 48, 48]), .str (st [110, 117, 109, 98, 101, 114, 32, 84, 114, 117, 101]), .str (st [110, 117, 109, 98, 101, 114, 32, 40, 50, 44, 32, 49, 41]), .str two]])) := by kernel_rfl
theorem c5_7_2_0 (R : List D) (a b c : Int) (odd none prime : D) (x : Str) (L : List D) : RUN 22 18 1 (sg odd none (.int (10 ^ 60)) (.str (st [49])) (.non) prime 21 (.d (.glo 33)) .no) (hh R a b c (rep 12 tT) (mC x L [])) = .nx (sg odd none (.int (10 ^ 60)) (.str (st [49])) (.non) prime 21 (.d (.glo 33)) (.d (.ref 22))) (hh R a b c (rep 12 tT) (mC x L [.lst [.str (st [110, 117, 109, 98, 101, 114, 32, 49, 48, 48, 48, 48, 48, 48, 48, 48, 48, 48, 48, 48, 48, 48, 48, 48, 48, 48, 48, 48, 48, 48, 48, 48, 48, 48, 48, 48, 48, 48, 48, 48, 48, 48, 48, 48, 48, 48, 48, 48, 48, 48, 48, 48, 48, 48, 48, 48, 48, 48, 48, 48, 48, 48, 48, 48, 48, 48, 48, 48]), .str (st [110, 117, 109, 98, 101, 114, 32, 49, 48, 48, 48, 48, 48, 48, 48, 48, 48, 48, 48, 48, 48, 48, 48, 48, 48, 48, 48, 48, 48, 48, 48, 48, 48, 48, 48, 48, 48, 48, 48, 48, 48, 48, 48, 48, 48, 48, 48, 48, 48, 48, 48, 48, 48, 48, 48, 48, 48, 48, 48, 48, 48, 48, 48, 48, 48, 48, 48, 48]), .str (st [110, 117, 109, 98, 101, 114, 32, 39, 49, 39]), .str (st [110, 117, 109, 98, 101, 114, 32, 78, 111, 110, 101]), .str two]])) := by kernel_rfl
theorem c5_7_2_1 (R : List D) (a b c : Int) (odd none prime : D) (x : Str) (L : List D) : RUN 22 18 1 (sg odd none (.int (10 ^ 60)) (.str (st [49])) (.bl false) prime 21 (.d (.glo 33)) .no) (hh R a b c (rep 12 tT) (mC x L [])) = .nx (sg odd none (.int (10 ^ 60)) (.str (st [49])) (.bl false) prime 21 (.d (.glo 33)) (.d (.ref 22))) (hh R a b c (rep 12 tT) (mC x L [.lst [.str (st [110, 117, 109, 98, 101, 114, 32, 49, 48, 48, 48, 48, 48, 48, 48, 48, 48, 48, 48, 48, 48, 48, 48, 48, 48, 48, 48, 48, 48, 48, 48, 48, 48, 48, 48, 48, 48, 48, 48, 48, 48, 48, 48, 48, 48, 48, 48, 48, 48, 48, 48, 48, 48, 48, 48, 48, 48, 48, 48, 48, 48, 48, 48, 48, 48, 48, 48, 48]), .str (st [110, 117, 109, 98, 101, 114, 32, 49, 48, 48, 48, 48, 48, 48, 48, 48, 48, 48, 48, 48, 48, 48, 48, 48, 48, 48, 48, 48, 48, 48, 48, 48, 48, 48, 48, 48, 48, 48, 48, 48, 48, 48, 48, 48, 48, 48, 48, 48, 48, 48, 48, 48, 48, 48, 48, 48, 48, 48, 48, 48, 48, 48, 48, 48, 48, 48, 48, 48]), .str (st [110, 117, 109, 98, 101, 114, 32, 39, 49, 39]), .str (st [110, 117, 109, 98, 101, 114, 32, 70, 97, 108, 115, 101]), .str two]])) := by kernel_rfl
theorem c5_7_2_2 (R : List D) (a b c : Int) (odd none prime : D) (x : Str) (L : List D) : RUN 22 18 1 (sg odd none (.int (10 ^ 60)) (.str (st [49])) (.int 0) prime 21 (.d (.glo 33)) .no) (hh R a b c (rep 12 tT) (mC x L [])) = .nx (sg odd none (.int (10 ^ 60)) (.str (st [49])) (.int 0) prime 21 (.d (.glo 33)) (.d (.ref 22))) (hh R a b c (rep 12 tT) (mC x L [.lst [.str (st [110, 117, 109, 98, 101, 114, 32, 49, 48, 48, 48, 48, 48, 48, 48, 48, 48, 48, 48, 48, 48, 48, 48, 48, 48, 48, 48, 48, 48, 48, 48, 48, 48, 48, 48, 48, 48, 48, 48, 48, 48, 48, 48, 48, 48, 48, 48, 48, 48, 48, 48, 48, 48, 48, 48, 48, 48, 48, 48, 48, 48, 48, 48, 48, 48, 48, 48, 48]), .str (st [110, 117, 109, 98, 101, 114, 32, 49, 48, 48, 48, 48, 48, 48, 48, 48, 48, 48, 48, 48, 48, 48, 48, 48, 48, 48, 48, 48, 48, 48, 48, 48, 48, 48, 48, 48, 48, 48, 48, 48, 48, 48, 48, 48, 48, 48, 48, 48, 48, 48, 48, 48, 48, 48, 48, 48, 48, 48, 48, 48, 48, 48, 48, 48, 48, 48, 48, 48]), .str (st [110, 117, 109, 98, 101, 114, 32, 39, 49, 39]), .str (st [110, 117, 109, 98, 101, 114, 32, 48]), .str two]])) := by kernel_rfl
theorem c5_7_2_3 (R : List D) (a b c : Int) (odd none prime : D) (x : Str) (L : List D) : RUN 22 18 1 (sg odd none (.int (10 ^ 60)) (.str (st [49])) (.str (st [50])) prime 21 (.d (.glo 33)) .no) (hh R a b c (rep 12 tT) (mC x L [])) = .nx (sg odd none (.int (10 ^ 60)) (.str (st [49])) (.str (st [50])) prime 21 (.d (.glo 33)) (.d (.ref 22))) (hh R a b c (rep 12 tT) (mC x L [.lst [.str (st [110, 117, 109, 98, 101, 114, 32, 49, 48, 48, 48, 48, 48, 48, 48, 48, 48, 48, 48, 48, 48, 48, 48, 48, 48, 48, 48, 48, 48, 48, 48, 48, 48, 48, 48, 48, 48, 48, 48, 48, 48, 48, 48, 48, 48, 48, 48, 48, 48, 48, 48, 48, 48, 48, 48, 48, 48, 48, 48, 48, 48, 48, 48, 48, 48, 48, 48, 48]), .str (st [110, 117, 109, 98, 101, 114, 32, 49, 48, 48, 48, 48, 48, 48, 48, 48, 48, 48, 48, 48, 48, 48, 48, 48, 48, 48, 48, 48, 48, 48, 48, 48, 48, 48, 48, 48, 48, 48, 48, 48, 48, 48, 48, 48, 48, 48, 48, 48, 48, 48, 48, 48, 48, 48, 48, 48, 48, 48, 48, 48, 48, 48, 48, 48, 48, 48, 48, 48]), .str (st [110, 117, 109, 98, 101, 114, 32, 39, 49, 39]), .str (st [110, 117, 109, 98, 101, 114, 32, 39, 50, 39]), .str two]])) := by kernel_rfl
theorem c5_7_2_4 (R : List D) (a b c : Int) (odd none prime : D) (x : Str) (L : List D) : RUN 22 18 1 (sg odd none (.int (10 ^ 60)) (.str (st [49])) (.int (10 ^ 60)) prime 21 (.d (.glo 33)) .no) (hh R a b c (rep 12 tT) (mC x L [])) = .nx (sg odd none (.int (10 ^ 60)) (.str (st [49])) (.int (10 ^ 60)) prime 21 (.d (.glo 33)) (.d (.ref 22))) (hh R a b c (rep 12 tT) (mC x L [.lst [.str (st [110, 117, 109, 98, 101, 114, 32, 49, 48, 48, 48, 48, 48, 48, 48, 48, 48, 48, 48, 48, 48, 48, 48, 48, 48, 48, 48, 48, 48, 48, 48, 48, 48, 48, 48, 48, 48, 48, 48, 48, 48, 48, 48, 48, 48, 48, 48, 48, 48, 48, 48, 48, 48, 48, 48, 48, 48, 48, 48, 48, 48, 48, 48, 48, 48, 48, 48, 48]), .str (st [110, 117, 109, 98, 101, 114, 32, 49, 48, 48, 48, 48, 48, 48, 48, 48, 48, 48, 48, 48, 48, 48, 48, 48, 48, 48, 48, 48, 48, 48, 48, 48, 48, 48, 48, 48, 48, 48, 48, 48, 48, 48, 48, 48, 48, 48, 48, 48, 48, 48, 48, 48, 48, 48, 48, 48, 48, 48, 48, 48, 48, 48, 48, 48, 48, 48, 48, 48]), .str (st [110, 117, 109, 98, 101, 114, 32, 39, 49, 39]), .str (st [110, 117, 109, 98, 101, 114, 32, 49, 48, 48, 48, 48, 48, 48, 48, 48, 48, 48, 48, 48, 48, 48, 48, 48, 48, 48, 48, 48, 48, 48, 48, 48, 48, 48, 48, 48, 48, 48, 48, 48, 48, 48, 48, 48, 48, 48, 48, 48, 48, 48, 48, 48, 48, 48, 48, 48, 48, 48, 48, 48, 48, 48, 48, 48, 48, 48, 48, 48]), .str two]])) := by kernel_rfl
theorem c5_7_2_5 (R : List D) (a b c : Int) (odd none prime : D) (x : Str) (L : List D) : RUN 22 18 1 (sg odd none (.int (10 ^ 60)) (.str (st [49])) (.tup [.int 2, .int 1]) prime 21 (.d (.glo 33)) .no) (hh R a b c (rep 12 tT) (mC x L [])) = .nx (sg odd none (.int (10 ^ 60)) (.str (st [49])) (.tup [.int 2, .int 1]) prime 21 (.d (.glo 33)) (.d (.ref 22))) (hh R a b c (rep 12 tT) (mC x L [.lst [.str (st [110, 117, 109, 98, 101, 114, 32, 49, 48, 48, 48, 48, 48, 48, 48, 48, 48, 48, 48, 48, 48, 48, 48, 48, 48, 48, 48, 48, 48, 48, 48, 48, 48, 48, 48, 48, 48, 48, 48, 48, 48, 48, 48, 48, 48, 48, 48, 48, 48, 48, 48, 48, 48, 48, 48, 48, 48, 48, 48, 48, 48, 48, 48, 48, 48, 48, 48, 48]), .str (st [110, 117, 109, 98, 101, 114, 32, 49, 48, 48, 48, 48, 48, 48, 48, 48, 48, 48, 48, 48, 48, 48, 48, 48, 48, 48, 48, 48, 48, 48, 48, 48, 48, 48, 48, 48, 48, 48, 48, 48, 48, 48, 48, 48, 48, 48, 48, 48, 48, 48, 48, 48, 48, 48, 48, 48, 48, 48, 48, 48, 48, 48, 48, 48, 48, 48, 48, 48]), .str (st [110, 117, 109, 98, 101, 114, 32, 39, 49, 39]), .str (st [110, 117, 109, 98, 101, 114, 32, 40, 50, 44, 32, 49, 41]), .str two]])) := by kernel_rfl
theorem c5_7_3_0 (R : List D) (a b c : Int) (odd none prime : D) (x : Str) (L : List D) : RUN 22 18 1 (sg odd none (.int (10 ^ 60)) (.int (10 ^ 60)) (.non) prime 21 (.d (.glo 33)) .no) (hh R a b c (rep 12 tT) (mC x L [])) = .nx (sg odd none (.int (10 ^ 60)) (.int (10 ^ 60)) (.non) prime 21 (.d (.glo 33)) (.d (.ref 22))) (hh R a b c (rep 12 tT) (mC x L [.lst [.str (st [110, 117, 109, 98, 101, 114, 32, 49, 48, 48, 48, 48, 48, 48, 48, 48, 48, 48, 48, 48, 48, 48, 48, 48, 48, 48, 48, 48, 48, 48, 48, 48, 48, 48, 48, 48, 48, 48, 48, 48, 48, 48, 48, 48, 48, 48, 48, 48, 48, 48, 48, 48, 48, 48, 48, 48, 48, 48, 48, 48, 48, 48, 48, 48, 48, 48, 48, 48]), .str (st [110, 117, 109, 98, 101, 114, 32, 49, 48, 48, 48, 48, 48, 48, 48, 48, 48, 48, 48, 48, 48, 48, 48, 48, 48, 48, 48, 48, 48, 48, 48, 48, 48, 48, 48, 48, 48, 48, 48, 48, 48, 48, 48, 48, 48, 48, 48, 48, 48, 48, 48, 48, 48, 48, 48, 48, 48, 48, 48, 48, 48, 48, 48, 48, 48, 48, 48, 48]), .str (st [110, 117, 109, 98, 101, 114, 32, 49, 48, 48, 48, 48, 48, 48, 48, 48, 48, 48, 48, 48, 48, 48, 48, 48, 48, 48, 48, 48, 48, 48, 48, 48, 48, 48, 48, 48, 48, 48, 48, 48, 48, 48, 48, 48, 48, 48, 48, 48, 48, 48, 48, 48, 48, 48, 48, 48, 48, 48, 48, 48, 48, 48, 48, 48, 48, 48, 48, 48]), .str (st [110, 117, 109, 98, 101, 114, 32, 78, 111, 110, 101]), .str two]])) := by kernel_rfl
theorem c5_7_3_1 (R : List D) (a b c : Int) (odd none prime : D) (x : Str) (L : List D) : RUN 22 18 1 (sg odd none (.int (10 ^ 60)) (.int (10 ^ 60)) (.bl false) prime 21 (.d (.glo 33)) .no) (hh R a b c (rep 12 tT) (mC x L [])) = .nx (sg odd none (.int (10 ^ 60)) (.int (10 ^ 60)) (.bl false) prime 21 (.d (.glo 33)) (.d (.ref 22))) (hh R a b c (rep 12 tT) (mC x L [.lst [.str (st [110, 117, 109, 98, 101, 114, 32, 49, 48, 48, 48, 48, 48, 48, 48, 48, 48, 48, 48, 48, 48, 48, 48, 48, 48, 48, 48, 48, 48, 48, 48, 48, 48, 48, 48, 48, 48, 48, 48, 48, 48, 48, 48, 48, 48, 48, 48, 48, 48, 48, 48, 48, 48, 48, 48, 48, 48, 48, 48, 48, 48, 48, 48, 48, 48, 48, 48, 48]), .str (st [110, 117, 109, 98, 101, 114, 32, 49, 48, 48, 48, 48, 48, 48, 48, 48, 48, 48, 48, 48, 48, 48, 48, 48, 48, 48, 48, 48, 48, 48, 48, 48, 48, 48, 48, 48, 48, 48, 48, 48, 48, 48, 48, 48, 48, 48, 48, 48, 48, 48, 48, 48, 48, 48, 48, 48, 48, 48, 48, 48, 48, 48, 48, 48, 48, 48, 48, 48]), .str (st [110, 117, 109, 98, 101, 114, 32, 49, 48, 48, 48, 48, 48, 48, 48, 48, 48, 48, 48, 48, 48, 48, 48, 48, 48, 48, 48, 48, 48, 48, 48, 48, 48, 48, 48, 48, 48, 48, 48, 48, 48, 48, 48, 48, 48, 48, 48, 48, 48, 48, 48, 48, 48, 48, 48, 48, 48, 48, 48, 48, 48, 48, 48, 48, 48, 48, 48, 48]), .str (st [110, 117, 109, 98, 101, 114, 32, 70, 97, 108, 115, 101]), .str two]])) := by kernel_rfl
theorem c5_7_3_2 (R : List D) (a b c : Int) (odd none prime : D) (x : Str) (L : List D) : RUN 22 18 1 (sg odd none (.int (10 ^ 60)) (.int (10 ^ 60)) (.int 0) prime 21 (.d (.glo 33)) .no) (hh R a b c (rep 12 tT) (mC x L [])) = .nx (sg odd none (.int (10 ^ 60)) (.int (10 ^ 60)) (.int 0) prime 21 (.d (.glo 33)) (.d (.ref 22))) (hh R a b c (rep 12 tT) (mC x L [.lst [.str (st [110, 117, 109, 98, 101, 114, 32, 49, 48, 48, 48, 48, 48, 48, 48, 48, 48, 48, 48, 48, 48, 48, 48, 48, 48, 48, 48, 48, 48, 48, 48, 48, 48, 48, 48, 48, 48, 48, 48, 48, 48, 48, 48, 48, 48, 48, 48, 48, 48, 48, 48, 48, 48, 48, 48, 48, 48, 48, 48, 48, 48, 48, 48, 48, 48, 48, 48, 48]), .str (st [110, 117, 109, 98, 101, 114, 32, 49, 48, 48, 48, 48, 48, 48, 48, 48, 48, 48, 48, 48, 48, 48, 48, 48, 48, 48, 48, 48, 48, 48, 48, 48, 48, 48, 48, 48, 48, 48, 48, 48, 48, 48, 48, 48, 48, 48, 48, 48, 48, 48, 48, 48, 48, 48, 48, 48, 48, 48, 48, 48, 48, 48, 48, 48, 48, 48, 48, 48]), .str (st [110, 117, 109, 98, 101, 114, 32, 49, 48, 48, 48, 48, 48, 48, 48, 48, 48, 48, 48, 48, 48, 48, 48, 48, 48, 48, 48, 48, 48, 48, 48, 48, 48, 48, 48, 48, 48, 48, 48, 48, 48, 48, 48, 48, 48, 48, 48, 48, 48, 48, 48, 48, 48, 48, 48, 48, 48, 48, 48, 48, 48, 48, 48, 48, 48, 48, 48, 48]), .str (st [110, 117, 109, 98, 101, 114, 32, 48]), .str two]])) := by kernel_rfl
theorem c5_7_3_3 (R : List D) (a b c : Int) (odd none prime : D) (x : Str) (L : List D) : RUN 22 18 1 (sg odd none (.int (10 ^ 60)) (.int (10 ^ 60)) (.str (st [50])) prime 21 (.d (.glo 33)) .no) (hh R a b c (rep 12 tT) (mC x L [])) = .nx (sg odd none (.int (10 ^ 60)) (.int (10 ^ 60)) (.str (st [50])) prime 21 (.d (.glo 33)) (.d (.ref 22))) (hh R a b c (rep 12 tT) (mC x L [.lst [.str (st [110, 117, 109, 98, 101, 114, 32, 49, 48, 48, 48, 48, 48, 48, 48, 48, 48, 48, 48, 48, 48, 48, 48, 48, 48, 48, 48, 48, 48, 48, 48, 48, 48, 48, 48, 48, 48, 48, 48, 48, 48, 48, 48, 48, 48, 48, 48, 48, 48, 48, 48, 48, 48, 48, 48, 48, 48, 48, 48, 48, 48, 48, 48, 48, 48, 48, 48, 48]), .str (st [110, 117, 109, 98, 101, 114, 32, 49, 48, 48, 48, 48, 48, 48, 48, 48, 48, 48, 48, 48, 48, 48, 48, 48, 48, 48, 48, 48, 48, 48, 48, 48, 48, 48, 48, 48, 48, 48, 48, 48, 48, 48, 48, 48, 48, 48, 48, 48, 48, 48, 48, 48, 48, 48, 48, 48, 48, 48, 48, 48, 48, 48, 48, 48, 48, 48, 48, 48]), .str (st [110, 117, 109, 98, 101, 114, 32, 49, 48, 48, 48, 48, 48, 48, 48, 48, 48, 48, 48, 48, 48, 48, 48, 48, 48, 48, 48, 48, 48, 48, 48, 48, 48, 48, 48, 48, 48, 48, 48, 48, 48, 48, 48, 48, 48, 48, 48, 48, 48, 48, 48, 48, 48, 48, 48, 48, 48, 48, 48, 48, 48, 48, 48, 48, 48, 48, 48, 48]), .str (st [110, 117, 109, 98, 101, 114, 32, 39, 50, 39]), .str two]])) := by kernel_rfl
theorem c5_7_3_4 (R : List D) (a b c : Int) (odd none prime : D) (x : Str) (L : List D) : RUN 22 18 1 (sg odd none (.int (10 ^ 60)) (.int (10 ^ 60)) (.int (10 ^ 60)) prime 21 (.d (.glo 33)) .no) (hh R a b c (rep 12 tT) (mC x L [])) = .nx (sg odd none (.int (10 ^ 60)) (.int (10 ^ 60)) (.int (10 ^ 60)) prime 21 (.d (.glo 33)) (.d (.ref 22))) (hh R a b c (rep 12 tT) (mC x L [.lst [.str (st [110, 117, 109, 98, 101, 114, 32, 49, 48, 48, 48, 48, 48, 48, 48, 48, 48, 48, 48, 48, 48, 48, 48, 48, 48, 48, 48, 48, 48, 48, 48, 48, 48, 48, 48, 48, 48, 48, 48, 48, 48, 48, 48, 48, 48, 48, 48, 48, 48, 48, 48, 48, 48, 48, 48, 48, 48, 48, 48, 48, 48, 48, 48, 48, 48, 48, 48, 48]), .str (st [110, 117, 109, 98, 101, 114, 32, 49, 48, 48, 48, 48, 48, 48, 48, 48, 48, 48, 48, 48, 48, 48, 48, 48, 48, 48, 48, 48, 48, 48, 48, 48, 48, 48, 48, 48, 48, 48, 48, 48, 48, 48, 48, 48, 48, 48, 48, 48, 48, 48, 48, 48, 48, 48, 48, 48, 48, 48, 48, 48, 48, 48, 48, 48, 48, 48, 48, 48]), .str (st [110, 117, 109, 98, 101, 114, 32, 49, 48, 48, 48, 48, 48, 48, 48, 48, 48, 48, 48, 48, 48, 48, 48, 48, 48, 48, 48, 48, 48, 48, 48, 48, 48, 48, 48, 48, 48, 48, 48, 48, 48, 48, 48, 48, 48, 48, 48, 48, 48, 48, 48, 48, 48, 48, 48, 48, 48, 48, 48, 48, 48, 48, 48, 48, 48, 48, 48, 48]), .str (st [110, 117, 109, 98, 101, 114, 32, 49, 48, 48, 48, 48, 48, 48, 48, 48, 48, 48, 48, 48, 48, 48, 48, 48, 48, 48, 48, 48, 48, 48, 48, 48, 48, 48, 48, 48, 48, 48, 48, 48, 48, 48, 48, 48, 48, 48, 48, 48, 48, 48, 48, 48, 48, 48, 48, 48, 48, 48, 48, 48, 48, 48, 48, 48, 48, 48, 48, 48]), .str two]])) := by kernel_rfl
theorem c5_7_3_5 (R : List D) (a b c : Int) (odd none prime : D) (x : Str) (L : List D) : RUN 22 18 1 (sg odd none (.int (10 ^ 60)) (.int (10 ^ 60)) (.tup [.int 2, .int 1]) prime 21 (.d (.glo 33)) .no) (hh R a b c (rep 12 tT) (mC x L [])) = .nx (sg odd none (.int (10 ^ 60)) (.int (10 ^ 60)) (.tup [.int 2, .int 1]) prime 21 (.d (.glo 33)) (.d (.ref 22))) (hh R a b c (rep 12 tT) (mC x L [.lst [.str (st [110, 117, 109, 98, 101, 114, 32, 49, 48, 48, 48, 48, 48, 48, 48, 48, 48, 48, 48, 48, 48, 48, 48, 48, 48, 48, 48, 48, 48, 48, 48, 48, 48, 48, 48, 48, 48, 48, 48, 48, 48, 48, 48, 48, 48, 48, 48, 48, 48, 48, 48, 48, 48, 48, 48, 48, 48, 48, 48, 48, 48, 48, 48, 48, 48, 48, 48, 48]), .str (st [110, 117, 109, 98, 101, 114, 32, 49, 48, 48, 48, 48, 48, 48, 48, 48, 48, 48, 48, 48, 48, 48, 48, 48, 48, 48, 48, 48, 48, 48, 48, 48, 48, 48, 48, 48, 48, 48, 48, 48, 48, 48, 48, 48, 48, 48, 48, 48, 48, 48, 48, 48, 48, 48, 48, 48, 48, 48, 48, 48, 48, 48, 48, 48, 48, 48, 48, 48]), .str (st [110, 117, 109, 98, 101, 114, 32, 49, 48, 48, 48, 48, 48, 48, 48, 48, 48, 48, 48, 48, 48, 48, 48, 48, 48, 48, 48, 48, 48, 48, 48, 48, 48, 48, 48, 48, 48, 48, 48, 48, 48, 48, 48, 48, 48, 48, 48, 48, 48, 48, 48, 48, 48, 48, 48, 48, 48, 48, 48, 48, 48, 48, 48, 48, 48, 48, 48, 48]), .str (st [110, 117, 109, 98, 101, 114, 32, 40, 50, 44, 32, 49, 41]), .str two]])) := by kernel_rfl
theorem c5_7_4_0 (R : List D) (a b c : Int) (odd none prime : D) (x : Str) (L : List D) : RUN 22 18 1 (sg odd none (.int (10 ^ 60)) (.tup [.int 1, .int 1]) (.non) prime 21 (.d (.glo 33)) .no) (hh R a b c (rep 12 tT) (mC x L [])) = .nx (sg odd none (.int (10 ^ 60)) (.tup [.int 1, .int 1]) (.non) prime 21 (.d (.glo 33)) (.d (.ref 22))) (hh R a b c (rep 12 tT) (mC x L [.lst [.str (st [110, 117, 109, 98, 101, 114, 32, 49, 48, 48, 48, 48, 48, 48, 48, 48, 48, 48, 48, 48, 48, 48, 48, 48, 48, 48, 48, 48, 48, 48, 48, 48, 48, 48, 48, 48, 48, 48, 48, 48, 48, 48, 48, 48, 48, 48, 48, 48, 48, 48, 48, 48, 48, 48, 48, 48, 48, 48, 48, 48, 48, 48, 48, 48, 48, 48, 48, 48]), .str (st [110, 117, 109, 98, 101, 114, 32, 49, 48, 48, 48, 48, 48, 48, 48, 48, 48, 48, 48, 48, 48, 48, 48, 48, 48, 48, 48, 48, 48, 48, 48, 48, 48, 48, 48, 48, 48, 48, 48, 48, 48, 48, 48, 48, 48, 48, 48, 48, 48, 48, 48, 48, 48, 48, 48, 48, 48, 48, 48, 48, 48, 48, 48, 48, 48, 48, 48, 48]), .str (st [110, 117, 109, 98, 101, 114, 32, 40, 49, 44, 32, 49, 41]), .str (st [110, 117, 109, 98, 101, 114, 32, 78, 111, 110, 101]), .str two]])) := by kernel_rfl
theorem c5_7_4_1 (R : List D) (a b c : Int) (odd none prime : D) (x : Str) (L : List D) : RUN 22 18 1 (sg odd none (.int (10 ^ 60)) (.tup [.int 1, .int 1]) (.bl false) prime 21 (.d (.glo 33)) .no) (hh R a b c (rep 12 tT) (mC x L [])) = .nx (sg odd none (.int (10 ^ 60)) (.tup [.int 1, .int 1]) (.bl false) prime 21 (.d (.glo 33)) (.d (.ref 22))) (hh R a b c (rep 12 tT) (mC x L [.lst [.str (st [110, 117, 109, 98, 101, 114, 32, 49, 48, 48, 48, 48, 48, 48, 48, 48, 48, 48, 48, 48, 48, 48, 48, 48, 48, 48, 48, 48, 48, 48, 48, 48, 48, 48, 48, 48, 48, 48, 48, 48, 48, 48, 48, 48, 48, 48, 48, 48, 48, 48, 48, 48, 48, 48, 48, 48, 48, 48, 48, 48, 48, 48, 48, 48, 48, 48, 48, 48]), .str (st [110, 117, 109, 98, 101, 114, 32, 49, 48, 48, 48, 48, 48, 48, 48, 48, 48, 48, 48, 48, 48, 48, 48, 48, 48, 48, 48, 48, 48, 48, 48, 48, 48, 48, 48, 48, 48, 48, 48, 48, 48, 48, 48, 48, 48, 48, 48, 48, 48, 48, 48, 48, 48, 48, 48, 48, 48, 48, 48, 48, 48, 48, 48, 48, 48, 48, 48, 48]), .str (st [110, 117, 109, 98, 101, 114, 32, 40, 49, 44, 32, 49, 41]), .str (st [110, 117, 109, 98, 101, 114, 32, 70, 97, 108, 115, 101]), .str two]])) := by kernel_rfl
theorem c5_7_4_2 (R : List D) (a b c : Int) (odd none prime : D) (x : Str) (L : List D) : RUN 22 18 1 (sg odd none (.int (10 ^ 60)) (.tup [.int 1, .int 1]) (.int 0) prime 21 (.d (.glo 33)) .no) (hh R a b c (rep 12 tT) (mC x L [])) = .nx (sg odd none (.int (10 ^ 60)) (.tup [.int 1, .int 1]) (.int 0) prime 21 (.d (.glo 33)) (.d (.ref 22))) (hh R a b c (rep 12 tT) (mC x L [.lst [.str (st [110, 117, 109, 98, 101, 114, 32, 49, 48, 48, 48, 48, 48, 48, 48, 48, 48, 48, 48, 48, 48, 48, 48, 48, 48, 48, 48, 48, 48, 48, 48, 48, 48, 48, 48, 48, 48, 48, 48, 48, 48, 48, 48, 48, 48, 48, 48, 48, 48, 48, 48, 48, 48, 48, 48, 48, 48, 48, 48, 48, 48, 48, 48, 48, 48, 48, 48, 48]), .str (st [110, 117, 109, 98, 101, 114, 32, 49, 48, 48, 48, 48, 48, 48, 48, 48, 48, 48, 48, 48, 48, 48, 48, 48, 48, 48, 48, 48, 48, 48, 48, 48, 48, 48, 48, 48, 48, 48, 48, 48, 48, 48, 48, 48, 48, 48, 48, 48, 48, 48, 48, 48, 48, 48, 48, 48, 48, 48, 48, 48, 48, 48, 48, 48, 48, 48, 48, 48]), .str (st [110, 117, 109, 98, 101, 114, 32, 40, 49, 44, 32, 49, 41]), .str (st [110, 117, 109, 98, 101, 114, 32, 48]), .str two]])) := by kernel_rfl
theorem c5_7_4_3 (R : List D) (a b c : Int) (odd none prime : D) (x : Str) (L : List D) : RUN 22 18 1 (sg odd none (.int (10 ^ 60)) (.tup [.int 1, .int 1]) (.str (st [50])) prime 21 (.d (.glo 33)) .no) (hh R a b c (rep 12 tT) (mC x L [])) = .nx (sg odd none (.int (10 ^ 60)) (.tup [.int 1, .int 1]) (.str (st [50])) prime 21 (.d (.glo 33)) (.d (.ref 22))) (hh R a b c (rep 12 tT) (mC x L [.lst [.str (st [110, 117, 109, 98, 101, 114, 32, 49, 48, 48, 48, 48, 48, 48, 48, 48, 48, 48, 48, 48, 48, 48, 48, 48, 48, 48, 48, 48, 48, 48, 48, 48, 48, 48, 48, 48, 48, 48, 48, 48, 48, 48, 48, 48, 48, 48, 48, 48, 48, 48, 48, 48, 48, 48, 48, 48, 48, 48, 48, 48, 48, 48, 48, 48, 48, 48, 48, 48]), .str (st [110, 117, 109, 98, 101, 114, 32, 49, 48, 48, 48, 48, 48, 48, 48, 48, 48, 48, 48, 48, 48, 48, 48, 48, 48, 48, 48, 48, 48, 48, 48, 48, 48, 48, 48, 48, 48, 48, 48, 48, 48, 48, 48, 48, 48, 48, 48, 48, 48, 48, 48, 48, 48, 48, 48, 48, 48, 48, 48, 48, 48, 48, 48, 48, 48, 48, 48, 48]), .str (st [110, 117, 109, 98, 101, 114, 32, 40, 49, 44, 32, 49, 41]), .str (st [110, 117, 109, 98, 101, 114, 32, 39, 50, 39]), .str two]])) := by kernel_rfl
theorem c5_7_4_4 (R : List D) (a b c : Int) (odd none prime : D) (x : Str) (L : List D) : RUN 22 18 1 (sg odd none (.int (10 ^ 60)) (.tup [.int 1, .int 1]) (.int (10 ^ 60)) prime 21 (.d (.glo 33)) .no) (hh R a b c (rep 12 tT) (mC x L [])) = .nx (sg odd none (.int (10 ^ 60)) (.tup [.int 1, .int 1]) (.int (10 ^ 60)) prime 21 (.d (.glo 33)) (.d (.ref 22))) (hh R a b c (rep 12 tT) (mC x L [.lst [.str (st [110, 117, 109, 98, 101, 114, 32, 49, 48, 48, 48, 48, 48, 48, 48, 48, 48, 48, 48, 48, 48, 48, 48, 48, 48, 48, 48, 48, 48, 48, 48, 48, 48, 48, 48, 48, 48, 48, 48, 48, 48, 48, 48, 48, 48, 48, 48, 48, 48, 48, 48, 48, 48, 48, 48, 48, 48, 48, 48, 48, 48, 48, 48, 48, 48, 48, 48, 48]), .str (st [110, 117, 109, 98, 101, 114, 32, 49, 48, 48, 48, 48, 48, 48, 48, 48, 48, 48, 48, 48, 48, 48, 48, 48, 48, 48, 48, 48, 48, 48, 48, 48, 48, 48, 48, 48, 48, 48, 48, 48, 48, 48, 48, 48, 48, 48, 48, 48, 48, 48, 48, 48, 48, 48, 48, 48, 48, 48, 48, 48, 48, 48, 48, 48, 48, 48, 48, 48]), .str (st [110, 117, 109, 98, 101, 114, 32, 40, 49, 44, 32, 49, 41]), .str (st [110, 117, 109, 98, 101, 114, 32, 49, 48, 48, 48, 48, 48, 48, 48, 48, 48, 48, 48, 48, 48, 48, 48, 48, 48, 48, 48, 48, 48, 48, 48, 48, 48, 48, 48, 48, 48, 48, 48, 48, 48, 48, 48, 48, 48, 48, 48, 48, 48, 48, 48, 48, 48, 48, 48, 48, 48, 48, 48, 48, 48, 48, 48, 48, 48, 48, 48, 48]), .str two]])) := by kernel_rfl
theorem c5_7_4_5 (R : List D) (a b c : Int) (odd none prime : D) (x : Str) (L : List D) : RUN 22 18 1 (sg odd none (.int (10 ^ 60)) (.tup [.int 1, .int 1]) (.tup [.int 2, .int 1]) prime 21 (.d (.glo 33)) .no) (hh R a b c (rep 12 tT) (mC x L [])) = .nx (sg odd none (.int (10 ^ 60)) (.tup [.int 1, .int 1]) (.tup [.int 2, .int 1]) prime 21 (.d (.glo 33)) (.d (.ref 22))) (hh R a b c (rep 12 tT) (mC x L [.lst [.str (st [110, 117, 109, 98, 101, 114, 32, 49, 48, 48, 48, 48, 48, 48, 48, 48, 48, 48, 48, 48, 48, 48, 48, 48, 48, 48, 48, 48, 48, 48, 48, 48, 48, 48, 48, 48, 48, 48, 48, 48, 48, 48, 48, 48, 48, 48, 48, 48, 48, 48, 48, 48, 48, 48, 48, 48, 48, 48, 48, 48, 48, 48, 48, 48, 48, 48, 48, 48]), .str (st [110, 117, 109, 98, 101, 114, 32, 49, 48, 48, 48, 48, 48, 48, 48, 48, 48, 48, 48, 48, 48, 48, 48, 48, 48, 48, 48, 48, 48, 48, 48, 48, 48, 48, 48, 48, 48, 48, 48, 48, 48, 48, 48, 48, 48, 48, 48, 48, 48, 48, 48, 48, 48, 48, 48, 48, 48, 48, 48, 48, 48, 48, 48, 48, 48, 48, 48, 48]), .str (st [110, 117, 109, 98, 101, 114, 32, 40, 49, 44, 32, 49, 41]), .str (st [110, 117, 109, 98, 101, 114, 32, 40, 50, 44, 32, 49, 41]), .str two]])) := by kernel_rfl
theorem c5_7_5_0 (R : List D) (a b c : Int) (odd none prime : D) (x : Str) (L : List D) : RUN 22 18 1 (sg odd none (.int (10 ^ 60)) (.ref 10) (.non) prime 21 (.d (.glo 33)) .no) (hh R a b c (rep 12 tT) (mC x L [])) = .nx (sg odd none (.int (10 ^ 60)) (.ref 10) (.non) prime 21 (.d (.glo 33)) (.d (.ref 22))) (hh R a b c (rep 12 tT) (mC x L [.lst [.str (st [110, 117, 109, 98, 101, 114, 32, 49, 48, 48, 48, 48, 48, 48, 48, 48, 48, 48, 48, 48, 48, 48, 48, 48, 48, 48, 48, 48, 48, 48, 48, 48, 48, 48, 48, 48, 48, 48, 48, 48, 48, 48, 48, 48, 48, 48, 48, 48, 48, 48, 48, 48, 48, 48, 48, 48, 48, 48, 48, 48, 48, 48, 48, 48, 48, 48, 48, 48]), .str (st [110, 117, 109, 98, 101, 114, 32, 49, 48, 48, 48, 48, 48, 48, 48, 48, 48, 48, 48, 48, 48, 48, 48, 48, 48, 48, 48, 48, 48, 48, 48, 48, 48, 48, 48, 48, 48, 48, 48, 48, 48, 48, 48, 48, 48, 48, 48, 48, 48, 48, 48, 48, 48, 48, 48, 48, 48, 48, 48, 48, 48, 48, 48, 48, 48, 48, 48, 48]), .str (st [110, 117, 109, 98, 101, 114, 32, 91, 49, 93]), .str (st [110, 117, 109, 98, 101, 114, 32, 78, 111, 110, 101]), .str two]])) := by kernel_rfl
theorem c5_7_5_1 (R : List D) (a b c : Int) (odd none prime : D) (x : Str) (L : List D) : RUN 22 18 1 (sg odd none (.int (10 ^ 60)) (.ref 10) (.bl false) prime 21 (.d (.glo 33)) .no) (hh R a b c (rep 12 tT) (mC x L [])) = .nx (sg odd none (.int (10 ^ 60)) (.ref 10) (.bl false) prime 21 (.d (.glo 33)) (.d (.ref 22))) (hh R a b c (rep 12 tT) (mC x L [.lst [.str (st [110, 117, 109, 98, 101, 114, 32, 49, 48, 48, 48, 48, 48, 48, 48, 48, 48, 48, 48, 48, 48, 48, 48, 48, 48, 48, 48, 48, 48, 48, 48, 48, 48, 48, 48, 48, 48, 48, 48, 48, 48, 48, 48, 48, 48, 48, 48, 48, 48, 48, 48, 48, 48, 48, 48, 48, 48, 48, 48, 48, 48, 48, 48, 48, 48, 48, 48, 48]), .str (st [110, 117, 109, 98, 101, 114, 32, 49, 48, 48, 48, 48, 48, 48, 48, 48, 48, 48, 48, 48, 48, 48, 48, 48, 48, 48, 48, 48, 48, 48, 48, 48, 48, 48, 48, 48, 48, 48, 48, 48, 48, 48, 48, 48, 48, 48, 48, 48, 48, 48, 48, 48, 48, 48, 48, 48, 48, 48, 48, 48, 48, 48, 48, 48, 48, 48, 48, 48]), .str (st [110, 117, 109, 98, 101, 114, 32, 91, 49, 93]), .str (st [110, 117, 109, 98, 101, 114, 32, 70, 97, 108, 115, 101]), .str two]])) := by kernel_rfl
theorem c5_7_5_2 (R : List D) (a b c : Int) (odd none prime : D) (x : Str) (L : List D) : RUN 22 18 1 (sg odd none (.int (10 ^ 60)) (.ref 10) (.int 0) prime 21 (.d (.glo 33)) .no) (hh R a b c (rep 12 tT) (mC x L [])) = .nx (sg odd none (.int (10 ^ 60)) (.ref 10) (.int 0) prime 21 (.d (.glo 33)) (.d (.ref 22))) (hh R a b c (rep 12 tT) (mC x L [.lst [.str (st [110, 117, 109, 98, 101, 114, 32, 49, 48, 48, 48, 48, 48, 48, 48, 48, 48, 48, 48, 48, 48, 48, 48, 48, 48, 48, 48, 48, 48, 48, 48, 48, 48, 48, 48, 48, 48, 48, 48, 48, 48, 48, 48, 48, 48, 48, 48, 48, 48, 48, 48, 48, 48, 48, 48, 48, 48, 48, 48, 48, 48, 48, 48, 48, 48, 48, 48, 48]), .str (st [110, 117, 109, 98, 101, 114, 32, 49, 48, 48, 48, 48, 48, 48, 48, 48, 48, 48, 48, 48, 48, 48, 48, 48, 48, 48, 48, 48, 48, 48, 48, 48, 48, 48, 48, 48, 48, 48, 48, 48, 48, 48, 48, 48, 48, 48, 48, 48, 48, 48, 48, 48, 48, 48, 48, 48, 48, 48, 48, 48, 48, 48, 48, 48, 48, 48, 48, 48]), .str (st [110, 117, 109, 98, 101, 114, 32, 91, 49, 93]), .str (st [110, 117, 109, 98, 101, 114, 32, 48]), .str two]])) := by kernel_rfl
theorem c5_7_5_3 (R : List D) (a b c : Int) (odd none prime : D) (x : Str) (L : List D) : RUN 22 18 1 (sg odd none (.int (10 ^ 60)) (.ref 10) (.str (st [50])) prime 21 (.d (.glo 33)) .no) (hh R a b c (rep 12 tT) (mC x L [])) = .nx (sg odd none (.int (10 ^ 60)) (.ref 10) (.str (st [50])) prime 21 (.d (.glo 33)) (.d (.ref 22))) (hh R a b c (rep 12 tT) (mC x L [.lst [.str (st [110, 117, 109, 98, 101, 114, 32, 49, 48, 48, 48, 48, 48, 48, 48, 48, 48, 48, 48, 48, 48, 48, 48, 48, 48, 48, 48, 48, 48, 48, 48, 48, 48, 48, 48, 48, 48, 48, 48, 48, 48, 48, 48, 48, 48, 48, 48, 48, 48, 48, 48, 48, 48, 48, 48, 48, 48, 48, 48, 48, 48, 48, 48, 48, 48, 48, 48, 48]), .str (st [110, 117, 109, 98, 101, 114, 32, 49, 48, 48, 48, 48, 48, 48, 48, 48, 48, 48, 48, 48, 48, 48, 48, 48, 48, 48, 48, 48, 48, 48, 48, 48, 48, 48, 48, 48, 48, 48, 48, 48, 48, 48, 48, 48, 48, 48, 48, 48, 48, 48, 48, 48, 48, 48, 48, 48, 48, 48, 48, 48, 48, 48, 48, 48, 48, 48, 48, 48]), .str (st [110, 117, 109, 98, 101, 114, 32, 91, 49, 93]), .str (st [110, 117, 109, 98, 101, 114, 32, 39, 50, 39]), .str two]])) := by kernel_rfl
theorem c5_7_5_4 (R : List D) (a b c : Int) (odd none prime : D) (x : Str) (L : List D) : RUN 22 18 1 (sg odd none (.int (10 ^ 60)) (.ref 10) (.int (10 ^ 60)) prime 21 (.d (.glo 33)) .no) (hh R a b c (rep 12 tT) (mC x L [])) = .nx (sg odd none (.int (10 ^ 60)) (.ref 10) (.int (10 ^ 60)) prime 21 (.d (.glo 33)) (.d (.ref 22))) (hh R a b c (rep 12 tT) (mC x L [.lst [.str (st [110, 117, 109, 98, 101, 114, 32, 49, 48, 48, 48, 48, 48, 48, 48, 48, 48, 48, 48, 48, 48, 48, 48, 48, 48, 48, 48, 48, 48, 48, 48, 48, 48, 48, 48, 48, 48, 48, 48, 48, 48, 48, 48, 48, 48, 48, 48, 48, 48, 48, 48, 48, 48, 48, 48, 48, 48, 48, 48, 48, 48, 48, 48, 48, 48, 48, 48, 48]), .str (st [110, 117, 109, 98, 101, 114, 32, 49, 48, 48, 48, 48, 48, 48, 48, 48, 48, 48, 48, 48, 48, 48, 48, 48, 48, 48, 48, 48, 48, 48, 48, 48, 48, 48, 48, 48, 48, 48, 48, 48, 48, 48, 48, 48, 48, 48, 48, 48, 48, 48, 48, 48, 48, 48, 48, 48, 48, 48, 48, 48, 48, 48, 48, 48, 48, 48, 48, 48]), .str (st [110, 117, 109, 98, 101, 114, 32, 91, 49, 93]), .str (st [110, 117, 109, 98, 101, 114, 32, 49, 48, 48, 48, 48, 48, 48, 48, 48, 48, 48, 48, 48, 48, 48, 48, 48, 48, 48, 48, 48, 48, 48, 48, 48, 48, 48, 48, 48, 48, 48, 48, 48, 48, 48, 48, 48, 48, 48, 48, 48, 48, 48, 48, 48, 48, 48, 48, 48, 48, 48, 48, 48, 48, 48, 48, 48, 48, 48, 48, 48]), .str two]])) := by kernel_rfl
theorem c5_7_5_5 (R : List D) (a b c : Int) (odd none prime : D) (x : Str) (L : List D) : RUN 22 18 1 (sg odd none (.int (10 ^ 60)) (.ref 10) (.tup [.int 2, .int 1]) prime 21 (.d (.glo 33)) .no) (hh R a b c (rep 12 tT) (mC x L [])) = .nx (sg odd none (.int (10 ^ 60)) (.ref 10) (.tup [.int 2, .int 1]) prime 21 (.d (.glo 33)) (.d (.ref 22))) (hh R a b c (rep 12 tT) (mC x L [.lst [.str (st [110, 117, 109, 98, 101, 114, 32, 49, 48, 48, 48, 48, 48, 48, 48, 48, 48, 48, 48, 48, 48, 48, 48, 48, 48, 48, 48, 48, 48, 48, 48, 48, 48, 48, 48, 48, 48, 48, 48, 48, 48, 48, 48, 48, 48, 48, 48, 48, 48, 48, 48, 48, 48, 48, 48, 48, 48, 48, 48, 48, 48, 48, 48, 48, 48, 48, 48, 48]), .str (st [110, 117, 109, 98, 101, 114, 32, 49, 48, 48, 48, 48, 48, 48, 48, 48, 48, 48, 48, 48, 48, 48, 48, 48, 48, 48, 48, 48, 48, 48, 48, 48, 48, 48, 48, 48, 48, 48, 48, 48, 48, 48, 48, 48, 48, 48, 48, 48, 48, 48, 48, 48, 48, 48, 48, 48, 48, 48, 48, 48, 48, 48, 48, 48, 48, 48, 48, 48]), .str (st [110, 117, 109, 98, 101, 114, 32, 91, 49, 93]), .str (st [110, 117, 109, 98, 101, 114, 32, 40, 50, 44, 32, 49, 41]), .str two]])) := by kernel_rfl
theorem c6_0 (R : List D) (a b c : Int) (odd none far bad low : D) (x y z u : Str) : RUN 21 19 7 (sg odd none far bad low (.int 3) 21 (.d (.glo 33)) (.d (.ref 22))) (hh R a b c (rep 12 tT) (mC x [tU y, tU y, tU z, tU u, tU two] [.lst [.str y, .str y, .str z, .str u, .str two]])) = .nx (sg odd none far bad low (.int 3) 21 (.d (.glo 33)) (.d (.ref 22))) (hh R a b c (rep 12 tT) (mC x ([tU y, tU y, tU z, tU u, tU two] ++ rep 7 tV) [.lst [.str y, .str y, .str z, .str u, .str two]])) := by kernel_rfl
theorem c6_1 (R : List D) (a b c : Int) (odd none far bad low : D) (x y z u : Str) : RUN 21 19 7 (sg odd none far bad low (.int 5) 21 (.d (.glo 33)) (.d (.ref 22))) (hh R a b c (rep 12 tT) (mC x [tU y, tU y, tU z, tU u, tU two] [.lst [.str y, .str y, .str z, .str u, .str two]])) = .nx (sg odd none far bad low (.int 5) 21 (.d (.glo 33)) (.d (.ref 22))) (hh R a b c (rep 12 tT) (mC x ([tU y, tU y, tU z, tU u, tU two] ++ rep 7 tV) [.lst [.str y, .str y, .str z, .str u, .str two]])) := by kernel_rfl
theorem c6_2 (R : List D) (a b c : Int) (odd none far bad low : D) (x y z u : Str) : RUN 21 19 7 (sg odd none far bad low (.int 7) 21 (.d (.glo 33)) (.d (.ref 22))) (hh R a b c (rep 12 tT) (mC x [tU y, tU y, tU z, tU u, tU two] [.lst [.str y, .str y, .str z, .str u, .str two]])) = .nx (sg odd none far bad low (.int 7) 21 (.d (.glo 33)) (.d (.ref 22))) (hh R a b c (rep 12 tT) (mC x ([tU y, tU y, tU z, tU u, tU two] ++ rep 7 tV) [.lst [.str y, .str y, .str z, .str u, .str two]])) := by kernel_rfl
theorem c6_3 (R : List D) (a b c : Int) (odd none far bad low : D) (x y z u : Str) : RUN 21 19 7 (sg odd none far bad low (.int 11) 21 (.d (.glo 33)) (.d (.ref 22))) (hh R a b c (rep 12 tT) (mC x [tU y, tU y, tU z, tU u, tU two] [.lst [.str y, .str y, .str z, .str u, .str two]])) = .nx (sg odd none far bad low (.int 11) 21 (.d (.glo 33)) (.d (.ref 22))) (hh R a b c (rep 12 tT) (mC x ([tU y, tU y, tU z, tU u, tU two] ++ rep 7 tV) [.lst [.str y, .str y, .str z, .str u, .str two]])) := by kernel_rfl
theorem c6_4 (R : List D) (a b c : Int) (odd none far bad low : D) (x y z u : Str) : RUN 21 19 7 (sg odd none far bad low (.int 13) 21 (.d (.glo 33)) (.d (.ref 22))) (hh R a b c (rep 12 tT) (mC x [tU y, tU y, tU z, tU u, tU two] [.lst [.str y, .str y, .str z, .str u, .str two]])) = .nx (sg odd none far bad low (.int 13) 21 (.d (.glo 33)) (.d (.ref 22))) (hh R a b c (rep 12 tT) (mC x ([tU y, tU y, tU z, tU u, tU two] ++ rep 7 tV) [.lst [.str y, .str y, .str z, .str u, .str two]])) := by kernel_rfl
end Law


set_option Elab.async false
set_option linter.all false
set_option maxRecDepth 100000
set_option maxHeartbeats 0
namespace Law
open PySem Mn
theorem drop_add : ∀ (k i : Nat) (A : Ss), dropS k (dropS i A) = dropS (i + k) A
  | k, 0, A => by rw [Nat.zero_add]; rfl
  | k, i + 1, .nil => by
    rw [Nat.add_right_comm]
    cases k <;> rfl
  | k, i + 1, .cons s r => by
    rw [Nat.add_right_comm]
    exact drop_add k i r
theorem bind_as {r : RS} {k1 k2 : Sl → Hh → RS} : (r.bind k1).bind k2 = r.bind fun σ h => (k1 σ h).bind k2 := by cases r <;> rfl
section
variable {ct : CT} {cst : Nat → Option D} {L : Lv} {A : Ar} {hd : HdR}
theorem ss_split (m : Nat) : ∀ (k : Nat) (B : Ss) (σ : Sl) (h : Hh), (evF ct cst L A hd (m + 1 + k)).ss B σ h = ((evF ct cst L A hd (m + 1 + k)).ss (takeS k B) σ h).bind fun σ1 h1 => (evF ct cst L A hd (m + 1)).ss (dropS k B) σ1 h1
  | 0, B, σ, h => rfl
  | k + 1, .nil, σ, h => rfl
  | k + 1, .cons s r, σ, h => by
    show ((evF ct cst L A hd (m + 1 + k)).s s σ h).bind (fun σ1 h1 => (evF ct cst L A hd (m + 1 + k)).ss r σ1 h1) = (((evF ct cst L A hd (m + 1 + k)).s s σ h).bind (fun σ1 h1 => (evF ct cst L A hd (m + 1 + k)).ss (takeS k r) σ1 h1)).bind _
    rw [bind_as]
    congr 1
    funext σ1 h1
    exact ss_split m k r σ1 h1
end
def REST (n i : Nat) (σ : Sl) (h : Hh) : RS := (evF lw.ct lw.cst (LV true 10) ⟨fun _ => .no, none, true⟩ (suite lw.ct lw.cst true) (19960 + n)).ss (dropS i b38) σ h
theorem step {n i k : Nat} {σ σ1 : Sl} {h h1 : Hh} (e : RUN (n + k) i k σ h = .nx σ1 h1) : REST (n + k) i σ h = REST n (i + k) σ1 h1 := by
  unfold REST
  have z := ss_split (ct := lw.ct) (cst := lw.cst) (L := LV true 10) (A := ⟨fun _ => .no, none, true⟩) (hd := suite lw.ct lw.cst true) (19959 + n) k (dropS i b38) σ h
  have e1 : 19959 + n + 1 + k = 19960 + (n + k) := by omega
  have e2 : 19959 + n + 1 = 19960 + n := by omega
  rw [e1, e2, drop_add] at z
  rw [z]
  have e' : (evF lw.ct lw.cst (LV true 10) ⟨fun _ => .no, none, true⟩ (suite lw.ct lw.cst true) (19960 + (n + k))).ss (takeS k (dropS i b38)) σ h = .nx σ1 h1 := e
  rw [e']
  rfl
theorem a1 : ∀ none ∈ o7, ∀ (R : List D) (a b c : Int) (odd far bad low prime : D), RUN 35 5 1 (sg odd none far bad low prime 14 .no .no) (hh R a b c [] []) = .nx (sg odd none far bad low prime 14 (.d (.glo 29)) .no) (hh R a b c (rep 8 tT) []) := fun none h => by
  simp only [o7, List.mem_cons, List.not_mem_nil, or_false] at h
  rcases h with rfl | rfl | rfl | rfl | rfl | rfl | rfl | rfl | rfl | rfl | rfl | rfl | rfl
  · exact a1_0
  · exact a1_1
  · exact a1_2
  · exact a1_3
  · exact a1_4
  · exact a1_5
  · exact a1_6
  · exact a1_7
  · exact a1_8
  · exact a1_9
  · exact a1_10
  · exact a1_11
  · exact a1_12
theorem a2_0 : ∀ none ∈ o7, ∀ (R : List D) (a b c : Int) (odd far bad low : D), RUN 34 6 2 (sg odd none far bad low (.int 3) 14 (.d (.glo 29)) .no) (hh R a b c (rep 8 tT) []) = .nx (sg odd none far bad low (.int 3) 14 (.d (.glo 33)) .no) (hh R a b c (rep 12 tT) []) := fun none h => by
  simp only [o7, List.mem_cons, List.not_mem_nil, or_false] at h
  rcases h with rfl | rfl | rfl | rfl | rfl | rfl | rfl | rfl | rfl | rfl | rfl | rfl | rfl
  · exact a2_0_0
  · exact a2_0_1
  · exact a2_0_2
  · exact a2_0_3
  · exact a2_0_4
  · exact a2_0_5
  · exact a2_0_6
  · exact a2_0_7
  · exact a2_0_8
  · exact a2_0_9
  · exact a2_0_10
  · exact a2_0_11
  · exact a2_0_12
theorem a2_1 : ∀ none ∈ o7, ∀ (R : List D) (a b c : Int) (odd far bad low : D), RUN 34 6 2 (sg odd none far bad low (.int 5) 14 (.d (.glo 29)) .no) (hh R a b c (rep 8 tT) []) = .nx (sg odd none far bad low (.int 5) 14 (.d (.glo 33)) .no) (hh R a b c (rep 12 tT) []) := fun none h => by
  simp only [o7, List.mem_cons, List.not_mem_nil, or_false] at h
  rcases h with rfl | rfl | rfl | rfl | rfl | rfl | rfl | rfl | rfl | rfl | rfl | rfl | rfl
  · exact a2_1_0
  · exact a2_1_1
  · exact a2_1_2
  · exact a2_1_3
  · exact a2_1_4
  · exact a2_1_5
  · exact a2_1_6
  · exact a2_1_7
  · exact a2_1_8
  · exact a2_1_9
  · exact a2_1_10
  · exact a2_1_11
  · exact a2_1_12
theorem a2_2 : ∀ none ∈ o7, ∀ (R : List D) (a b c : Int) (odd far bad low : D), RUN 34 6 2 (sg odd none far bad low (.int 7) 14 (.d (.glo 29)) .no) (hh R a b c (rep 8 tT) []) = .nx (sg odd none far bad low (.int 7) 14 (.d (.glo 33)) .no) (hh R a b c (rep 12 tT) []) := fun none h => by
  simp only [o7, List.mem_cons, List.not_mem_nil, or_false] at h
  rcases h with rfl | rfl | rfl | rfl | rfl | rfl | rfl | rfl | rfl | rfl | rfl | rfl | rfl
  · exact a2_2_0
  · exact a2_2_1
  · exact a2_2_2
  · exact a2_2_3
  · exact a2_2_4
  · exact a2_2_5
  · exact a2_2_6
  · exact a2_2_7
  · exact a2_2_8
  · exact a2_2_9
  · exact a2_2_10
  · exact a2_2_11
  · exact a2_2_12
theorem a2_3 : ∀ none ∈ o7, ∀ (R : List D) (a b c : Int) (odd far bad low : D), RUN 34 6 2 (sg odd none far bad low (.int 11) 14 (.d (.glo 29)) .no) (hh R a b c (rep 8 tT) []) = .nx (sg odd none far bad low (.int 11) 14 (.d (.glo 33)) .no) (hh R a b c (rep 12 tT) []) := fun none h => by
  simp only [o7, List.mem_cons, List.not_mem_nil, or_false] at h
  rcases h with rfl | rfl | rfl | rfl | rfl | rfl | rfl | rfl | rfl | rfl | rfl | rfl | rfl
  · exact a2_3_0
  · exact a2_3_1
  · exact a2_3_2
  · exact a2_3_3
  · exact a2_3_4
  · exact a2_3_5
  · exact a2_3_6
  · exact a2_3_7
  · exact a2_3_8
  · exact a2_3_9
  · exact a2_3_10
  · exact a2_3_11
  · exact a2_3_12
theorem a2_4 : ∀ none ∈ o7, ∀ (R : List D) (a b c : Int) (odd far bad low : D), RUN 34 6 2 (sg odd none far bad low (.int 13) 14 (.d (.glo 29)) .no) (hh R a b c (rep 8 tT) []) = .nx (sg odd none far bad low (.int 13) 14 (.d (.glo 33)) .no) (hh R a b c (rep 12 tT) []) := fun none h => by
  simp only [o7, List.mem_cons, List.not_mem_nil, or_false] at h
  rcases h with rfl | rfl | rfl | rfl | rfl | rfl | rfl | rfl | rfl | rfl | rfl | rfl | rfl
  · exact a2_4_0
  · exact a2_4_1
  · exact a2_4_2
  · exact a2_4_3
  · exact a2_4_4
  · exact a2_4_5
  · exact a2_4_6
  · exact a2_4_7
  · exact a2_4_8
  · exact a2_4_9
  · exact a2_4_10
  · exact a2_4_11
  · exact a2_4_12
theorem a2 : ∀ prime ∈ o13, ∀ none ∈ o7, ∀ (R : List D) (a b c : Int) (odd far bad low : D), RUN 34 6 2 (sg odd none far bad low prime 14 (.d (.glo 29)) .no) (hh R a b c (rep 8 tT) []) = .nx (sg odd none far bad low prime 14 (.d (.glo 33)) .no) (hh R a b c (rep 12 tT) []) := fun prime h => by
  simp only [o13, List.mem_cons, List.not_mem_nil, or_false] at h
  rcases h with rfl | rfl | rfl | rfl | rfl
  · exact a2_0
  · exact a2_1
  · exact a2_2
  · exact a2_3
  · exact a2_4
theorem bb : ∀ odd ∈ o4, ∃ x : Str, ∀ (R : List D) (a b c : Int) (none far bad low prime : D), RUN 31 9 4 (sg odd none far bad low prime 14 (.d (.glo 33)) .no) (hh R a b c (rep 12 tT) mA) = .nx (sg odd none far bad low prime 18 (.d (.glo 33)) .no) (hh R a b c (rep 12 tT) (mC x [] []).dropLast) := fun odd h => by
  simp only [o4, List.mem_cons, List.not_mem_nil, or_false] at h
  rcases h with rfl | rfl | rfl | rfl | rfl | rfl | rfl | rfl | rfl | rfl | rfl | rfl | rfl | rfl
  · exact ⟨_, b_0⟩
  · exact ⟨_, b_1⟩
  · exact ⟨_, b_2⟩
  · exact ⟨_, b_3⟩
  · exact ⟨_, b_4⟩
  · exact ⟨_, b_5⟩
  · exact ⟨_, b_6⟩
  · exact ⟨_, b_7⟩
  · exact ⟨_, b_8⟩
  · exact ⟨_, b_9⟩
  · exact ⟨_, b_10⟩
  · exact ⟨_, b_11⟩
  · exact ⟨_, b_12⟩
  · exact ⟨_, b_13⟩
theorem c1_0 : ∀ prime ∈ o13, ∀ (R : List D) (a b c : Int) (odd none bad low : D) (x : Str), RUN 27 13 2 (sg odd none (.non) bad low prime 18 (.d (.glo 33)) .no) (hh R a b c (rep 12 tT) (mC x [] []).dropLast) = .nx (sg odd none (.non) bad low prime 21 (.d (.glo 33)) .no) (hh R a b c (rep 12 tT) (mC x [tU (st [110, 117, 109, 98, 101, 114, 32, 78, 111, 110, 101]), tU (st [110, 117, 109, 98, 101, 114, 32, 78, 111, 110, 101])] [])) := fun prime h => by
  simp only [o13, List.mem_cons, List.not_mem_nil, or_false] at h
  rcases h with rfl | rfl | rfl | rfl | rfl
  · exact c1_0_0
  · exact c1_1_0
  · exact c1_2_0
  · exact c1_3_0
  · exact c1_4_0
theorem c1_1 : ∀ prime ∈ o13, ∀ (R : List D) (a b c : Int) (odd none bad low : D) (x : Str), RUN 27 13 2 (sg odd none (.int (-1)) bad low prime 18 (.d (.glo 33)) .no) (hh R a b c (rep 12 tT) (mC x [] []).dropLast) = .nx (sg odd none (.int (-1)) bad low prime 21 (.d (.glo 33)) .no) (hh R a b c (rep 12 tT) (mC x [tU (st [110, 117, 109, 98, 101, 114, 32, 45, 49]), tU (st [110, 117, 109, 98, 101, 114, 32, 45, 49])] [])) := fun prime h => by
  simp only [o13, List.mem_cons, List.not_mem_nil, or_false] at h
  rcases h with rfl | rfl | rfl | rfl | rfl
  · exact c1_0_1
  · exact c1_1_1
  · exact c1_2_1
  · exact c1_3_1
  · exact c1_4_1
theorem c1_2 : ∀ prime ∈ o13, ∀ (R : List D) (a b c : Int) (odd none bad low : D) (x : Str), RUN 27 13 2 (sg odd none (.int 201) bad low prime 18 (.d (.glo 33)) .no) (hh R a b c (rep 12 tT) (mC x [] []).dropLast) = .nx (sg odd none (.int 201) bad low prime 21 (.d (.glo 33)) .no) (hh R a b c (rep 12 tT) (mC x [tU (st [110, 117, 109, 98, 101, 114, 32, 50, 48, 49]), tU (st [110, 117, 109, 98, 101, 114, 32, 50, 48, 49])] [])) := fun prime h => by
  simp only [o13, List.mem_cons, List.not_mem_nil, or_false] at h
  rcases h with rfl | rfl | rfl | rfl | rfl
  · exact c1_0_2
  · exact c1_1_2
  · exact c1_2_2
  · exact c1_3_2
  · exact c1_4_2
theorem c1_3 : ∀ prime ∈ o13, ∀ (R : List D) (a b c : Int) (odd none bad low : D) (x : Str), RUN 27 13 2 (sg odd none (.bl true) bad low prime 18 (.d (.glo 33)) .no) (hh R a b c (rep 12 tT) (mC x [] []).dropLast) = .nx (sg odd none (.bl true) bad low prime 21 (.d (.glo 33)) .no) (hh R a b c (rep 12 tT) (mC x [tU (st [110, 117, 109, 98, 101, 114, 32, 84, 114, 117, 101]), tU (st [110, 117, 109, 98, 101, 114, 32, 84, 114, 117, 101])] [])) := fun prime h => by
  simp only [o13, List.mem_cons, List.not_mem_nil, or_false] at h
  rcases h with rfl | rfl | rfl | rfl | rfl
  · exact c1_0_3
  · exact c1_1_3
  · exact c1_2_3
  · exact c1_3_3
  · exact c1_4_3
theorem c1_4 : ∀ prime ∈ o13, ∀ (R : List D) (a b c : Int) (odd none bad low : D) (x : Str), RUN 27 13 2 (sg odd none (.str (st [49])) bad low prime 18 (.d (.glo 33)) .no) (hh R a b c (rep 12 tT) (mC x [] []).dropLast) = .nx (sg odd none (.str (st [49])) bad low prime 21 (.d (.glo 33)) .no) (hh R a b c (rep 12 tT) (mC x [tU (st [110, 117, 109, 98, 101, 114, 32, 39, 49, 39]), tU (st [110, 117, 109, 98, 101, 114, 32, 39, 49, 39])] [])) := fun prime h => by
  simp only [o13, List.mem_cons, List.not_mem_nil, or_false] at h
  rcases h with rfl | rfl | rfl | rfl | rfl
  · exact c1_0_4
  · exact c1_1_4
  · exact c1_2_4
  · exact c1_3_4
  · exact c1_4_4
theorem c1_5 : ∀ prime ∈ o13, ∀ (R : List D) (a b c : Int) (odd none bad low : D) (x : Str), RUN 27 13 2 (sg odd none (.tup [.int 1]) bad low prime 18 (.d (.glo 33)) .no) (hh R a b c (rep 12 tT) (mC x [] []).dropLast) = .nx (sg odd none (.tup [.int 1]) bad low prime 21 (.d (.glo 33)) .no) (hh R a b c (rep 12 tT) (mC x [tU (st [110, 117, 109, 98, 101, 114, 32, 40, 49, 44, 41]), tU (st [110, 117, 109, 98, 101, 114, 32, 40, 49, 44, 41])] [])) := fun prime h => by
  simp only [o13, List.mem_cons, List.not_mem_nil, or_false] at h
  rcases h with rfl | rfl | rfl | rfl | rfl
  · exact c1_0_5
  · exact c1_1_5
  · exact c1_2_5
  · exact c1_3_5
  · exact c1_4_5
theorem c1_6 : ∀ prime ∈ o13, ∀ (R : List D) (a b c : Int) (odd none bad low : D) (x : Str), RUN 27 13 2 (sg odd none (.ref 8) bad low prime 18 (.d (.glo 33)) .no) (hh R a b c (rep 12 tT) (mC x [] []).dropLast) = .nx (sg odd none (.ref 8) bad low prime 21 (.d (.glo 33)) .no) (hh R a b c (rep 12 tT) (mC x [tU (st [110, 117, 109, 98, 101, 114, 32, 91, 50, 93]), tU (st [110, 117, 109, 98, 101, 114, 32, 91, 50, 93])] [])) := fun prime h => by
  simp only [o13, List.mem_cons, List.not_mem_nil, or_false] at h
  rcases h with rfl | rfl | rfl | rfl | rfl
  · exact c1_0_6
  · exact c1_1_6
  · exact c1_2_6
  · exact c1_3_6
  · exact c1_4_6
theorem c1_7 : ∀ prime ∈ o13, ∀ (R : List D) (a b c : Int) (odd none bad low : D) (x : Str), RUN 27 13 2 (sg odd none (.int (10 ^ 60)) bad low prime 18 (.d (.glo 33)) .no) (hh R a b c (rep 12 tT) (mC x [] []).dropLast) = .nx (sg odd none (.int (10 ^ 60)) bad low prime 21 (.d (.glo 33)) .no) (hh R a b c (rep 12 tT) (mC x [tU (st [110, 117, 109, 98, 101, 114, 32, 49, 48, 48, 48, 48, 48, 48, 48, 48, 48, 48, 48, 48, 48, 48, 48, 48, 48, 48, 48, 48, 48, 48, 48, 48, 48, 48, 48, 48, 48, 48, 48, 48, 48, 48, 48, 48, 48, 48, 48, 48, 48, 48, 48, 48, 48, 48, 48, 48, 48, 48, 48, 48, 48, 48, 48, 48, 48, 48, 48, 48]), tU (st [110, 117, 109, 98, 101, 114, 32, 49, 48, 48, 48, 48, 48, 48, 48, 48, 48, 48, 48, 48, 48, 48, 48, 48, 48, 48, 48, 48, 48, 48, 48, 48, 48, 48, 48, 48, 48, 48, 48, 48, 48, 48, 48, 48, 48, 48, 48, 48, 48, 48, 48, 48, 48, 48, 48, 48, 48, 48, 48, 48, 48, 48, 48, 48, 48, 48, 48, 48])] [])) := fun prime h => by
  simp only [o13, List.mem_cons, List.not_mem_nil, or_false] at h
  rcases h with rfl | rfl | rfl | rfl | rfl
  · exact c1_0_7
  · exact c1_1_7
  · exact c1_2_7
  · exact c1_3_7
  · exact c1_4_7
def PC (far bad low : D) (y z u : Str) : Prop :=
  (∀ prime ∈ o13, ∀ (R : List D) (a b c : Int) (odd none bad low : D) (x : Str), RUN 27 13 2 (sg odd none far bad low prime 18 (.d (.glo 33)) .no) (hh R a b c (rep 12 tT) (mC x [] []).dropLast) = .nx (sg odd none far bad low prime 21 (.d (.glo 33)) .no) (hh R a b c (rep 12 tT) (mC x [tU y, tU y] []))) ∧
  (∀ (R : List D) (a b c : Int) (odd none far low prime : D) (x y : Str), RUN 25 15 1 (sg odd none far bad low prime 21 (.d (.glo 33)) .no) (hh R a b c (rep 12 tT) (mC x [tU y, tU y] [])) = .nx (sg odd none far bad low prime 21 (.d (.glo 33)) .no) (hh R a b c (rep 12 tT) (mC x [tU y, tU y, tU z] []))) ∧
  (∀ (R : List D) (a b c : Int) (odd none far bad prime : D) (x y z : Str), RUN 24 16 1 (sg odd none far bad low prime 21 (.d (.glo 33)) .no) (hh R a b c (rep 12 tT) (mC x [tU y, tU y, tU z] [])) = .nx (sg odd none far bad low prime 21 (.d (.glo 33)) .no) (hh R a b c (rep 12 tT) (mC x [tU y, tU y, tU z, tU u] []))) ∧
  ∀ (R : List D) (a b c : Int) (odd none prime : D) (x : Str) (L : List D), RUN 22 18 1 (sg odd none far bad low prime 21 (.d (.glo 33)) .no) (hh R a b c (rep 12 tT) (mC x L [])) = .nx (sg odd none far bad low prime 21 (.d (.glo 33)) (.d (.ref 22))) (hh R a b c (rep 12 tT) (mC x L [.lst [.str y, .str y, .str z, .str u, .str two]]))
theorem pc_0_0 : ∀ low ∈ o12, ∃ y z u : Str, PC (.non) (.non) low y z u := fun low h => by
  simp only [o12, List.mem_cons, List.not_mem_nil, or_false] at h
  rcases h with rfl | rfl | rfl | rfl | rfl | rfl
  · exact ⟨_, _, _, c1_0, c2_0, c3_0, c5_0_0_0⟩
  · exact ⟨_, _, _, c1_0, c2_0, c3_1, c5_0_0_1⟩
  · exact ⟨_, _, _, c1_0, c2_0, c3_2, c5_0_0_2⟩
  · exact ⟨_, _, _, c1_0, c2_0, c3_3, c5_0_0_3⟩
  · exact ⟨_, _, _, c1_0, c2_0, c3_4, c5_0_0_4⟩
  · exact ⟨_, _, _, c1_0, c2_0, c3_5, c5_0_0_5⟩
theorem pc_0_1 : ∀ low ∈ o12, ∃ y z u : Str, PC (.non) (.bl true) low y z u := fun low h => by
  simp only [o12, List.mem_cons, List.not_mem_nil, or_false] at h
  rcases h with rfl | rfl | rfl | rfl | rfl | rfl
  · exact ⟨_, _, _, c1_0, c2_1, c3_0, c5_0_1_0⟩
  · exact ⟨_, _, _, c1_0, c2_1, c3_1, c5_0_1_1⟩
  · exact ⟨_, _, _, c1_0, c2_1, c3_2, c5_0_1_2⟩
  · exact ⟨_, _, _, c1_0, c2_1, c3_3, c5_0_1_3⟩
  · exact ⟨_, _, _, c1_0, c2_1, c3_4, c5_0_1_4⟩
  · exact ⟨_, _, _, c1_0, c2_1, c3_5, c5_0_1_5⟩
theorem pc_0_2 : ∀ low ∈ o12, ∃ y z u : Str, PC (.non) (.str (st [49])) low y z u := fun low h => by
  simp only [o12, List.mem_cons, List.not_mem_nil, or_false] at h
  rcases h with rfl | rfl | rfl | rfl | rfl | rfl
  · exact ⟨_, _, _, c1_0, c2_2, c3_0, c5_0_2_0⟩
  · exact ⟨_, _, _, c1_0, c2_2, c3_1, c5_0_2_1⟩
  · exact ⟨_, _, _, c1_0, c2_2, c3_2, c5_0_2_2⟩
  · exact ⟨_, _, _, c1_0, c2_2, c3_3, c5_0_2_3⟩
  · exact ⟨_, _, _, c1_0, c2_2, c3_4, c5_0_2_4⟩
  · exact ⟨_, _, _, c1_0, c2_2, c3_5, c5_0_2_5⟩
theorem pc_0_3 : ∀ low ∈ o12, ∃ y z u : Str, PC (.non) (.int (10 ^ 60)) low y z u := fun low h => by
  simp only [o12, List.mem_cons, List.not_mem_nil, or_false] at h
  rcases h with rfl | rfl | rfl | rfl | rfl | rfl
  · exact ⟨_, _, _, c1_0, c2_3, c3_0, c5_0_3_0⟩
  · exact ⟨_, _, _, c1_0, c2_3, c3_1, c5_0_3_1⟩
  · exact ⟨_, _, _, c1_0, c2_3, c3_2, c5_0_3_2⟩
  · exact ⟨_, _, _, c1_0, c2_3, c3_3, c5_0_3_3⟩
  · exact ⟨_, _, _, c1_0, c2_3, c3_4, c5_0_3_4⟩
  · exact ⟨_, _, _, c1_0, c2_3, c3_5, c5_0_3_5⟩
theorem pc_0_4 : ∀ low ∈ o12, ∃ y z u : Str, PC (.non) (.tup [.int 1, .int 1]) low y z u := fun low h => by
  simp only [o12, List.mem_cons, List.not_mem_nil, or_false] at h
  rcases h with rfl | rfl | rfl | rfl | rfl | rfl
  · exact ⟨_, _, _, c1_0, c2_4, c3_0, c5_0_4_0⟩
  · exact ⟨_, _, _, c1_0, c2_4, c3_1, c5_0_4_1⟩
  · exact ⟨_, _, _, c1_0, c2_4, c3_2, c5_0_4_2⟩
  · exact ⟨_, _, _, c1_0, c2_4, c3_3, c5_0_4_3⟩
  · exact ⟨_, _, _, c1_0, c2_4, c3_4, c5_0_4_4⟩
  · exact ⟨_, _, _, c1_0, c2_4, c3_5, c5_0_4_5⟩
theorem pc_0_5 : ∀ low ∈ o12, ∃ y z u : Str, PC (.non) (.ref 10) low y z u := fun low h => by
  simp only [o12, List.mem_cons, List.not_mem_nil, or_false] at h
  rcases h with rfl | rfl | rfl | rfl | rfl | rfl
  · exact ⟨_, _, _, c1_0, c2_5, c3_0, c5_0_5_0⟩
  · exact ⟨_, _, _, c1_0, c2_5, c3_1, c5_0_5_1⟩
  · exact ⟨_, _, _, c1_0, c2_5, c3_2, c5_0_5_2⟩
  · exact ⟨_, _, _, c1_0, c2_5, c3_3, c5_0_5_3⟩
  · exact ⟨_, _, _, c1_0, c2_5, c3_4, c5_0_5_4⟩
  · exact ⟨_, _, _, c1_0, c2_5, c3_5, c5_0_5_5⟩
theorem pc_0 : ∀ bad ∈ o11, ∀ low ∈ o12, ∃ y z u : Str, PC (.non) bad low y z u := fun bad h => by
  simp only [o11, List.mem_cons, List.not_mem_nil, or_false] at h
  rcases h with rfl | rfl | rfl | rfl | rfl | rfl
  · exact pc_0_0
  · exact pc_0_1
  · exact pc_0_2
  · exact pc_0_3
  · exact pc_0_4
  · exact pc_0_5
theorem pc_1_0 : ∀ low ∈ o12, ∃ y z u : Str, PC (.int (-1)) (.non) low y z u := fun low h => by
  simp only [o12, List.mem_cons, List.not_mem_nil, or_false] at h
  rcases h with rfl | rfl | rfl | rfl | rfl | rfl
  · exact ⟨_, _, _, c1_1, c2_0, c3_0, c5_1_0_0⟩
  · exact ⟨_, _, _, c1_1, c2_0, c3_1, c5_1_0_1⟩
  · exact ⟨_, _, _, c1_1, c2_0, c3_2, c5_1_0_2⟩
  · exact ⟨_, _, _, c1_1, c2_0, c3_3, c5_1_0_3⟩
  · exact ⟨_, _, _, c1_1, c2_0, c3_4, c5_1_0_4⟩
  · exact ⟨_, _, _, c1_1, c2_0, c3_5, c5_1_0_5⟩
theorem pc_1_1 : ∀ low ∈ o12, ∃ y z u : Str, PC (.int (-1)) (.bl true) low y z u := fun low h => by
  simp only [o12, List.mem_cons, List.not_mem_nil, or_false] at h
  rcases h with rfl | rfl | rfl | rfl | rfl | rfl
  · exact ⟨_, _, _, c1_1, c2_1, c3_0, c5_1_1_0⟩
  · exact ⟨_, _, _, c1_1, c2_1, c3_1, c5_1_1_1⟩
  · exact ⟨_, _, _, c1_1, c2_1, c3_2, c5_1_1_2⟩
  · exact ⟨_, _, _, c1_1, c2_1, c3_3, c5_1_1_3⟩
  · exact ⟨_, _, _, c1_1, c2_1, c3_4, c5_1_1_4⟩
  · exact ⟨_, _, _, c1_1, c2_1, c3_5, c5_1_1_5⟩
theorem pc_1_2 : ∀ low ∈ o12, ∃ y z u : Str, PC (.int (-1)) (.str (st [49])) low y z u := fun low h => by
  simp only [o12, List.mem_cons, List.not_mem_nil, or_false] at h
  rcases h with rfl | rfl | rfl | rfl | rfl | rfl
  · exact ⟨_, _, _, c1_1, c2_2, c3_0, c5_1_2_0⟩
  · exact ⟨_, _, _, c1_1, c2_2, c3_1, c5_1_2_1⟩
  · exact ⟨_, _, _, c1_1, c2_2, c3_2, c5_1_2_2⟩
  · exact ⟨_, _, _, c1_1, c2_2, c3_3, c5_1_2_3⟩
  · exact ⟨_, _, _, c1_1, c2_2, c3_4, c5_1_2_4⟩
  · exact ⟨_, _, _, c1_1, c2_2, c3_5, c5_1_2_5⟩
theorem pc_1_3 : ∀ low ∈ o12, ∃ y z u : Str, PC (.int (-1)) (.int (10 ^ 60)) low y z u := fun low h => by
  simp only [o12, List.mem_cons, List.not_mem_nil, or_false] at h
  rcases h with rfl | rfl | rfl | rfl | rfl | rfl
  · exact ⟨_, _, _, c1_1, c2_3, c3_0, c5_1_3_0⟩
  · exact ⟨_, _, _, c1_1, c2_3, c3_1, c5_1_3_1⟩
  · exact ⟨_, _, _, c1_1, c2_3, c3_2, c5_1_3_2⟩
  · exact ⟨_, _, _, c1_1, c2_3, c3_3, c5_1_3_3⟩
  · exact ⟨_, _, _, c1_1, c2_3, c3_4, c5_1_3_4⟩
  · exact ⟨_, _, _, c1_1, c2_3, c3_5, c5_1_3_5⟩
theorem pc_1_4 : ∀ low ∈ o12, ∃ y z u : Str, PC (.int (-1)) (.tup [.int 1, .int 1]) low y z u := fun low h => by
  simp only [o12, List.mem_cons, List.not_mem_nil, or_false] at h
  rcases h with rfl | rfl | rfl | rfl | rfl | rfl
  · exact ⟨_, _, _, c1_1, c2_4, c3_0, c5_1_4_0⟩
  · exact ⟨_, _, _, c1_1, c2_4, c3_1, c5_1_4_1⟩
  · exact ⟨_, _, _, c1_1, c2_4, c3_2, c5_1_4_2⟩
  · exact ⟨_, _, _, c1_1, c2_4, c3_3, c5_1_4_3⟩
  · exact ⟨_, _, _, c1_1, c2_4, c3_4, c5_1_4_4⟩
  · exact ⟨_, _, _, c1_1, c2_4, c3_5, c5_1_4_5⟩
theorem pc_1_5 : ∀ low ∈ o12, ∃ y z u : Str, PC (.int (-1)) (.ref 10) low y z u := fun low h => by
  simp only [o12, List.mem_cons, List.not_mem_nil, or_false] at h
  rcases h with rfl | rfl | rfl | rfl | rfl | rfl
  · exact ⟨_, _, _, c1_1, c2_5, c3_0, c5_1_5_0⟩
  · exact ⟨_, _, _, c1_1, c2_5, c3_1, c5_1_5_1⟩
  · exact ⟨_, _, _, c1_1, c2_5, c3_2, c5_1_5_2⟩
  · exact ⟨_, _, _, c1_1, c2_5, c3_3, c5_1_5_3⟩
  · exact ⟨_, _, _, c1_1, c2_5, c3_4, c5_1_5_4⟩
  · exact ⟨_, _, _, c1_1, c2_5, c3_5, c5_1_5_5⟩
theorem pc_1 : ∀ bad ∈ o11, ∀ low ∈ o12, ∃ y z u : Str, PC (.int (-1)) bad low y z u := fun bad h => by
  simp only [o11, List.mem_cons, List.not_mem_nil, or_false] at h
  rcases h with rfl | rfl | rfl | rfl | rfl | rfl
  · exact pc_1_0
  · exact pc_1_1
  · exact pc_1_2
  · exact pc_1_3
  · exact pc_1_4
  · exact pc_1_5
theorem pc_2_0 : ∀ low ∈ o12, ∃ y z u : Str, PC (.int 201) (.non) low y z u := fun low h => by
  simp only [o12, List.mem_cons, List.not_mem_nil, or_false] at h
  rcases h with rfl | rfl | rfl | rfl | rfl | rfl
  · exact ⟨_, _, _, c1_2, c2_0, c3_0, c5_2_0_0⟩
  · exact ⟨_, _, _, c1_2, c2_0, c3_1, c5_2_0_1⟩
  · exact ⟨_, _, _, c1_2, c2_0, c3_2, c5_2_0_2⟩
  · exact ⟨_, _, _, c1_2, c2_0, c3_3, c5_2_0_3⟩
  · exact ⟨_, _, _, c1_2, c2_0, c3_4, c5_2_0_4⟩
  · exact ⟨_, _, _, c1_2, c2_0, c3_5, c5_2_0_5⟩
theorem pc_2_1 : ∀ low ∈ o12, ∃ y z u : Str, PC (.int 201) (.bl true) low y z u := fun low h => by
  simp only [o12, List.mem_cons, List.not_mem_nil, or_false] at h
  rcases h with rfl | rfl | rfl | rfl | rfl | rfl
  · exact ⟨_, _, _, c1_2, c2_1, c3_0, c5_2_1_0⟩
  · exact ⟨_, _, _, c1_2, c2_1, c3_1, c5_2_1_1⟩
  · exact ⟨_, _, _, c1_2, c2_1, c3_2, c5_2_1_2⟩
  · exact ⟨_, _, _, c1_2, c2_1, c3_3, c5_2_1_3⟩
  · exact ⟨_, _, _, c1_2, c2_1, c3_4, c5_2_1_4⟩
  · exact ⟨_, _, _, c1_2, c2_1, c3_5, c5_2_1_5⟩
theorem pc_2_2 : ∀ low ∈ o12, ∃ y z u : Str, PC (.int 201) (.str (st [49])) low y z u := fun low h => by
  simp only [o12, List.mem_cons, List.not_mem_nil, or_false] at h
  rcases h with rfl | rfl | rfl | rfl | rfl | rfl
  · exact ⟨_, _, _, c1_2, c2_2, c3_0, c5_2_2_0⟩
  · exact ⟨_, _, _, c1_2, c2_2, c3_1, c5_2_2_1⟩
  · exact ⟨_, _, _, c1_2, c2_2, c3_2, c5_2_2_2⟩
  · exact ⟨_, _, _, c1_2, c2_2, c3_3, c5_2_2_3⟩
  · exact ⟨_, _, _, c1_2, c2_2, c3_4, c5_2_2_4⟩
  · exact ⟨_, _, _, c1_2, c2_2, c3_5, c5_2_2_5⟩
theorem pc_2_3 : ∀ low ∈ o12, ∃ y z u : Str, PC (.int 201) (.int (10 ^ 60)) low y z u := fun low h => by
  simp only [o12, List.mem_cons, List.not_mem_nil, or_false] at h
  rcases h with rfl | rfl | rfl | rfl | rfl | rfl
  · exact ⟨_, _, _, c1_2, c2_3, c3_0, c5_2_3_0⟩
  · exact ⟨_, _, _, c1_2, c2_3, c3_1, c5_2_3_1⟩
  · exact ⟨_, _, _, c1_2, c2_3, c3_2, c5_2_3_2⟩
  · exact ⟨_, _, _, c1_2, c2_3, c3_3, c5_2_3_3⟩
  · exact ⟨_, _, _, c1_2, c2_3, c3_4, c5_2_3_4⟩
  · exact ⟨_, _, _, c1_2, c2_3, c3_5, c5_2_3_5⟩
theorem pc_2_4 : ∀ low ∈ o12, ∃ y z u : Str, PC (.int 201) (.tup [.int 1, .int 1]) low y z u := fun low h => by
  simp only [o12, List.mem_cons, List.not_mem_nil, or_false] at h
  rcases h with rfl | rfl | rfl | rfl | rfl | rfl
  · exact ⟨_, _, _, c1_2, c2_4, c3_0, c5_2_4_0⟩
  · exact ⟨_, _, _, c1_2, c2_4, c3_1, c5_2_4_1⟩
  · exact ⟨_, _, _, c1_2, c2_4, c3_2, c5_2_4_2⟩
  · exact ⟨_, _, _, c1_2, c2_4, c3_3, c5_2_4_3⟩
  · exact ⟨_, _, _, c1_2, c2_4, c3_4, c5_2_4_4⟩
  · exact ⟨_, _, _, c1_2, c2_4, c3_5, c5_2_4_5⟩
theorem pc_2_5 : ∀ low ∈ o12, ∃ y z u : Str, PC (.int 201) (.ref 10) low y z u := fun low h => by
  simp only [o12, List.mem_cons, List.not_mem_nil, or_false] at h
  rcases h with rfl | rfl | rfl | rfl | rfl | rfl
  · exact ⟨_, _, _, c1_2, c2_5, c3_0, c5_2_5_0⟩
  · exact ⟨_, _, _, c1_2, c2_5, c3_1, c5_2_5_1⟩
  · exact ⟨_, _, _, c1_2, c2_5, c3_2, c5_2_5_2⟩
  · exact ⟨_, _, _, c1_2, c2_5, c3_3, c5_2_5_3⟩
  · exact ⟨_, _, _, c1_2, c2_5, c3_4, c5_2_5_4⟩
  · exact ⟨_, _, _, c1_2, c2_5, c3_5, c5_2_5_5⟩
theorem pc_2 : ∀ bad ∈ o11, ∀ low ∈ o12, ∃ y z u : Str, PC (.int 201) bad low y z u := fun bad h => by
  simp only [o11, List.mem_cons, List.not_mem_nil, or_false] at h
  rcases h with rfl | rfl | rfl | rfl | rfl | rfl
  · exact pc_2_0
  · exact pc_2_1
  · exact pc_2_2
  · exact pc_2_3
  · exact pc_2_4
  · exact pc_2_5
theorem pc_3_0 : ∀ low ∈ o12, ∃ y z u : Str, PC (.bl true) (.non) low y z u := fun low h => by
  simp only [o12, List.mem_cons, List.not_mem_nil, or_false] at h
  rcases h with rfl | rfl | rfl | rfl | rfl | rfl
  · exact ⟨_, _, _, c1_3, c2_0, c3_0, c5_3_0_0⟩
  · exact ⟨_, _, _, c1_3, c2_0, c3_1, c5_3_0_1⟩
  · exact ⟨_, _, _, c1_3, c2_0, c3_2, c5_3_0_2⟩
  · exact ⟨_, _, _, c1_3, c2_0, c3_3, c5_3_0_3⟩
  · exact ⟨_, _, _, c1_3, c2_0, c3_4, c5_3_0_4⟩
  · exact ⟨_, _, _, c1_3, c2_0, c3_5, c5_3_0_5⟩
theorem pc_3_1 : ∀ low ∈ o12, ∃ y z u : Str, PC (.bl true) (.bl true) low y z u := fun low h => by
  simp only [o12, List.mem_cons, List.not_mem_nil, or_false] at h
  rcases h with rfl | rfl | rfl | rfl | rfl | rfl
  · exact ⟨_, _, _, c1_3, c2_1, c3_0, c5_3_1_0⟩
  · exact ⟨_, _, _, c1_3, c2_1, c3_1, c5_3_1_1⟩
  · exact ⟨_, _, _, c1_3, c2_1, c3_2, c5_3_1_2⟩
  · exact ⟨_, _, _, c1_3, c2_1, c3_3, c5_3_1_3⟩
  · exact ⟨_, _, _, c1_3, c2_1, c3_4, c5_3_1_4⟩
  · exact ⟨_, _, _, c1_3, c2_1, c3_5, c5_3_1_5⟩
theorem pc_3_2 : ∀ low ∈ o12, ∃ y z u : Str, PC (.bl true) (.str (st [49])) low y z u := fun low h => by
  simp only [o12, List.mem_cons, List.not_mem_nil, or_false] at h
  rcases h with rfl | rfl | rfl | rfl | rfl | rfl
  · exact ⟨_, _, _, c1_3, c2_2, c3_0, c5_3_2_0⟩
  · exact ⟨_, _, _, c1_3, c2_2, c3_1, c5_3_2_1⟩
  · exact ⟨_, _, _, c1_3, c2_2, c3_2, c5_3_2_2⟩
  · exact ⟨_, _, _, c1_3, c2_2, c3_3, c5_3_2_3⟩
  · exact ⟨_, _, _, c1_3, c2_2, c3_4, c5_3_2_4⟩
  · exact ⟨_, _, _, c1_3, c2_2, c3_5, c5_3_2_5⟩
theorem pc_3_3 : ∀ low ∈ o12, ∃ y z u : Str, PC (.bl true) (.int (10 ^ 60)) low y z u := fun low h => by
  simp only [o12, List.mem_cons, List.not_mem_nil, or_false] at h
  rcases h with rfl | rfl | rfl | rfl | rfl | rfl
  · exact ⟨_, _, _, c1_3, c2_3, c3_0, c5_3_3_0⟩
  · exact ⟨_, _, _, c1_3, c2_3, c3_1, c5_3_3_1⟩
  · exact ⟨_, _, _, c1_3, c2_3, c3_2, c5_3_3_2⟩
  · exact ⟨_, _, _, c1_3, c2_3, c3_3, c5_3_3_3⟩
  · exact ⟨_, _, _, c1_3, c2_3, c3_4, c5_3_3_4⟩
  · exact ⟨_, _, _, c1_3, c2_3, c3_5, c5_3_3_5⟩
theorem pc_3_4 : ∀ low ∈ o12, ∃ y z u : Str, PC (.bl true) (.tup [.int 1, .int 1]) low y z u := fun low h => by
  simp only [o12, List.mem_cons, List.not_mem_nil, or_false] at h
  rcases h with rfl | rfl | rfl | rfl | rfl | rfl
  · exact ⟨_, _, _, c1_3, c2_4, c3_0, c5_3_4_0⟩
  · exact ⟨_, _, _, c1_3, c2_4, c3_1, c5_3_4_1⟩
  · exact ⟨_, _, _, c1_3, c2_4, c3_2, c5_3_4_2⟩
  · exact ⟨_, _, _, c1_3, c2_4, c3_3, c5_3_4_3⟩
  · exact ⟨_, _, _, c1_3, c2_4, c3_4, c5_3_4_4⟩
  · exact ⟨_, _, _, c1_3, c2_4, c3_5, c5_3_4_5⟩
theorem pc_3_5 : ∀ low ∈ o12, ∃ y z u : Str, PC (.bl true) (.ref 10) low y z u := fun low h => by
  simp only [o12, List.mem_cons, List.not_mem_nil, or_false] at h
  rcases h with rfl | rfl | rfl | rfl | rfl | rfl
  · exact ⟨_, _, _, c1_3, c2_5, c3_0, c5_3_5_0⟩
  · exact ⟨_, _, _, c1_3, c2_5, c3_1, c5_3_5_1⟩
  · exact ⟨_, _, _, c1_3, c2_5, c3_2, c5_3_5_2⟩
  · exact ⟨_, _, _, c1_3, c2_5, c3_3, c5_3_5_3⟩
  · exact ⟨_, _, _, c1_3, c2_5, c3_4, c5_3_5_4⟩
  · exact ⟨_, _, _, c1_3, c2_5, c3_5, c5_3_5_5⟩
theorem pc_3 : ∀ bad ∈ o11, ∀ low ∈ o12, ∃ y z u : Str, PC (.bl true) bad low y z u := fun bad h => by
  simp only [o11, List.mem_cons, List.not_mem_nil, or_false] at h
  rcases h with rfl | rfl | rfl | rfl | rfl | rfl
  · exact pc_3_0
  · exact pc_3_1
  · exact pc_3_2
  · exact pc_3_3
  · exact pc_3_4
  · exact pc_3_5
theorem pc_4_0 : ∀ low ∈ o12, ∃ y z u : Str, PC (.str (st [49])) (.non) low y z u := fun low h => by
  simp only [o12, List.mem_cons, List.not_mem_nil, or_false] at h
  rcases h with rfl | rfl | rfl | rfl | rfl | rfl
  · exact ⟨_, _, _, c1_4, c2_0, c3_0, c5_4_0_0⟩
  · exact ⟨_, _, _, c1_4, c2_0, c3_1, c5_4_0_1⟩
  · exact ⟨_, _, _, c1_4, c2_0, c3_2, c5_4_0_2⟩
  · exact ⟨_, _, _, c1_4, c2_0, c3_3, c5_4_0_3⟩
  · exact ⟨_, _, _, c1_4, c2_0, c3_4, c5_4_0_4⟩
  · exact ⟨_, _, _, c1_4, c2_0, c3_5, c5_4_0_5⟩
theorem pc_4_1 : ∀ low ∈ o12, ∃ y z u : Str, PC (.str (st [49])) (.bl true) low y z u := fun low h => by
  simp only [o12, List.mem_cons, List.not_mem_nil, or_false] at h
  rcases h with rfl | rfl | rfl | rfl | rfl | rfl
  · exact ⟨_, _, _, c1_4, c2_1, c3_0, c5_4_1_0⟩
  · exact ⟨_, _, _, c1_4, c2_1, c3_1, c5_4_1_1⟩
  · exact ⟨_, _, _, c1_4, c2_1, c3_2, c5_4_1_2⟩
  · exact ⟨_, _, _, c1_4, c2_1, c3_3, c5_4_1_3⟩
  · exact ⟨_, _, _, c1_4, c2_1, c3_4, c5_4_1_4⟩
  · exact ⟨_, _, _, c1_4, c2_1, c3_5, c5_4_1_5⟩
theorem pc_4_2 : ∀ low ∈ o12, ∃ y z u : Str, PC (.str (st [49])) (.str (st [49])) low y z u := fun low h => by
  simp only [o12, List.mem_cons, List.not_mem_nil, or_false] at h
  rcases h with rfl | rfl | rfl | rfl | rfl | rfl
  · exact ⟨_, _, _, c1_4, c2_2, c3_0, c5_4_2_0⟩
  · exact ⟨_, _, _, c1_4, c2_2, c3_1, c5_4_2_1⟩
  · exact ⟨_, _, _, c1_4, c2_2, c3_2, c5_4_2_2⟩
  · exact ⟨_, _, _, c1_4, c2_2, c3_3, c5_4_2_3⟩
  · exact ⟨_, _, _, c1_4, c2_2, c3_4, c5_4_2_4⟩
  · exact ⟨_, _, _, c1_4, c2_2, c3_5, c5_4_2_5⟩
theorem pc_4_3 : ∀ low ∈ o12, ∃ y z u : Str, PC (.str (st [49])) (.int (10 ^ 60)) low y z u := fun low h => by
  simp only [o12, List.mem_cons, List.not_mem_nil, or_false] at h
  rcases h with rfl | rfl | rfl | rfl | rfl | rfl
  · exact ⟨_, _, _, c1_4, c2_3, c3_0, c5_4_3_0⟩
  · exact ⟨_, _, _, c1_4, c2_3, c3_1, c5_4_3_1⟩
  · exact ⟨_, _, _, c1_4, c2_3, c3_2, c5_4_3_2⟩
  · exact ⟨_, _, _, c1_4, c2_3, c3_3, c5_4_3_3⟩
  · exact ⟨_, _, _, c1_4, c2_3, c3_4, c5_4_3_4⟩
  · exact ⟨_, _, _, c1_4, c2_3, c3_5, c5_4_3_5⟩
theorem pc_4_4 : ∀ low ∈ o12, ∃ y z u : Str, PC (.str (st [49])) (.tup [.int 1, .int 1]) low y z u := fun low h => by
  simp only [o12, List.mem_cons, List.not_mem_nil, or_false] at h
  rcases h with rfl | rfl | rfl | rfl | rfl | rfl
  · exact ⟨_, _, _, c1_4, c2_4, c3_0, c5_4_4_0⟩
  · exact ⟨_, _, _, c1_4, c2_4, c3_1, c5_4_4_1⟩
  · exact ⟨_, _, _, c1_4, c2_4, c3_2, c5_4_4_2⟩
  · exact ⟨_, _, _, c1_4, c2_4, c3_3, c5_4_4_3⟩
  · exact ⟨_, _, _, c1_4, c2_4, c3_4, c5_4_4_4⟩
  · exact ⟨_, _, _, c1_4, c2_4, c3_5, c5_4_4_5⟩
theorem pc_4_5 : ∀ low ∈ o12, ∃ y z u : Str, PC (.str (st [49])) (.ref 10) low y z u := fun low h => by
  simp only [o12, List.mem_cons, List.not_mem_nil, or_false] at h
  rcases h with rfl | rfl | rfl | rfl | rfl | rfl
  · exact ⟨_, _, _, c1_4, c2_5, c3_0, c5_4_5_0⟩
  · exact ⟨_, _, _, c1_4, c2_5, c3_1, c5_4_5_1⟩
  · exact ⟨_, _, _, c1_4, c2_5, c3_2, c5_4_5_2⟩
  · exact ⟨_, _, _, c1_4, c2_5, c3_3, c5_4_5_3⟩
  · exact ⟨_, _, _, c1_4, c2_5, c3_4, c5_4_5_4⟩
  · exact ⟨_, _, _, c1_4, c2_5, c3_5, c5_4_5_5⟩
theorem pc_4 : ∀ bad ∈ o11, ∀ low ∈ o12, ∃ y z u : Str, PC (.str (st [49])) bad low y z u := fun bad h => by
  simp only [o11, List.mem_cons, List.not_mem_nil, or_false] at h
  rcases h with rfl | rfl | rfl | rfl | rfl | rfl
  · exact pc_4_0
  · exact pc_4_1
  · exact pc_4_2
  · exact pc_4_3
  · exact pc_4_4
  · exact pc_4_5
theorem pc_5_0 : ∀ low ∈ o12, ∃ y z u : Str, PC (.tup [.int 1]) (.non) low y z u := fun low h => by
  simp only [o12, List.mem_cons, List.not_mem_nil, or_false] at h
  rcases h with rfl | rfl | rfl | rfl | rfl | rfl
  · exact ⟨_, _, _, c1_5, c2_0, c3_0, c5_5_0_0⟩
  · exact ⟨_, _, _, c1_5, c2_0, c3_1, c5_5_0_1⟩
  · exact ⟨_, _, _, c1_5, c2_0, c3_2, c5_5_0_2⟩
  · exact ⟨_, _, _, c1_5, c2_0, c3_3, c5_5_0_3⟩
  · exact ⟨_, _, _, c1_5, c2_0, c3_4, c5_5_0_4⟩
  · exact ⟨_, _, _, c1_5, c2_0, c3_5, c5_5_0_5⟩
theorem pc_5_1 : ∀ low ∈ o12, ∃ y z u : Str, PC (.tup [.int 1]) (.bl true) low y z u := fun low h => by
  simp only [o12, List.mem_cons, List.not_mem_nil, or_false] at h
  rcases h with rfl | rfl | rfl | rfl | rfl | rfl
  · exact ⟨_, _, _, c1_5, c2_1, c3_0, c5_5_1_0⟩
  · exact ⟨_, _, _, c1_5, c2_1, c3_1, c5_5_1_1⟩
  · exact ⟨_, _, _, c1_5, c2_1, c3_2, c5_5_1_2⟩
  · exact ⟨_, _, _, c1_5, c2_1, c3_3, c5_5_1_3⟩
  · exact ⟨_, _, _, c1_5, c2_1, c3_4, c5_5_1_4⟩
  · exact ⟨_, _, _, c1_5, c2_1, c3_5, c5_5_1_5⟩
theorem pc_5_2 : ∀ low ∈ o12, ∃ y z u : Str, PC (.tup [.int 1]) (.str (st [49])) low y z u := fun low h => by
  simp only [o12, List.mem_cons, List.not_mem_nil, or_false] at h
  rcases h with rfl | rfl | rfl | rfl | rfl | rfl
  · exact ⟨_, _, _, c1_5, c2_2, c3_0, c5_5_2_0⟩
  · exact ⟨_, _, _, c1_5, c2_2, c3_1, c5_5_2_1⟩
  · exact ⟨_, _, _, c1_5, c2_2, c3_2, c5_5_2_2⟩
  · exact ⟨_, _, _, c1_5, c2_2, c3_3, c5_5_2_3⟩
  · exact ⟨_, _, _, c1_5, c2_2, c3_4, c5_5_2_4⟩
  · exact ⟨_, _, _, c1_5, c2_2, c3_5, c5_5_2_5⟩
theorem pc_5_3 : ∀ low ∈ o12, ∃ y z u : Str, PC (.tup [.int 1]) (.int (10 ^ 60)) low y z u := fun low h => by
  simp only [o12, List.mem_cons, List.not_mem_nil, or_false] at h
  rcases h with rfl | rfl | rfl | rfl | rfl | rfl
  · exact ⟨_, _, _, c1_5, c2_3, c3_0, c5_5_3_0⟩
  · exact ⟨_, _, _, c1_5, c2_3, c3_1, c5_5_3_1⟩
  · exact ⟨_, _, _, c1_5, c2_3, c3_2, c5_5_3_2⟩
  · exact ⟨_, _, _, c1_5, c2_3, c3_3, c5_5_3_3⟩
  · exact ⟨_, _, _, c1_5, c2_3, c3_4, c5_5_3_4⟩
  · exact ⟨_, _, _, c1_5, c2_3, c3_5, c5_5_3_5⟩
theorem pc_5_4 : ∀ low ∈ o12, ∃ y z u : Str, PC (.tup [.int 1]) (.tup [.int 1, .int 1]) low y z u := fun low h => by
  simp only [o12, List.mem_cons, List.not_mem_nil, or_false] at h
  rcases h with rfl | rfl | rfl | rfl | rfl | rfl
  · exact ⟨_, _, _, c1_5, c2_4, c3_0, c5_5_4_0⟩
  · exact ⟨_, _, _, c1_5, c2_4, c3_1, c5_5_4_1⟩
  · exact ⟨_, _, _, c1_5, c2_4, c3_2, c5_5_4_2⟩
  · exact ⟨_, _, _, c1_5, c2_4, c3_3, c5_5_4_3⟩
  · exact ⟨_, _, _, c1_5, c2_4, c3_4, c5_5_4_4⟩
  · exact ⟨_, _, _, c1_5, c2_4, c3_5, c5_5_4_5⟩
theorem pc_5_5 : ∀ low ∈ o12, ∃ y z u : Str, PC (.tup [.int 1]) (.ref 10) low y z u := fun low h => by
  simp only [o12, List.mem_cons, List.not_mem_nil, or_false] at h
  rcases h with rfl | rfl | rfl | rfl | rfl | rfl
  · exact ⟨_, _, _, c1_5, c2_5, c3_0, c5_5_5_0⟩
  · exact ⟨_, _, _, c1_5, c2_5, c3_1, c5_5_5_1⟩
  · exact ⟨_, _, _, c1_5, c2_5, c3_2, c5_5_5_2⟩
  · exact ⟨_, _, _, c1_5, c2_5, c3_3, c5_5_5_3⟩
  · exact ⟨_, _, _, c1_5, c2_5, c3_4, c5_5_5_4⟩
  · exact ⟨_, _, _, c1_5, c2_5, c3_5, c5_5_5_5⟩
theorem pc_5 : ∀ bad ∈ o11, ∀ low ∈ o12, ∃ y z u : Str, PC (.tup [.int 1]) bad low y z u := fun bad h => by
  simp only [o11, List.mem_cons, List.not_mem_nil, or_false] at h
  rcases h with rfl | rfl | rfl | rfl | rfl | rfl
  · exact pc_5_0
  · exact pc_5_1
  · exact pc_5_2
  · exact pc_5_3
  · exact pc_5_4
  · exact pc_5_5
theorem pc_6_0 : ∀ low ∈ o12, ∃ y z u : Str, PC (.ref 8) (.non) low y z u := fun low h => by
  simp only [o12, List.mem_cons, List.not_mem_nil, or_false] at h
  rcases h with rfl | rfl | rfl | rfl | rfl | rfl
  · exact ⟨_, _, _, c1_6, c2_0, c3_0, c5_6_0_0⟩
  · exact ⟨_, _, _, c1_6, c2_0, c3_1, c5_6_0_1⟩
  · exact ⟨_, _, _, c1_6, c2_0, c3_2, c5_6_0_2⟩
  · exact ⟨_, _, _, c1_6, c2_0, c3_3, c5_6_0_3⟩
  · exact ⟨_, _, _, c1_6, c2_0, c3_4, c5_6_0_4⟩
  · exact ⟨_, _, _, c1_6, c2_0, c3_5, c5_6_0_5⟩
theorem pc_6_1 : ∀ low ∈ o12, ∃ y z u : Str, PC (.ref 8) (.bl true) low y z u := fun low h => by
  simp only [o12, List.mem_cons, List.not_mem_nil, or_false] at h
  rcases h with rfl | rfl | rfl | rfl | rfl | rfl
  · exact ⟨_, _, _, c1_6, c2_1, c3_0, c5_6_1_0⟩
  · exact ⟨_, _, _, c1_6, c2_1, c3_1, c5_6_1_1⟩
  · exact ⟨_, _, _, c1_6, c2_1, c3_2, c5_6_1_2⟩
  · exact ⟨_, _, _, c1_6, c2_1, c3_3, c5_6_1_3⟩
  · exact ⟨_, _, _, c1_6, c2_1, c3_4, c5_6_1_4⟩
  · exact ⟨_, _, _, c1_6, c2_1, c3_5, c5_6_1_5⟩
theorem pc_6_2 : ∀ low ∈ o12, ∃ y z u : Str, PC (.ref 8) (.str (st [49])) low y z u := fun low h => by
  simp only [o12, List.mem_cons, List.not_mem_nil, or_false] at h
  rcases h with rfl | rfl | rfl | rfl | rfl | rfl
  · exact ⟨_, _, _, c1_6, c2_2, c3_0, c5_6_2_0⟩
  · exact ⟨_, _, _, c1_6, c2_2, c3_1, c5_6_2_1⟩
  · exact ⟨_, _, _, c1_6, c2_2, c3_2, c5_6_2_2⟩
  · exact ⟨_, _, _, c1_6, c2_2, c3_3, c5_6_2_3⟩
  · exact ⟨_, _, _, c1_6, c2_2, c3_4, c5_6_2_4⟩
  · exact ⟨_, _, _, c1_6, c2_2, c3_5, c5_6_2_5⟩
theorem pc_6_3 : ∀ low ∈ o12, ∃ y z u : Str, PC (.ref 8) (.int (10 ^ 60)) low y z u := fun low h => by
  simp only [o12, List.mem_cons, List.not_mem_nil, or_false] at h
  rcases h with rfl | rfl | rfl | rfl | rfl | rfl
  · exact ⟨_, _, _, c1_6, c2_3, c3_0, c5_6_3_0⟩
  · exact ⟨_, _, _, c1_6, c2_3, c3_1, c5_6_3_1⟩
  · exact ⟨_, _, _, c1_6, c2_3, c3_2, c5_6_3_2⟩
  · exact ⟨_, _, _, c1_6, c2_3, c3_3, c5_6_3_3⟩
  · exact ⟨_, _, _, c1_6, c2_3, c3_4, c5_6_3_4⟩
  · exact ⟨_, _, _, c1_6, c2_3, c3_5, c5_6_3_5⟩
theorem pc_6_4 : ∀ low ∈ o12, ∃ y z u : Str, PC (.ref 8) (.tup [.int 1, .int 1]) low y z u := fun low h => by
  simp only [o12, List.mem_cons, List.not_mem_nil, or_false] at h
  rcases h with rfl | rfl | rfl | rfl | rfl | rfl
  · exact ⟨_, _, _, c1_6, c2_4, c3_0, c5_6_4_0⟩
  · exact ⟨_, _, _, c1_6, c2_4, c3_1, c5_6_4_1⟩
  · exact ⟨_, _, _, c1_6, c2_4, c3_2, c5_6_4_2⟩
  · exact ⟨_, _, _, c1_6, c2_4, c3_3, c5_6_4_3⟩
  · exact ⟨_, _, _, c1_6, c2_4, c3_4, c5_6_4_4⟩
  · exact ⟨_, _, _, c1_6, c2_4, c3_5, c5_6_4_5⟩
theorem pc_6_5 : ∀ low ∈ o12, ∃ y z u : Str, PC (.ref 8) (.ref 10) low y z u := fun low h => by
  simp only [o12, List.mem_cons, List.not_mem_nil, or_false] at h
  rcases h with rfl | rfl | rfl | rfl | rfl | rfl
  · exact ⟨_, _, _, c1_6, c2_5, c3_0, c5_6_5_0⟩
  · exact ⟨_, _, _, c1_6, c2_5, c3_1, c5_6_5_1⟩
  · exact ⟨_, _, _, c1_6, c2_5, c3_2, c5_6_5_2⟩
  · exact ⟨_, _, _, c1_6, c2_5, c3_3, c5_6_5_3⟩
  · exact ⟨_, _, _, c1_6, c2_5, c3_4, c5_6_5_4⟩
  · exact ⟨_, _, _, c1_6, c2_5, c3_5, c5_6_5_5⟩
theorem pc_6 : ∀ bad ∈ o11, ∀ low ∈ o12, ∃ y z u : Str, PC (.ref 8) bad low y z u := fun bad h => by
  simp only [o11, List.mem_cons, List.not_mem_nil, or_false] at h
  rcases h with rfl | rfl | rfl | rfl | rfl | rfl
  · exact pc_6_0
  · exact pc_6_1
  · exact pc_6_2
  · exact pc_6_3
  · exact pc_6_4
  · exact pc_6_5
theorem pc_7_0 : ∀ low ∈ o12, ∃ y z u : Str, PC (.int (10 ^ 60)) (.non) low y z u := fun low h => by
  simp only [o12, List.mem_cons, List.not_mem_nil, or_false] at h
  rcases h with rfl | rfl | rfl | rfl | rfl | rfl
  · exact ⟨_, _, _, c1_7, c2_0, c3_0, c5_7_0_0⟩
  · exact ⟨_, _, _, c1_7, c2_0, c3_1, c5_7_0_1⟩
  · exact ⟨_, _, _, c1_7, c2_0, c3_2, c5_7_0_2⟩
  · exact ⟨_, _, _, c1_7, c2_0, c3_3, c5_7_0_3⟩
  · exact ⟨_, _, _, c1_7, c2_0, c3_4, c5_7_0_4⟩
  · exact ⟨_, _, _, c1_7, c2_0, c3_5, c5_7_0_5⟩
theorem pc_7_1 : ∀ low ∈ o12, ∃ y z u : Str, PC (.int (10 ^ 60)) (.bl true) low y z u := fun low h => by
  simp only [o12, List.mem_cons, List.not_mem_nil, or_false] at h
  rcases h with rfl | rfl | rfl | rfl | rfl | rfl
  · exact ⟨_, _, _, c1_7, c2_1, c3_0, c5_7_1_0⟩
  · exact ⟨_, _, _, c1_7, c2_1, c3_1, c5_7_1_1⟩
  · exact ⟨_, _, _, c1_7, c2_1, c3_2, c5_7_1_2⟩
  · exact ⟨_, _, _, c1_7, c2_1, c3_3, c5_7_1_3⟩
  · exact ⟨_, _, _, c1_7, c2_1, c3_4, c5_7_1_4⟩
  · exact ⟨_, _, _, c1_7, c2_1, c3_5, c5_7_1_5⟩
theorem pc_7_2 : ∀ low ∈ o12, ∃ y z u : Str, PC (.int (10 ^ 60)) (.str (st [49])) low y z u := fun low h => by
  simp only [o12, List.mem_cons, List.not_mem_nil, or_false] at h
  rcases h with rfl | rfl | rfl | rfl | rfl | rfl
  · exact ⟨_, _, _, c1_7, c2_2, c3_0, c5_7_2_0⟩
  · exact ⟨_, _, _, c1_7, c2_2, c3_1, c5_7_2_1⟩
  · exact ⟨_, _, _, c1_7, c2_2, c3_2, c5_7_2_2⟩
  · exact ⟨_, _, _, c1_7, c2_2, c3_3, c5_7_2_3⟩
  · exact ⟨_, _, _, c1_7, c2_2, c3_4, c5_7_2_4⟩
  · exact ⟨_, _, _, c1_7, c2_2, c3_5, c5_7_2_5⟩
theorem pc_7_3 : ∀ low ∈ o12, ∃ y z u : Str, PC (.int (10 ^ 60)) (.int (10 ^ 60)) low y z u := fun low h => by
  simp only [o12, List.mem_cons, List.not_mem_nil, or_false] at h
  rcases h with rfl | rfl | rfl | rfl | rfl | rfl
  · exact ⟨_, _, _, c1_7, c2_3, c3_0, c5_7_3_0⟩
  · exact ⟨_, _, _, c1_7, c2_3, c3_1, c5_7_3_1⟩
  · exact ⟨_, _, _, c1_7, c2_3, c3_2, c5_7_3_2⟩
  · exact ⟨_, _, _, c1_7, c2_3, c3_3, c5_7_3_3⟩
  · exact ⟨_, _, _, c1_7, c2_3, c3_4, c5_7_3_4⟩
  · exact ⟨_, _, _, c1_7, c2_3, c3_5, c5_7_3_5⟩
theorem pc_7_4 : ∀ low ∈ o12, ∃ y z u : Str, PC (.int (10 ^ 60)) (.tup [.int 1, .int 1]) low y z u := fun low h => by
  simp only [o12, List.mem_cons, List.not_mem_nil, or_false] at h
  rcases h with rfl | rfl | rfl | rfl | rfl | rfl
  · exact ⟨_, _, _, c1_7, c2_4, c3_0, c5_7_4_0⟩
  · exact ⟨_, _, _, c1_7, c2_4, c3_1, c5_7_4_1⟩
  · exact ⟨_, _, _, c1_7, c2_4, c3_2, c5_7_4_2⟩
  · exact ⟨_, _, _, c1_7, c2_4, c3_3, c5_7_4_3⟩
  · exact ⟨_, _, _, c1_7, c2_4, c3_4, c5_7_4_4⟩
  · exact ⟨_, _, _, c1_7, c2_4, c3_5, c5_7_4_5⟩
theorem pc_7_5 : ∀ low ∈ o12, ∃ y z u : Str, PC (.int (10 ^ 60)) (.ref 10) low y z u := fun low h => by
  simp only [o12, List.mem_cons, List.not_mem_nil, or_false] at h
  rcases h with rfl | rfl | rfl | rfl | rfl | rfl
  · exact ⟨_, _, _, c1_7, c2_5, c3_0, c5_7_5_0⟩
  · exact ⟨_, _, _, c1_7, c2_5, c3_1, c5_7_5_1⟩
  · exact ⟨_, _, _, c1_7, c2_5, c3_2, c5_7_5_2⟩
  · exact ⟨_, _, _, c1_7, c2_5, c3_3, c5_7_5_3⟩
  · exact ⟨_, _, _, c1_7, c2_5, c3_4, c5_7_5_4⟩
  · exact ⟨_, _, _, c1_7, c2_5, c3_5, c5_7_5_5⟩
theorem pc_7 : ∀ bad ∈ o11, ∀ low ∈ o12, ∃ y z u : Str, PC (.int (10 ^ 60)) bad low y z u := fun bad h => by
  simp only [o11, List.mem_cons, List.not_mem_nil, or_false] at h
  rcases h with rfl | rfl | rfl | rfl | rfl | rfl
  · exact pc_7_0
  · exact pc_7_1
  · exact pc_7_2
  · exact pc_7_3
  · exact pc_7_4
  · exact pc_7_5
theorem pc : ∀ far ∈ o9, ∀ bad ∈ o11, ∀ low ∈ o12, ∃ y z u : Str, PC far bad low y z u := fun far h => by
  simp only [o9, List.mem_cons, List.not_mem_nil, or_false] at h
  rcases h with rfl | rfl | rfl | rfl | rfl | rfl | rfl | rfl
  · exact pc_0
  · exact pc_1
  · exact pc_2
  · exact pc_3
  · exact pc_4
  · exact pc_5
  · exact pc_6
  · exact pc_7
theorem c6 : ∀ prime ∈ o13, ∀ (R : List D) (a b c : Int) (odd none far bad low : D) (x y z u : Str), RUN 21 19 7 (sg odd none far bad low prime 21 (.d (.glo 33)) (.d (.ref 22))) (hh R a b c (rep 12 tT) (mC x [tU y, tU y, tU z, tU u, tU two] [.lst [.str y, .str y, .str z, .str u, .str two]])) = .nx (sg odd none far bad low prime 21 (.d (.glo 33)) (.d (.ref 22))) (hh R a b c (rep 12 tT) (mC x ([tU y, tU y, tU z, tU u, tU two] ++ rep 7 tV) [.lst [.str y, .str y, .str z, .str u, .str two]])) := fun prime h => by
  simp only [o13, List.mem_cons, List.not_mem_nil, or_false] at h
  rcases h with rfl | rfl | rfl | rfl | rfl
  · exact c6_0
  · exact c6_1
  · exact c6_2
  · exact c6_3
  · exact c6_4
end Law


set_option Elab.async false
set_option linter.all false
set_option maxRecDepth 100000
set_option maxHeartbeats 0
namespace Law
open PySem Mn
def opS : Str := st [111, 112, 101, 114, 97, 116, 105, 111, 110]
def m7 (y z u : Str) : Hh := [.lst [.str y, .str y, .str z, .str u, .str two], .lst [.str opS], .lst (rep 7 (.str opS)), .lst ([.str y, .str y, .str z, .str u, .str two] ++ rep 7 (.str opS)), .lst ([tU y, tU y, tU z, tU u, tU two] ++ rep 7 tV)]
def C7 (y z u : Str) : Prop := ∀ (R : List D) (a b c : Int) (odd none far bad low prime : D) (x : Str), REST 14 26 (sg odd none far bad low prime 21 (.d (.glo 33)) (.d (.ref 22))) (hh R a b c (rep 12 tT) (mC x ([tU y, tU y, tU z, tU u, tU two] ++ rep 7 tV) [.lst [.str y, .str y, .str z, .str u, .str two]])) = .rt (.bl true) (hh R a b c (rep 12 tT) (mC x ([tU y, tU y, tU z, tU u, tU two] ++ rep 7 tV) (m7 y z u)))
theorem c7_0_0_0 : C7 (st [110, 117, 109, 98, 101, 114, 32, 78, 111, 110, 101]) (st [110, 117, 109, 98, 101, 114, 32, 78, 111, 110, 101]) (st [110, 117, 109, 98, 101, 114, 32, 78, 111, 110, 101]) := fun _ _ _ _ _ _ _ _ _ _ _ => by kernel_rfl
theorem c7_0_0_1 : C7 (st [110, 117, 109, 98, 101, 114, 32, 78, 111, 110, 101]) (st [110, 117, 109, 98, 101, 114, 32, 78, 111, 110, 101]) (st [110, 117, 109, 98, 101, 114, 32, 70, 97, 108, 115, 101]) := fun _ _ _ _ _ _ _ _ _ _ _ => by kernel_rfl
theorem c7_0_0_2 : C7 (st [110, 117, 109, 98, 101, 114, 32, 78, 111, 110, 101]) (st [110, 117, 109, 98, 101, 114, 32, 78, 111, 110, 101]) (st [110, 117, 109, 98, 101, 114, 32, 48]) := fun _ _ _ _ _ _ _ _ _ _ _ => by kernel_rfl
theorem c7_0_0_3 : C7 (st [110, 117, 109, 98, 101, 114, 32, 78, 111, 110, 101]) (st [110, 117, 109, 98, 101, 114, 32, 78, 111, 110, 101]) (st [110, 117, 109, 98, 101, 114, 32, 39, 50, 39]) := fun _ _ _ _ _ _ _ _ _ _ _ => by kernel_rfl
theorem c7_0_0_4 : C7 (st [110, 117, 109, 98, 101, 114, 32, 78, 111, 110, 101]) (st [110, 117, 109, 98, 101, 114, 32, 78, 111, 110, 101]) (st [110, 117, 109, 98, 101, 114, 32, 49, 48, 48, 48, 48, 48, 48, 48, 48, 48, 48, 48, 48, 48, 48, 48, 48, 48, 48, 48, 48, 48, 48, 48, 48, 48, 48, 48, 48, 48, 48, 48, 48, 48, 48, 48, 48, 48, 48, 48, 48, 48, 48, 48, 48, 48, 48, 48, 48, 48, 48, 48, 48, 48, 48, 48, 48, 48, 48, 48, 48]) := fun _ _ _ _ _ _ _ _ _ _ _ => by kernel_rfl
theorem c7_0_0_5 : C7 (st [110, 117, 109, 98, 101, 114, 32, 78, 111, 110, 101]) (st [110, 117, 109, 98, 101, 114, 32, 78, 111, 110, 101]) (st [110, 117, 109, 98, 101, 114, 32, 40, 50, 44, 32, 49, 41]) := fun _ _ _ _ _ _ _ _ _ _ _ => by kernel_rfl
theorem pd_0_0 : ∀ low ∈ o12, ∃ y z u : Str, PC (.non) (.non) low y z u ∧ C7 y z u := fun low h => by
  simp only [o12, List.mem_cons, List.not_mem_nil, or_false] at h
  rcases h with rfl | rfl | rfl | rfl | rfl | rfl
  · exact ⟨_, _, _, ⟨c1_0, c2_0, c3_0, c5_0_0_0⟩, c7_0_0_0⟩
  · exact ⟨_, _, _, ⟨c1_0, c2_0, c3_1, c5_0_0_1⟩, c7_0_0_1⟩
  · exact ⟨_, _, _, ⟨c1_0, c2_0, c3_2, c5_0_0_2⟩, c7_0_0_2⟩
  · exact ⟨_, _, _, ⟨c1_0, c2_0, c3_3, c5_0_0_3⟩, c7_0_0_3⟩
  · exact ⟨_, _, _, ⟨c1_0, c2_0, c3_4, c5_0_0_4⟩, c7_0_0_4⟩
  · exact ⟨_, _, _, ⟨c1_0, c2_0, c3_5, c5_0_0_5⟩, c7_0_0_5⟩
theorem c7_0_1_0 : C7 (st [110, 117, 109, 98, 101, 114, 32, 78, 111, 110, 101]) (st [110, 117, 109, 98, 101, 114, 32, 84, 114, 117, 101]) (st [110, 117, 109, 98, 101, 114, 32, 78, 111, 110, 101]) := fun _ _ _ _ _ _ _ _ _ _ _ => by kernel_rfl
theorem c7_0_1_1 : C7 (st [110, 117, 109, 98, 101, 114, 32, 78, 111, 110, 101]) (st [110, 117, 109, 98, 101, 114, 32, 84, 114, 117, 101]) (st [110, 117, 109, 98, 101, 114, 32, 70, 97, 108, 115, 101]) := fun _ _ _ _ _ _ _ _ _ _ _ => by kernel_rfl
theorem c7_0_1_2 : C7 (st [110, 117, 109, 98, 101, 114, 32, 78, 111, 110, 101]) (st [110, 117, 109, 98, 101, 114, 32, 84, 114, 117, 101]) (st [110, 117, 109, 98, 101, 114, 32, 48]) := fun _ _ _ _ _ _ _ _ _ _ _ => by kernel_rfl
theorem c7_0_1_3 : C7 (st [110, 117, 109, 98, 101, 114, 32, 78, 111, 110, 101]) (st [110, 117, 109, 98, 101, 114, 32, 84, 114, 117, 101]) (st [110, 117, 109, 98, 101, 114, 32, 39, 50, 39]) := fun _ _ _ _ _ _ _ _ _ _ _ => by kernel_rfl
theorem c7_0_1_4 : C7 (st [110, 117, 109, 98, 101, 114, 32, 78, 111, 110, 101]) (st [110, 117, 109, 98, 101, 114, 32, 84, 114, 117, 101]) (st [110, 117, 109, 98, 101, 114, 32, 49, 48, 48, 48, 48, 48, 48, 48, 48, 48, 48, 48, 48, 48, 48, 48, 48, 48, 48, 48, 48, 48, 48, 48, 48, 48, 48, 48, 48, 48, 48, 48, 48, 48, 48, 48, 48, 48, 48, 48, 48, 48, 48, 48, 48, 48, 48, 48, 48, 48, 48, 48, 48, 48, 48, 48, 48, 48, 48, 48, 48]) := fun _ _ _ _ _ _ _ _ _ _ _ => by kernel_rfl
theorem c7_0_1_5 : C7 (st [110, 117, 109, 98, 101, 114, 32, 78, 111, 110, 101]) (st [110, 117, 109, 98, 101, 114, 32, 84, 114, 117, 101]) (st [110, 117, 109, 98, 101, 114, 32, 40, 50, 44, 32, 49, 41]) := fun _ _ _ _ _ _ _ _ _ _ _ => by kernel_rfl
theorem pd_0_1 : ∀ low ∈ o12, ∃ y z u : Str, PC (.non) (.bl true) low y z u ∧ C7 y z u := fun low h => by
  simp only [o12, List.mem_cons, List.not_mem_nil, or_false] at h
  rcases h with rfl | rfl | rfl | rfl | rfl | rfl
  · exact ⟨_, _, _, ⟨c1_0, c2_1, c3_0, c5_0_1_0⟩, c7_0_1_0⟩
  · exact ⟨_, _, _, ⟨c1_0, c2_1, c3_1, c5_0_1_1⟩, c7_0_1_1⟩
  · exact ⟨_, _, _, ⟨c1_0, c2_1, c3_2, c5_0_1_2⟩, c7_0_1_2⟩
  · exact ⟨_, _, _, ⟨c1_0, c2_1, c3_3, c5_0_1_3⟩, c7_0_1_3⟩
  · exact ⟨_, _, _, ⟨c1_0, c2_1, c3_4, c5_0_1_4⟩, c7_0_1_4⟩
  · exact ⟨_, _, _, ⟨c1_0, c2_1, c3_5, c5_0_1_5⟩, c7_0_1_5⟩
theorem c7_0_2_0 : C7 (st [110, 117, 109, 98, 101, 114, 32, 78, 111, 110, 101]) (st [110, 117, 109, 98, 101, 114, 32, 39, 49, 39]) (st [110, 117, 109, 98, 101, 114, 32, 78, 111, 110, 101]) := fun _ _ _ _ _ _ _ _ _ _ _ => by kernel_rfl
theorem c7_0_2_1 : C7 (st [110, 117, 109, 98, 101, 114, 32, 78, 111, 110, 101]) (st [110, 117, 109, 98, 101, 114, 32, 39, 49, 39]) (st [110, 117, 109, 98, 101, 114, 32, 70, 97, 108, 115, 101]) := fun _ _ _ _ _ _ _ _ _ _ _ => by kernel_rfl
theorem c7_0_2_2 : C7 (st [110, 117, 109, 98, 101, 114, 32, 78, 111, 110, 101]) (st [110, 117, 109, 98, 101, 114, 32, 39, 49, 39]) (st [110, 117, 109, 98, 101, 114, 32, 48]) := fun _ _ _ _ _ _ _ _ _ _ _ => by kernel_rfl
theorem c7_0_2_3 : C7 (st [110, 117, 109, 98, 101, 114, 32, 78, 111, 110, 101]) (st [110, 117, 109, 98, 101, 114, 32, 39, 49, 39]) (st [110, 117, 109, 98, 101, 114, 32, 39, 50, 39]) := fun _ _ _ _ _ _ _ _ _ _ _ => by kernel_rfl
theorem c7_0_2_4 : C7 (st [110, 117, 109, 98, 101, 114, 32, 78, 111, 110, 101]) (st [110, 117, 109, 98, 101, 114, 32, 39, 49, 39]) (st [110, 117, 109, 98, 101, 114, 32, 49, 48, 48, 48, 48, 48, 48, 48, 48, 48, 48, 48, 48, 48, 48, 48, 48, 48, 48, 48, 48, 48, 48, 48, 48, 48, 48, 48, 48, 48, 48, 48, 48, 48, 48, 48, 48, 48, 48, 48, 48, 48, 48, 48, 48, 48, 48, 48, 48, 48, 48, 48, 48, 48, 48, 48, 48, 48, 48, 48, 48]) := fun _ _ _ _ _ _ _ _ _ _ _ => by kernel_rfl
theorem c7_0_2_5 : C7 (st [110, 117, 109, 98, 101, 114, 32, 78, 111, 110, 101]) (st [110, 117, 109, 98, 101, 114, 32, 39, 49, 39]) (st [110, 117, 109, 98, 101, 114, 32, 40, 50, 44, 32, 49, 41]) := fun _ _ _ _ _ _ _ _ _ _ _ => by kernel_rfl
theorem pd_0_2 : ∀ low ∈ o12, ∃ y z u : Str, PC (.non) (.str (st [49])) low y z u ∧ C7 y z u := fun low h => by
  simp only [o12, List.mem_cons, List.not_mem_nil, or_false] at h
  rcases h with rfl | rfl | rfl | rfl | rfl | rfl
  · exact ⟨_, _, _, ⟨c1_0, c2_2, c3_0, c5_0_2_0⟩, c7_0_2_0⟩
  · exact ⟨_, _, _, ⟨c1_0, c2_2, c3_1, c5_0_2_1⟩, c7_0_2_1⟩
  · exact ⟨_, _, _, ⟨c1_0, c2_2, c3_2, c5_0_2_2⟩, c7_0_2_2⟩
  · exact ⟨_, _, _, ⟨c1_0, c2_2, c3_3, c5_0_2_3⟩, c7_0_2_3⟩
  · exact ⟨_, _, _, ⟨c1_0, c2_2, c3_4, c5_0_2_4⟩, c7_0_2_4⟩
  · exact ⟨_, _, _, ⟨c1_0, c2_2, c3_5, c5_0_2_5⟩, c7_0_2_5⟩
theorem c7_0_3_0 : C7 (st [110, 117, 109, 98, 101, 114, 32, 78, 111, 110, 101]) (st [110, 117, 109, 98, 101, 114, 32, 49, 48, 48, 48, 48, 48, 48, 48, 48, 48, 48, 48, 48, 48, 48, 48, 48, 48, 48, 48, 48, 48, 48, 48, 48, 48, 48, 48, 48, 48, 48, 48, 48, 48, 48, 48, 48, 48, 48, 48, 48, 48, 48, 48, 48, 48, 48, 48, 48, 48, 48, 48, 48, 48, 48, 48, 48, 48, 48, 48, 48]) (st [110, 117, 109, 98, 101, 114, 32, 78, 111, 110, 101]) := fun _ _ _ _ _ _ _ _ _ _ _ => by kernel_rfl
theorem c7_0_3_1 : C7 (st [110, 117, 109, 98, 101, 114, 32, 78, 111, 110, 101]) (st [110, 117, 109, 98, 101, 114, 32, 49, 48, 48, 48, 48, 48, 48, 48, 48, 48, 48, 48, 48, 48, 48, 48, 48, 48, 48, 48, 48, 48, 48, 48, 48, 48, 48, 48, 48, 48, 48, 48, 48, 48, 48, 48, 48, 48, 48, 48, 48, 48, 48, 48, 48, 48, 48, 48, 48, 48, 48, 48, 48, 48, 48, 48, 48, 48, 48, 48, 48]) (st [110, 117, 109, 98, 101, 114, 32, 70, 97, 108, 115, 101]) := fun _ _ _ _ _ _ _ _ _ _ _ => by kernel_rfl
theorem c7_0_3_2 : C7 (st [110, 117, 109, 98, 101, 114, 32, 78, 111, 110, 101]) (st [110, 117, 109, 98, 101, 114, 32, 49, 48, 48, 48, 48, 48, 48, 48, 48, 48, 48, 48, 48, 48, 48, 48, 48, 48, 48, 48, 48, 48, 48, 48, 48, 48, 48, 48, 48, 48, 48, 48, 48, 48, 48, 48, 48, 48, 48, 48, 48, 48, 48, 48, 48, 48, 48, 48, 48, 48, 48, 48, 48, 48, 48, 48, 48, 48, 48, 48, 48]) (st [110, 117, 109, 98, 101, 114, 32, 48]) := fun _ _ _ _ _ _ _ _ _ _ _ => by kernel_rfl
theorem c7_0_3_3 : C7 (st [110, 117, 109, 98, 101, 114, 32, 78, 111, 110, 101]) (st [110, 117, 109, 98, 101, 114, 32, 49, 48, 48, 48, 48, 48, 48, 48, 48, 48, 48, 48, 48, 48, 48, 48, 48, 48, 48, 48, 48, 48, 48, 48, 48, 48, 48, 48, 48, 48, 48, 48, 48, 48, 48, 48, 48, 48, 48, 48, 48, 48, 48, 48, 48, 48, 48, 48, 48, 48, 48, 48, 48, 48, 48, 48, 48, 48, 48, 48, 48]) (st [110, 117, 109, 98, 101, 114, 32, 39, 50, 39]) := fun _ _ _ _ _ _ _ _ _ _ _ => by kernel_rfl
theorem c7_0_3_4 : C7 (st [110, 117, 109, 98, 101, 114, 32, 78, 111, 110, 101]) (st [110, 117, 109, 98, 101, 114, 32, 49, 48, 48, 48, 48, 48, 48, 48, 48, 48, 48, 48, 48, 48, 48, 48, 48, 48, 48, 48, 48, 48, 48, 48, 48, 48, 48, 48, 48, 48, 48, 48, 48, 48, 48, 48, 48, 48, 48, 48, 48, 48, 48, 48, 48, 48, 48, 48, 48, 48, 48, 48, 48, 48, 48, 48, 48, 48, 48, 48, 48]) (st [110, 117, 109, 98, 101, 114, 32, 49, 48, 48, 48, 48, 48, 48, 48, 48, 48, 48, 48, 48, 48, 48, 48, 48, 48, 48, 48, 48, 48, 48, 48, 48, 48, 48, 48, 48, 48, 48, 48, 48, 48, 48, 48, 48, 48, 48, 48, 48, 48, 48, 48, 48, 48, 48, 48, 48, 48, 48, 48, 48, 48, 48, 48, 48, 48, 48, 48, 48]) := fun _ _ _ _ _ _ _ _ _ _ _ => by kernel_rfl
theorem c7_0_3_5 : C7 (st [110, 117, 109, 98, 101, 114, 32, 78, 111, 110, 101]) (st [110, 117, 109, 98, 101, 114, 32, 49, 48, 48, 48, 48, 48, 48, 48, 48, 48, 48, 48, 48, 48, 48, 48, 48, 48, 48, 48, 48, 48, 48, 48, 48, 48, 48, 48, 48, 48, 48, 48, 48, 48, 48, 48, 48, 48, 48, 48, 48, 48, 48, 48, 48, 48, 48, 48, 48, 48, 48, 48, 48, 48, 48, 48, 48, 48, 48, 48, 48]) (st [110, 117, 109, 98, 101, 114, 32, 40, 50, 44, 32, 49, 41]) := fun _ _ _ _ _ _ _ _ _ _ _ => by kernel_rfl
theorem pd_0_3 : ∀ low ∈ o12, ∃ y z u : Str, PC (.non) (.int (10 ^ 60)) low y z u ∧ C7 y z u := fun low h => by
  simp only [o12, List.mem_cons, List.not_mem_nil, or_false] at h
  rcases h with rfl | rfl | rfl | rfl | rfl | rfl
  · exact ⟨_, _, _, ⟨c1_0, c2_3, c3_0, c5_0_3_0⟩, c7_0_3_0⟩
  · exact ⟨_, _, _, ⟨c1_0, c2_3, c3_1, c5_0_3_1⟩, c7_0_3_1⟩
  · exact ⟨_, _, _, ⟨c1_0, c2_3, c3_2, c5_0_3_2⟩, c7_0_3_2⟩
  · exact ⟨_, _, _, ⟨c1_0, c2_3, c3_3, c5_0_3_3⟩, c7_0_3_3⟩
  · exact ⟨_, _, _, ⟨c1_0, c2_3, c3_4, c5_0_3_4⟩, c7_0_3_4⟩
  · exact ⟨_, _, _, ⟨c1_0, c2_3, c3_5, c5_0_3_5⟩, c7_0_3_5⟩
theorem c7_0_4_0 : C7 (st [110, 117, 109, 98, 101, 114, 32, 78, 111, 110, 101]) (st [110, 117, 109, 98, 101, 114, 32, 40, 49, 44, 32, 49, 41]) (st [110, 117, 109, 98, 101, 114, 32, 78, 111, 110, 101]) := fun _ _ _ _ _ _ _ _ _ _ _ => by kernel_rfl
theorem c7_0_4_1 : C7 (st [110, 117, 109, 98, 101, 114, 32, 78, 111, 110, 101]) (st [110, 117, 109, 98, 101, 114, 32, 40, 49, 44, 32, 49, 41]) (st [110, 117, 109, 98, 101, 114, 32, 70, 97, 108, 115, 101]) := fun _ _ _ _ _ _ _ _ _ _ _ => by kernel_rfl
theorem c7_0_4_2 : C7 (st [110, 117, 109, 98, 101, 114, 32, 78, 111, 110, 101]) (st [110, 117, 109, 98, 101, 114, 32, 40, 49, 44, 32, 49, 41]) (st [110, 117, 109, 98, 101, 114, 32, 48]) := fun _ _ _ _ _ _ _ _ _ _ _ => by kernel_rfl
theorem c7_0_4_3 : C7 (st [110, 117, 109, 98, 101, 114, 32, 78, 111, 110, 101]) (st [110, 117, 109, 98, 101, 114, 32, 40, 49, 44, 32, 49, 41]) (st [110, 117, 109, 98, 101, 114, 32, 39, 50, 39]) := fun _ _ _ _ _ _ _ _ _ _ _ => by kernel_rfl
theorem c7_0_4_4 : C7 (st [110, 117, 109, 98, 101, 114, 32, 78, 111, 110, 101]) (st [110, 117, 109, 98, 101, 114, 32, 40, 49, 44, 32, 49, 41]) (st [110, 117, 109, 98, 101, 114, 32, 49, 48, 48, 48, 48, 48, 48, 48, 48, 48, 48, 48, 48, 48, 48, 48, 48, 48, 48, 48, 48, 48, 48, 48, 48, 48, 48, 48, 48, 48, 48, 48, 48, 48, 48, 48, 48, 48, 48, 48, 48, 48, 48, 48, 48, 48, 48, 48, 48, 48, 48, 48, 48, 48, 48, 48, 48, 48, 48, 48, 48]) := fun _ _ _ _ _ _ _ _ _ _ _ => by kernel_rfl
theorem c7_0_4_5 : C7 (st [110, 117, 109, 98, 101, 114, 32, 78, 111, 110, 101]) (st [110, 117, 109, 98, 101, 114, 32, 40, 49, 44, 32, 49, 41]) (st [110, 117, 109, 98, 101, 114, 32, 40, 50, 44, 32, 49, 41]) := fun _ _ _ _ _ _ _ _ _ _ _ => by kernel_rfl
theorem pd_0_4 : ∀ low ∈ o12, ∃ y z u : Str, PC (.non) (.tup [.int 1, .int 1]) low y z u ∧ C7 y z u := fun low h => by
  simp only [o12, List.mem_cons, List.not_mem_nil, or_false] at h
  rcases h with rfl | rfl | rfl | rfl | rfl | rfl
  · exact ⟨_, _, _, ⟨c1_0, c2_4, c3_0, c5_0_4_0⟩, c7_0_4_0⟩
  · exact ⟨_, _, _, ⟨c1_0, c2_4, c3_1, c5_0_4_1⟩, c7_0_4_1⟩
  · exact ⟨_, _, _, ⟨c1_0, c2_4, c3_2, c5_0_4_2⟩, c7_0_4_2⟩
  · exact ⟨_, _, _, ⟨c1_0, c2_4, c3_3, c5_0_4_3⟩, c7_0_4_3⟩
  · exact ⟨_, _, _, ⟨c1_0, c2_4, c3_4, c5_0_4_4⟩, c7_0_4_4⟩
  · exact ⟨_, _, _, ⟨c1_0, c2_4, c3_5, c5_0_4_5⟩, c7_0_4_5⟩
theorem c7_0_5_0 : C7 (st [110, 117, 109, 98, 101, 114, 32, 78, 111, 110, 101]) (st [110, 117, 109, 98, 101, 114, 32, 91, 49, 93]) (st [110, 117, 109, 98, 101, 114, 32, 78, 111, 110, 101]) := fun _ _ _ _ _ _ _ _ _ _ _ => by kernel_rfl
theorem c7_0_5_1 : C7 (st [110, 117, 109, 98, 101, 114, 32, 78, 111, 110, 101]) (st [110, 117, 109, 98, 101, 114, 32, 91, 49, 93]) (st [110, 117, 109, 98, 101, 114, 32, 70, 97, 108, 115, 101]) := fun _ _ _ _ _ _ _ _ _ _ _ => by kernel_rfl
theorem c7_0_5_2 : C7 (st [110, 117, 109, 98, 101, 114, 32, 78, 111, 110, 101]) (st [110, 117, 109, 98, 101, 114, 32, 91, 49, 93]) (st [110, 117, 109, 98, 101, 114, 32, 48]) := fun _ _ _ _ _ _ _ _ _ _ _ => by kernel_rfl
theorem c7_0_5_3 : C7 (st [110, 117, 109, 98, 101, 114, 32, 78, 111, 110, 101]) (st [110, 117, 109, 98, 101, 114, 32, 91, 49, 93]) (st [110, 117, 109, 98, 101, 114, 32, 39, 50, 39]) := fun _ _ _ _ _ _ _ _ _ _ _ => by kernel_rfl
theorem c7_0_5_4 : C7 (st [110, 117, 109, 98, 101, 114, 32, 78, 111, 110, 101]) (st [110, 117, 109, 98, 101, 114, 32, 91, 49, 93]) (st [110, 117, 109, 98, 101, 114, 32, 49, 48, 48, 48, 48, 48, 48, 48, 48, 48, 48, 48, 48, 48, 48, 48, 48, 48, 48, 48, 48, 48, 48, 48, 48, 48, 48, 48, 48, 48, 48, 48, 48, 48, 48, 48, 48, 48, 48, 48, 48, 48, 48, 48, 48, 48, 48, 48, 48, 48, 48, 48, 48, 48, 48, 48, 48, 48, 48, 48, 48]) := fun _ _ _ _ _ _ _ _ _ _ _ => by kernel_rfl
theorem c7_0_5_5 : C7 (st [110, 117, 109, 98, 101, 114, 32, 78, 111, 110, 101]) (st [110, 117, 109, 98, 101, 114, 32, 91, 49, 93]) (st [110, 117, 109, 98, 101, 114, 32, 40, 50, 44, 32, 49, 41]) := fun _ _ _ _ _ _ _ _ _ _ _ => by kernel_rfl
theorem pd_0_5 : ∀ low ∈ o12, ∃ y z u : Str, PC (.non) (.ref 10) low y z u ∧ C7 y z u := fun low h => by
  simp only [o12, List.mem_cons, List.not_mem_nil, or_false] at h
  rcases h with rfl | rfl | rfl | rfl | rfl | rfl
  · exact ⟨_, _, _, ⟨c1_0, c2_5, c3_0, c5_0_5_0⟩, c7_0_5_0⟩
  · exact ⟨_, _, _, ⟨c1_0, c2_5, c3_1, c5_0_5_1⟩, c7_0_5_1⟩
  · exact ⟨_, _, _, ⟨c1_0, c2_5, c3_2, c5_0_5_2⟩, c7_0_5_2⟩
  · exact ⟨_, _, _, ⟨c1_0, c2_5, c3_3, c5_0_5_3⟩, c7_0_5_3⟩
  · exact ⟨_, _, _, ⟨c1_0, c2_5, c3_4, c5_0_5_4⟩, c7_0_5_4⟩
  · exact ⟨_, _, _, ⟨c1_0, c2_5, c3_5, c5_0_5_5⟩, c7_0_5_5⟩
theorem pd_0 : ∀ bad ∈ o11, ∀ low ∈ o12, ∃ y z u : Str, PC (.non) bad low y z u ∧ C7 y z u := fun bad h => by
  simp only [o11, List.mem_cons, List.not_mem_nil, or_false] at h
  rcases h with rfl | rfl | rfl | rfl | rfl | rfl
  · exact pd_0_0
  · exact pd_0_1
  · exact pd_0_2
  · exact pd_0_3
  · exact pd_0_4
  · exact pd_0_5
theorem c7_1_0_0 : C7 (st [110, 117, 109, 98, 101, 114, 32, 45, 49]) (st [110, 117, 109, 98, 101, 114, 32, 78, 111, 110, 101]) (st [110, 117, 109, 98, 101, 114, 32, 78, 111, 110, 101]) := fun _ _ _ _ _ _ _ _ _ _ _ => by kernel_rfl
theorem c7_1_0_1 : C7 (st [110, 117, 109, 98, 101, 114, 32, 45, 49]) (st [110, 117, 109, 98, 101, 114, 32, 78, 111, 110, 101]) (st [110, 117, 109, 98, 101, 114, 32, 70, 97, 108, 115, 101]) := fun _ _ _ _ _ _ _ _ _ _ _ => by kernel_rfl
theorem c7_1_0_2 : C7 (st [110, 117, 109, 98, 101, 114, 32, 45, 49]) (st [110, 117, 109, 98, 101, 114, 32, 78, 111, 110, 101]) (st [110, 117, 109, 98, 101, 114, 32, 48]) := fun _ _ _ _ _ _ _ _ _ _ _ => by kernel_rfl
theorem c7_1_0_3 : C7 (st [110, 117, 109, 98, 101, 114, 32, 45, 49]) (st [110, 117, 109, 98, 101, 114, 32, 78, 111, 110, 101]) (st [110, 117, 109, 98, 101, 114, 32, 39, 50, 39]) := fun _ _ _ _ _ _ _ _ _ _ _ => by kernel_rfl
theorem c7_1_0_4 : C7 (st [110, 117, 109, 98, 101, 114, 32, 45, 49]) (st [110, 117, 109, 98, 101, 114, 32, 78, 111, 110, 101]) (st [110, 117, 109, 98, 101, 114, 32, 49, 48, 48, 48, 48, 48, 48, 48, 48, 48, 48, 48, 48, 48, 48, 48, 48, 48, 48, 48, 48, 48, 48, 48, 48, 48, 48, 48, 48, 48, 48, 48, 48, 48, 48, 48, 48, 48, 48, 48, 48, 48, 48, 48, 48, 48, 48, 48, 48, 48, 48, 48, 48, 48, 48, 48, 48, 48, 48, 48, 48]) := fun _ _ _ _ _ _ _ _ _ _ _ => by kernel_rfl
theorem c7_1_0_5 : C7 (st [110, 117, 109, 98, 101, 114, 32, 45, 49]) (st [110, 117, 109, 98, 101, 114, 32, 78, 111, 110, 101]) (st [110, 117, 109, 98, 101, 114, 32, 40, 50, 44, 32, 49, 41]) := fun _ _ _ _ _ _ _ _ _ _ _ => by kernel_rfl
theorem pd_1_0 : ∀ low ∈ o12, ∃ y z u : Str, PC (.int (-1)) (.non) low y z u ∧ C7 y z u := fun low h => by
  simp only [o12, List.mem_cons, List.not_mem_nil, or_false] at h
  rcases h with rfl | rfl | rfl | rfl | rfl | rfl
  · exact ⟨_, _, _, ⟨c1_1, c2_0, c3_0, c5_1_0_0⟩, c7_1_0_0⟩
  · exact ⟨_, _, _, ⟨c1_1, c2_0, c3_1, c5_1_0_1⟩, c7_1_0_1⟩
  · exact ⟨_, _, _, ⟨c1_1, c2_0, c3_2, c5_1_0_2⟩, c7_1_0_2⟩
  · exact ⟨_, _, _, ⟨c1_1, c2_0, c3_3, c5_1_0_3⟩, c7_1_0_3⟩
  · exact ⟨_, _, _, ⟨c1_1, c2_0, c3_4, c5_1_0_4⟩, c7_1_0_4⟩
  · exact ⟨_, _, _, ⟨c1_1, c2_0, c3_5, c5_1_0_5⟩, c7_1_0_5⟩
theorem c7_1_1_0 : C7 (st [110, 117, 109, 98, 101, 114, 32, 45, 49]) (st [110, 117, 109, 98, 101, 114, 32, 84, 114, 117, 101]) (st [110, 117, 109, 98, 101, 114, 32, 78, 111, 110, 101]) := fun _ _ _ _ _ _ _ _ _ _ _ => by kernel_rfl
theorem c7_1_1_1 : C7 (st [110, 117, 109, 98, 101, 114, 32, 45, 49]) (st [110, 117, 109, 98, 101, 114, 32, 84, 114, 117, 101]) (st [110, 117, 109, 98, 101, 114, 32, 70, 97, 108, 115, 101]) := fun _ _ _ _ _ _ _ _ _ _ _ => by kernel_rfl
theorem c7_1_1_2 : C7 (st [110, 117, 109, 98, 101, 114, 32, 45, 49]) (st [110, 117, 109, 98, 101, 114, 32, 84, 114, 117, 101]) (st [110, 117, 109, 98, 101, 114, 32, 48]) := fun _ _ _ _ _ _ _ _ _ _ _ => by kernel_rfl
theorem c7_1_1_3 : C7 (st [110, 117, 109, 98, 101, 114, 32, 45, 49]) (st [110, 117, 109, 98, 101, 114, 32, 84, 114, 117, 101]) (st [110, 117, 109, 98, 101, 114, 32, 39, 50, 39]) := fun _ _ _ _ _ _ _ _ _ _ _ => by kernel_rfl
theorem c7_1_1_4 : C7 (st [110, 117, 109, 98, 101, 114, 32, 45, 49]) (st [110, 117, 109, 98, 101, 114, 32, 84, 114, 117, 101]) (st [110, 117, 109, 98, 101, 114, 32, 49, 48, 48, 48, 48, 48, 48, 48, 48, 48, 48, 48, 48, 48, 48, 48, 48, 48, 48, 48, 48, 48, 48, 48, 48, 48, 48, 48, 48, 48, 48, 48, 48, 48, 48, 48, 48, 48, 48, 48, 48, 48, 48, 48, 48, 48, 48, 48, 48, 48, 48, 48, 48, 48, 48, 48, 48, 48, 48, 48, 48]) := fun _ _ _ _ _ _ _ _ _ _ _ => by kernel_rfl
theorem c7_1_1_5 : C7 (st [110, 117, 109, 98, 101, 114, 32, 45, 49]) (st [110, 117, 109, 98, 101, 114, 32, 84, 114, 117, 101]) (st [110, 117, 109, 98, 101, 114, 32, 40, 50, 44, 32, 49, 41]) := fun _ _ _ _ _ _ _ _ _ _ _ => by kernel_rfl
theorem pd_1_1 : ∀ low ∈ o12, ∃ y z u : Str, PC (.int (-1)) (.bl true) low y z u ∧ C7 y z u := fun low h => by
  simp only [o12, List.mem_cons, List.not_mem_nil, or_false] at h
  rcases h with rfl | rfl | rfl | rfl | rfl | rfl
  · exact ⟨_, _, _, ⟨c1_1, c2_1, c3_0, c5_1_1_0⟩, c7_1_1_0⟩
  · exact ⟨_, _, _, ⟨c1_1, c2_1, c3_1, c5_1_1_1⟩, c7_1_1_1⟩
  · exact ⟨_, _, _, ⟨c1_1, c2_1, c3_2, c5_1_1_2⟩, c7_1_1_2⟩
  · exact ⟨_, _, _, ⟨c1_1, c2_1, c3_3, c5_1_1_3⟩, c7_1_1_3⟩
  · exact ⟨_, _, _, ⟨c1_1, c2_1, c3_4, c5_1_1_4⟩, c7_1_1_4⟩
  · exact ⟨_, _, _, ⟨c1_1, c2_1, c3_5, c5_1_1_5⟩, c7_1_1_5⟩
theorem c7_1_2_0 : C7 (st [110, 117, 109, 98, 101, 114, 32, 45, 49]) (st [110, 117, 109, 98, 101, 114, 32, 39, 49, 39]) (st [110, 117, 109, 98, 101, 114, 32, 78, 111, 110, 101]) := fun _ _ _ _ _ _ _ _ _ _ _ => by kernel_rfl
theorem c7_1_2_1 : C7 (st [110, 117, 109, 98, 101, 114, 32, 45, 49]) (st [110, 117, 109, 98, 101, 114, 32, 39, 49, 39]) (st [110, 117, 109, 98, 101, 114, 32, 70, 97, 108, 115, 101]) := fun _ _ _ _ _ _ _ _ _ _ _ => by kernel_rfl
theorem c7_1_2_2 : C7 (st [110, 117, 109, 98, 101, 114, 32, 45, 49]) (st [110, 117, 109, 98, 101, 114, 32, 39, 49, 39]) (st [110, 117, 109, 98, 101, 114, 32, 48]) := fun _ _ _ _ _ _ _ _ _ _ _ => by kernel_rfl
theorem c7_1_2_3 : C7 (st [110, 117, 109, 98, 101, 114, 32, 45, 49]) (st [110, 117, 109, 98, 101, 114, 32, 39, 49, 39]) (st [110, 117, 109, 98, 101, 114, 32, 39, 50, 39]) := fun _ _ _ _ _ _ _ _ _ _ _ => by kernel_rfl
theorem c7_1_2_4 : C7 (st [110, 117, 109, 98, 101, 114, 32, 45, 49]) (st [110, 117, 109, 98, 101, 114, 32, 39, 49, 39]) (st [110, 117, 109, 98, 101, 114, 32, 49, 48, 48, 48, 48, 48, 48, 48, 48, 48, 48, 48, 48, 48, 48, 48, 48, 48, 48, 48, 48, 48, 48, 48, 48, 48, 48, 48, 48, 48, 48, 48, 48, 48, 48, 48, 48, 48, 48, 48, 48, 48, 48, 48, 48, 48, 48, 48, 48, 48, 48, 48, 48, 48, 48, 48, 48, 48, 48, 48, 48]) := fun _ _ _ _ _ _ _ _ _ _ _ => by kernel_rfl
theorem c7_1_2_5 : C7 (st [110, 117, 109, 98, 101, 114, 32, 45, 49]) (st [110, 117, 109, 98, 101, 114, 32, 39, 49, 39]) (st [110, 117, 109, 98, 101, 114, 32, 40, 50, 44, 32, 49, 41]) := fun _ _ _ _ _ _ _ _ _ _ _ => by kernel_rfl
theorem pd_1_2 : ∀ low ∈ o12, ∃ y z u : Str, PC (.int (-1)) (.str (st [49])) low y z u ∧ C7 y z u := fun low h => by
  simp only [o12, List.mem_cons, List.not_mem_nil, or_false] at h
  rcases h with rfl | rfl | rfl | rfl | rfl | rfl
  · exact ⟨_, _, _, ⟨c1_1, c2_2, c3_0, c5_1_2_0⟩, c7_1_2_0⟩
  · exact ⟨_, _, _, ⟨c1_1, c2_2, c3_1, c5_1_2_1⟩, c7_1_2_1⟩
  · exact ⟨_, _, _, ⟨c1_1, c2_2, c3_2, c5_1_2_2⟩, c7_1_2_2⟩
  · exact ⟨_, _, _, ⟨c1_1, c2_2, c3_3, c5_1_2_3⟩, c7_1_2_3⟩
  · exact ⟨_, _, _, ⟨c1_1, c2_2, c3_4, c5_1_2_4⟩, c7_1_2_4⟩
  · exact ⟨_, _, _, ⟨c1_1, c2_2, c3_5, c5_1_2_5⟩, c7_1_2_5⟩
theorem c7_1_3_0 : C7 (st [110, 117, 109, 98, 101, 114, 32, 45, 49]) (st [110, 117, 109, 98, 101, 114, 32, 49, 48, 48, 48, 48, 48, 48, 48, 48, 48, 48, 48, 48, 48, 48, 48, 48, 48, 48, 48, 48, 48, 48, 48, 48, 48, 48, 48, 48, 48, 48, 48, 48, 48, 48, 48, 48, 48, 48, 48, 48, 48, 48, 48, 48, 48, 48, 48, 48, 48, 48, 48, 48, 48, 48, 48, 48, 48, 48, 48, 48]) (st [110, 117, 109, 98, 101, 114, 32, 78, 111, 110, 101]) := fun _ _ _ _ _ _ _ _ _ _ _ => by kernel_rfl
theorem c7_1_3_1 : C7 (st [110, 117, 109, 98, 101, 114, 32, 45, 49]) (st [110, 117, 109, 98, 101, 114, 32, 49, 48, 48, 48, 48, 48, 48, 48, 48, 48, 48, 48, 48, 48, 48, 48, 48, 48, 48, 48, 48, 48, 48, 48, 48, 48, 48, 48, 48, 48, 48, 48, 48, 48, 48, 48, 48, 48, 48, 48, 48, 48, 48, 48, 48, 48, 48, 48, 48, 48, 48, 48, 48, 48, 48, 48, 48, 48, 48, 48, 48]) (st [110, 117, 109, 98, 101, 114, 32, 70, 97, 108, 115, 101]) := fun _ _ _ _ _ _ _ _ _ _ _ => by kernel_rfl
theorem c7_1_3_2 : C7 (st [110, 117, 109, 98, 101, 114, 32, 45, 49]) (st [110, 117, 109, 98, 101, 114, 32, 49, 48, 48, 48, 48, 48, 48, 48, 48, 48, 48, 48, 48, 48, 48, 48, 48, 48, 48, 48, 48, 48, 48, 48, 48, 48, 48, 48, 48, 48, 48, 48, 48, 48, 48, 48, 48, 48, 48, 48, 48, 48, 48, 48, 48, 48, 48, 48, 48, 48, 48, 48, 48, 48, 48, 48, 48, 48, 48, 48, 48]) (st [110, 117, 109, 98, 101, 114, 32, 48]) := fun _ _ _ _ _ _ _ _ _ _ _ => by kernel_rfl
theorem c7_1_3_3 : C7 (st [110, 117, 109, 98, 101, 114, 32, 45, 49]) (st [110, 117, 109, 98, 101, 114, 32, 49, 48, 48, 48, 48, 48, 48, 48, 48, 48, 48, 48, 48, 48, 48, 48, 48, 48, 48, 48, 48, 48, 48, 48, 48, 48, 48, 48, 48, 48, 48, 48, 48, 48, 48, 48, 48, 48, 48, 48, 48, 48, 48, 48, 48, 48, 48, 48, 48, 48, 48, 48, 48, 48, 48, 48, 48, 48, 48, 48, 48]) (st [110, 117, 109, 98, 101, 114, 32, 39, 50, 39]) := fun _ _ _ _ _ _ _ _ _ _ _ => by kernel_rfl
theorem c7_1_3_4 : C7 (st [110, 117, 109, 98, 101, 114, 32, 45, 49]) (st [110, 117, 109, 98, 101, 114, 32, 49, 48, 48, 48, 48, 48, 48, 48, 48, 48, 48, 48, 48, 48, 48, 48, 48, 48, 48, 48, 48, 48, 48, 48, 48, 48, 48, 48, 48, 48, 48, 48, 48, 48, 48, 48, 48, 48, 48, 48, 48, 48, 48, 48, 48, 48, 48, 48, 48, 48, 48, 48, 48, 48, 48, 48, 48, 48, 48, 48, 48]) (st [110, 117, 109, 98, 101, 114, 32, 49, 48, 48, 48, 48, 48, 48, 48, 48, 48, 48, 48, 48, 48, 48, 48, 48, 48, 48, 48, 48, 48, 48, 48, 48, 48, 48, 48, 48, 48, 48, 48, 48, 48, 48, 48, 48, 48, 48, 48, 48, 48, 48, 48, 48, 48, 48, 48, 48, 48, 48, 48, 48, 48, 48, 48, 48, 48, 48, 48, 48]) := fun _ _ _ _ _ _ _ _ _ _ _ => by kernel_rfl
theorem c7_1_3_5 : C7 (st [110, 117, 109, 98, 101, 114, 32, 45, 49]) (st [110, 117, 109, 98, 101, 114, 32, 49, 48, 48, 48, 48, 48, 48, 48, 48, 48, 48, 48, 48, 48, 48, 48, 48, 48, 48, 48, 48, 48, 48, 48, 48, 48, 48, 48, 48, 48, 48, 48, 48, 48, 48, 48, 48, 48, 48, 48, 48, 48, 48, 48, 48, 48, 48, 48, 48, 48, 48, 48, 48, 48, 48, 48, 48, 48, 48, 48, 48]) (st [110, 117, 109, 98, 101, 114, 32, 40, 50, 44, 32, 49, 41]) := fun _ _ _ _ _ _ _ _ _ _ _ => by kernel_rfl
theorem pd_1_3 : ∀ low ∈ o12, ∃ y z u : Str, PC (.int (-1)) (.int (10 ^ 60)) low y z u ∧ C7 y z u := fun low h => by
  simp only [o12, List.mem_cons, List.not_mem_nil, or_false] at h
  rcases h with rfl | rfl | rfl | rfl | rfl | rfl
  · exact ⟨_, _, _, ⟨c1_1, c2_3, c3_0, c5_1_3_0⟩, c7_1_3_0⟩
  · exact ⟨_, _, _, ⟨c1_1, c2_3, c3_1, c5_1_3_1⟩, c7_1_3_1⟩
  · exact ⟨_, _, _, ⟨c1_1, c2_3, c3_2, c5_1_3_2⟩, c7_1_3_2⟩
  · exact ⟨_, _, _, ⟨c1_1, c2_3, c3_3, c5_1_3_3⟩, c7_1_3_3⟩
  · exact ⟨_, _, _, ⟨c1_1, c2_3, c3_4, c5_1_3_4⟩, c7_1_3_4⟩
  · exact ⟨_, _, _, ⟨c1_1, c2_3, c3_5, c5_1_3_5⟩, c7_1_3_5⟩
theorem c7_1_4_0 : C7 (st [110, 117, 109, 98, 101, 114, 32, 45, 49]) (st [110, 117, 109, 98, 101, 114, 32, 40, 49, 44, 32, 49, 41]) (st [110, 117, 109, 98, 101, 114, 32, 78, 111, 110, 101]) := fun _ _ _ _ _ _ _ _ _ _ _ => by kernel_rfl
theorem c7_1_4_1 : C7 (st [110, 117, 109, 98, 101, 114, 32, 45, 49]) (st [110, 117, 109, 98, 101, 114, 32, 40, 49, 44, 32, 49, 41]) (st [110, 117, 109, 98, 101, 114, 32, 70, 97, 108, 115, 101]) := fun _ _ _ _ _ _ _ _ _ _ _ => by kernel_rfl
theorem c7_1_4_2 : C7 (st [110, 117, 109, 98, 101, 114, 32, 45, 49]) (st [110, 117, 109, 98, 101, 114, 32, 40, 49, 44, 32, 49, 41]) (st [110, 117, 109, 98, 101, 114, 32, 48]) := fun _ _ _ _ _ _ _ _ _ _ _ => by kernel_rfl
theorem c7_1_4_3 : C7 (st [110, 117, 109, 98, 101, 114, 32, 45, 49]) (st [110, 117, 109, 98, 101, 114, 32, 40, 49, 44, 32, 49, 41]) (st [110, 117, 109, 98, 101, 114, 32, 39, 50, 39]) := fun _ _ _ _ _ _ _ _ _ _ _ => by kernel_rfl
theorem c7_1_4_4 : C7 (st [110, 117, 109, 98, 101, 114, 32, 45, 49]) (st [110, 117, 109, 98, 101, 114, 32, 40, 49, 44, 32, 49, 41]) (st [110, 117, 109, 98, 101, 114, 32, 49, 48, 48, 48, 48, 48, 48, 48, 48, 48, 48, 48, 48, 48, 48, 48, 48, 48, 48, 48, 48, 48, 48, 48, 48, 48, 48, 48, 48, 48, 48, 48, 48, 48, 48, 48, 48, 48, 48, 48, 48, 48, 48, 48, 48, 48, 48, 48, 48, 48, 48, 48, 48, 48, 48, 48, 48, 48, 48, 48, 48]) := fun _ _ _ _ _ _ _ _ _ _ _ => by kernel_rfl
theorem c7_1_4_5 : C7 (st [110, 117, 109, 98, 101, 114, 32, 45, 49]) (st [110, 117, 109, 98, 101, 114, 32, 40, 49, 44, 32, 49, 41]) (st [110, 117, 109, 98, 101, 114, 32, 40, 50, 44, 32, 49, 41]) := fun _ _ _ _ _ _ _ _ _ _ _ => by kernel_rfl
theorem pd_1_4 : ∀ low ∈ o12, ∃ y z u : Str, PC (.int (-1)) (.tup [.int 1, .int 1]) low y z u ∧ C7 y z u := fun low h => by
  simp only [o12, List.mem_cons, List.not_mem_nil, or_false] at h
  rcases h with rfl | rfl | rfl | rfl | rfl | rfl
  · exact ⟨_, _, _, ⟨c1_1, c2_4, c3_0, c5_1_4_0⟩, c7_1_4_0⟩
  · exact ⟨_, _, _, ⟨c1_1, c2_4, c3_1, c5_1_4_1⟩, c7_1_4_1⟩
  · exact ⟨_, _, _, ⟨c1_1, c2_4, c3_2, c5_1_4_2⟩, c7_1_4_2⟩
  · exact ⟨_, _, _, ⟨c1_1, c2_4, c3_3, c5_1_4_3⟩, c7_1_4_3⟩
  · exact ⟨_, _, _, ⟨c1_1, c2_4, c3_4, c5_1_4_4⟩, c7_1_4_4⟩
  · exact ⟨_, _, _, ⟨c1_1, c2_4, c3_5, c5_1_4_5⟩, c7_1_4_5⟩
theorem c7_1_5_0 : C7 (st [110, 117, 109, 98, 101, 114, 32, 45, 49]) (st [110, 117, 109, 98, 101, 114, 32, 91, 49, 93]) (st [110, 117, 109, 98, 101, 114, 32, 78, 111, 110, 101]) := fun _ _ _ _ _ _ _ _ _ _ _ => by kernel_rfl
theorem c7_1_5_1 : C7 (st [110, 117, 109, 98, 101, 114, 32, 45, 49]) (st [110, 117, 109, 98, 101, 114, 32, 91, 49, 93]) (st [110, 117, 109, 98, 101, 114, 32, 70, 97, 108, 115, 101]) := fun _ _ _ _ _ _ _ _ _ _ _ => by kernel_rfl
theorem c7_1_5_2 : C7 (st [110, 117, 109, 98, 101, 114, 32, 45, 49]) (st [110, 117, 109, 98, 101, 114, 32, 91, 49, 93]) (st [110, 117, 109, 98, 101, 114, 32, 48]) := fun _ _ _ _ _ _ _ _ _ _ _ => by kernel_rfl
theorem c7_1_5_3 : C7 (st [110, 117, 109, 98, 101, 114, 32, 45, 49]) (st [110, 117, 109, 98, 101, 114, 32, 91, 49, 93]) (st [110, 117, 109, 98, 101, 114, 32, 39, 50, 39]) := fun _ _ _ _ _ _ _ _ _ _ _ => by kernel_rfl
theorem c7_1_5_4 : C7 (st [110, 117, 109, 98, 101, 114, 32, 45, 49]) (st [110, 117, 109, 98, 101, 114, 32, 91, 49, 93]) (st [110, 117, 109, 98, 101, 114, 32, 49, 48, 48, 48, 48, 48, 48, 48, 48, 48, 48, 48, 48, 48, 48, 48, 48, 48, 48, 48, 48, 48, 48, 48, 48, 48, 48, 48, 48, 48, 48, 48, 48, 48, 48, 48, 48, 48, 48, 48, 48, 48, 48, 48, 48, 48, 48, 48, 48, 48, 48, 48, 48, 48, 48, 48, 48, 48, 48, 48, 48]) := fun _ _ _ _ _ _ _ _ _ _ _ => by kernel_rfl
theorem c7_1_5_5 : C7 (st [110, 117, 109, 98, 101, 114, 32, 45, 49]) (st [110, 117, 109, 98, 101, 114, 32, 91, 49, 93]) (st [110, 117, 109, 98, 101, 114, 32, 40, 50, 44, 32, 49, 41]) := fun _ _ _ _ _ _ _ _ _ _ _ => by kernel_rfl
theorem pd_1_5 : ∀ low ∈ o12, ∃ y z u : Str, PC (.int (-1)) (.ref 10) low y z u ∧ C7 y z u := fun low h => by
  simp only [o12, List.mem_cons, List.not_mem_nil, or_false] at h
  rcases h with rfl | rfl | rfl | rfl | rfl | rfl
  · exact ⟨_, _, _, ⟨c1_1, c2_5, c3_0, c5_1_5_0⟩, c7_1_5_0⟩
  · exact ⟨_, _, _, ⟨c1_1, c2_5, c3_1, c5_1_5_1⟩, c7_1_5_1⟩
  · exact ⟨_, _, _, ⟨c1_1, c2_5, c3_2, c5_1_5_2⟩, c7_1_5_2⟩
  · exact ⟨_, _, _, ⟨c1_1, c2_5, c3_3, c5_1_5_3⟩, c7_1_5_3⟩
  · exact ⟨_, _, _, ⟨c1_1, c2_5, c3_4, c5_1_5_4⟩, c7_1_5_4⟩
  · exact ⟨_, _, _, ⟨c1_1, c2_5, c3_5, c5_1_5_5⟩, c7_1_5_5⟩
theorem pd_1 : ∀ bad ∈ o11, ∀ low ∈ o12, ∃ y z u : Str, PC (.int (-1)) bad low y z u ∧ C7 y z u := fun bad h => by
  simp only [o11, List.mem_cons, List.not_mem_nil, or_false] at h
  rcases h with rfl | rfl | rfl | rfl | rfl | rfl
  · exact pd_1_0
  · exact pd_1_1
  · exact pd_1_2
  · exact pd_1_3
  · exact pd_1_4
  · exact pd_1_5
theorem c7_2_0_0 : C7 (st [110, 117, 109, 98, 101, 114, 32, 50, 48, 49]) (st [110, 117, 109, 98, 101, 114, 32, 78, 111, 110, 101]) (st [110, 117, 109, 98, 101, 114, 32, 78, 111, 110, 101]) := fun _ _ _ _ _ _ _ _ _ _ _ => by kernel_rfl
theorem c7_2_0_1 : C7 (st [110, 117, 109, 98, 101, 114, 32, 50, 48, 49]) (st [110, 117, 109, 98, 101, 114, 32, 78, 111, 110, 101]) (st [110, 117, 109, 98, 101, 114, 32, 70, 97, 108, 115, 101]) := fun _ _ _ _ _ _ _ _ _ _ _ => by kernel_rfl
theorem c7_2_0_2 : C7 (st [110, 117, 109, 98, 101, 114, 32, 50, 48, 49]) (st [110, 117, 109, 98, 101, 114, 32, 78, 111, 110, 101]) (st [110, 117, 109, 98, 101, 114, 32, 48]) := fun _ _ _ _ _ _ _ _ _ _ _ => by kernel_rfl
theorem c7_2_0_3 : C7 (st [110, 117, 109, 98, 101, 114, 32, 50, 48, 49]) (st [110, 117, 109, 98, 101, 114, 32, 78, 111, 110, 101]) (st [110, 117, 109, 98, 101, 114, 32, 39, 50, 39]) := fun _ _ _ _ _ _ _ _ _ _ _ => by kernel_rfl
theorem c7_2_0_4 : C7 (st [110, 117, 109, 98, 101, 114, 32, 50, 48, 49]) (st [110, 117, 109, 98, 101, 114, 32, 78, 111, 110, 101]) (st [110, 117, 109, 98, 101, 114, 32, 49, 48, 48, 48, 48, 48, 48, 48, 48, 48, 48, 48, 48, 48, 48, 48, 48, 48, 48, 48, 48, 48, 48, 48, 48, 48, 48, 48, 48, 48, 48, 48, 48, 48, 48, 48, 48, 48, 48, 48, 48, 48, 48, 48, 48, 48, 48, 48, 48, 48, 48, 48, 48, 48, 48, 48, 48, 48, 48, 48, 48]) := fun _ _ _ _ _ _ _ _ _ _ _ => by kernel_rfl
theorem c7_2_0_5 : C7 (st [110, 117, 109, 98, 101, 114, 32, 50, 48, 49]) (st [110, 117, 109, 98, 101, 114, 32, 78, 111, 110, 101]) (st [110, 117, 109, 98, 101, 114, 32, 40, 50, 44, 32, 49, 41]) := fun _ _ _ _ _ _ _ _ _ _ _ => by kernel_rfl
theorem pd_2_0 : ∀ low ∈ o12, ∃ y z u : Str, PC (.int 201) (.non) low y z u ∧ C7 y z u := fun low h => by
  simp only [o12, List.mem_cons, List.not_mem_nil, or_false] at h
  rcases h with rfl | rfl | rfl | rfl | rfl | rfl
  · exact ⟨_, _, _, ⟨c1_2, c2_0, c3_0, c5_2_0_0⟩, c7_2_0_0⟩
  · exact ⟨_, _, _, ⟨c1_2, c2_0, c3_1, c5_2_0_1⟩, c7_2_0_1⟩
  · exact ⟨_, _, _, ⟨c1_2, c2_0, c3_2, c5_2_0_2⟩, c7_2_0_2⟩
  · exact ⟨_, _, _, ⟨c1_2, c2_0, c3_3, c5_2_0_3⟩, c7_2_0_3⟩
  · exact ⟨_, _, _, ⟨c1_2, c2_0, c3_4, c5_2_0_4⟩, c7_2_0_4⟩
  · exact ⟨_, _, _, ⟨c1_2, c2_0, c3_5, c5_2_0_5⟩, c7_2_0_5⟩
theorem c7_2_1_0 : C7 (st [110, 117, 109, 98, 101, 114, 32, 50, 48, 49]) (st [110, 117, 109, 98, 101, 114, 32, 84, 114, 117, 101]) (st [110, 117, 109, 98, 101, 114, 32, 78, 111, 110, 101]) := fun _ _ _ _ _ _ _ _ _ _ _ => by kernel_rfl
theorem c7_2_1_1 : C7 (st [110, 117, 109, 98, 101, 114, 32, 50, 48, 49]) (st [110, 117, 109, 98, 101, 114, 32, 84, 114, 117, 101]) (st [110, 117, 109, 98, 101, 114, 32, 70, 97, 108, 115, 101]) := fun _ _ _ _ _ _ _ _ _ _ _ => by kernel_rfl
theorem c7_2_1_2 : C7 (st [110, 117, 109, 98, 101, 114, 32, 50, 48, 49]) (st [110, 117, 109, 98, 101, 114, 32, 84, 114, 117, 101]) (st [110, 117, 109, 98, 101, 114, 32, 48]) := fun _ _ _ _ _ _ _ _ _ _ _ => by kernel_rfl
theorem c7_2_1_3 : C7 (st [110, 117, 109, 98, 101, 114, 32, 50, 48, 49]) (st [110, 117, 109, 98, 101, 114, 32, 84, 114, 117, 101]) (st [110, 117, 109, 98, 101, 114, 32, 39, 50, 39]) := fun _ _ _ _ _ _ _ _ _ _ _ => by kernel_rfl
theorem c7_2_1_4 : C7 (st [110, 117, 109, 98, 101, 114, 32, 50, 48, 49]) (st [110, 117, 109, 98, 101, 114, 32, 84, 114, 117, 101]) (st [110, 117, 109, 98, 101, 114, 32, 49, 48, 48, 48, 48, 48, 48, 48, 48, 48, 48, 48, 48, 48, 48, 48, 48, 48, 48, 48, 48, 48, 48, 48, 48, 48, 48, 48, 48, 48, 48, 48, 48, 48, 48, 48, 48, 48, 48, 48, 48, 48, 48, 48, 48, 48, 48, 48, 48, 48, 48, 48, 48, 48, 48, 48, 48, 48, 48, 48, 48]) := fun _ _ _ _ _ _ _ _ _ _ _ => by kernel_rfl
theorem c7_2_1_5 : C7 (st [110, 117, 109, 98, 101, 114, 32, 50, 48, 49]) (st [110, 117, 109, 98, 101, 114, 32, 84, 114, 117, 101]) (st [110, 117, 109, 98, 101, 114, 32, 40, 50, 44, 32, 49, 41]) := fun _ _ _ _ _ _ _ _ _ _ _ => by kernel_rfl
theorem pd_2_1 : ∀ low ∈ o12, ∃ y z u : Str, PC (.int 201) (.bl true) low y z u ∧ C7 y z u := fun low h => by
  simp only [o12, List.mem_cons, List.not_mem_nil, or_false] at h
  rcases h with rfl | rfl | rfl | rfl | rfl | rfl
  · exact ⟨_, _, _, ⟨c1_2, c2_1, c3_0, c5_2_1_0⟩, c7_2_1_0⟩
  · exact ⟨_, _, _, ⟨c1_2, c2_1, c3_1, c5_2_1_1⟩, c7_2_1_1⟩
  · exact ⟨_, _, _, ⟨c1_2, c2_1, c3_2, c5_2_1_2⟩, c7_2_1_2⟩
  · exact ⟨_, _, _, ⟨c1_2, c2_1, c3_3, c5_2_1_3⟩, c7_2_1_3⟩
  · exact ⟨_, _, _, ⟨c1_2, c2_1, c3_4, c5_2_1_4⟩, c7_2_1_4⟩
  · exact ⟨_, _, _, ⟨c1_2, c2_1, c3_5, c5_2_1_5⟩, c7_2_1_5⟩
theorem c7_2_2_0 : C7 (st [110, 117, 109, 98, 101, 114, 32, 50, 48, 49]) (st [110, 117, 109, 98, 101, 114, 32, 39, 49, 39]) (st [110, 117, 109, 98, 101, 114, 32, 78, 111, 110, 101]) := fun _ _ _ _ _ _ _ _ _ _ _ => by kernel_rfl
theorem c7_2_2_1 : C7 (st [110, 117, 109, 98, 101, 114, 32, 50, 48, 49]) (st [110, 117, 109, 98, 101, 114, 32, 39, 49, 39]) (st [110, 117, 109, 98, 101, 114, 32, 70, 97, 108, 115, 101]) := fun _ _ _ _ _ _ _ _ _ _ _ => by kernel_rfl
theorem c7_2_2_2 : C7 (st [110, 117, 109, 98, 101, 114, 32, 50, 48, 49]) (st [110, 117, 109, 98, 101, 114, 32, 39, 49, 39]) (st [110, 117, 109, 98, 101, 114, 32, 48]) := fun _ _ _ _ _ _ _ _ _ _ _ => by kernel_rfl
theorem c7_2_2_3 : C7 (st [110, 117, 109, 98, 101, 114, 32, 50, 48, 49]) (st [110, 117, 109, 98, 101, 114, 32, 39, 49, 39]) (st [110, 117, 109, 98, 101, 114, 32, 39, 50, 39]) := fun _ _ _ _ _ _ _ _ _ _ _ => by kernel_rfl
theorem c7_2_2_4 : C7 (st [110, 117, 109, 98, 101, 114, 32, 50, 48, 49]) (st [110, 117, 109, 98, 101, 114, 32, 39, 49, 39]) (st [110, 117, 109, 98, 101, 114, 32, 49, 48, 48, 48, 48, 48, 48, 48, 48, 48, 48, 48, 48, 48, 48, 48, 48, 48, 48, 48, 48, 48, 48, 48, 48, 48, 48, 48, 48, 48, 48, 48, 48, 48, 48, 48, 48, 48, 48, 48, 48, 48, 48, 48, 48, 48, 48, 48, 48, 48, 48, 48, 48, 48, 48, 48, 48, 48, 48, 48, 48]) := fun _ _ _ _ _ _ _ _ _ _ _ => by kernel_rfl
theorem c7_2_2_5 : C7 (st [110, 117, 109, 98, 101, 114, 32, 50, 48, 49]) (st [110, 117, 109, 98, 101, 114, 32, 39, 49, 39]) (st [110, 117, 109, 98, 101, 114, 32, 40, 50, 44, 32, 49, 41]) := fun _ _ _ _ _ _ _ _ _ _ _ => by kernel_rfl
theorem pd_2_2 : ∀ low ∈ o12, ∃ y z u : Str, PC (.int 201) (.str (st [49])) low y z u ∧ C7 y z u := fun low h => by
  simp only [o12, List.mem_cons, List.not_mem_nil, or_false] at h
  rcases h with rfl | rfl | rfl | rfl | rfl | rfl
  · exact ⟨_, _, _, ⟨c1_2, c2_2, c3_0, c5_2_2_0⟩, c7_2_2_0⟩
  · exact ⟨_, _, _, ⟨c1_2, c2_2, c3_1, c5_2_2_1⟩, c7_2_2_1⟩
  · exact ⟨_, _, _, ⟨c1_2, c2_2, c3_2, c5_2_2_2⟩, c7_2_2_2⟩
  · exact ⟨_, _, _, ⟨c1_2, c2_2, c3_3, c5_2_2_3⟩, c7_2_2_3⟩
  · exact ⟨_, _, _, ⟨c1_2, c2_2, c3_4, c5_2_2_4⟩, c7_2_2_4⟩
  · exact ⟨_, _, _, ⟨c1_2, c2_2, c3_5, c5_2_2_5⟩, c7_2_2_5⟩
theorem c7_2_3_0 : C7 (st [110, 117, 109, 98, 101, 114, 32, 50, 48, 49]) (st [110, 117, 109, 98, 101, 114, 32, 49, 48, 48, 48, 48, 48, 48, 48, 48, 48, 48, 48, 48, 48, 48, 48, 48, 48, 48, 48, 48, 48, 48, 48, 48, 48, 48, 48, 48, 48, 48, 48, 48, 48, 48, 48, 48, 48, 48, 48, 48, 48, 48, 48, 48, 48, 48, 48, 48, 48, 48, 48, 48, 48, 48, 48, 48, 48, 48, 48, 48]) (st [110, 117, 109, 98, 101, 114, 32, 78, 111, 110, 101]) := fun _ _ _ _ _ _ _ _ _ _ _ => by kernel_rfl
theorem c7_2_3_1 : C7 (st [110, 117, 109, 98, 101, 114, 32, 50, 48, 49]) (st [110, 117, 109, 98, 101, 114, 32, 49, 48, 48, 48, 48, 48, 48, 48, 48, 48, 48, 48, 48, 48, 48, 48, 48, 48, 48, 48, 48, 48, 48, 48, 48, 48, 48, 48, 48, 48, 48, 48, 48, 48, 48, 48, 48, 48, 48, 48, 48, 48, 48, 48, 48, 48, 48, 48, 48, 48, 48, 48, 48, 48, 48, 48, 48, 48, 48, 48, 48]) (st [110, 117, 109, 98, 101, 114, 32, 70, 97, 108, 115, 101]) := fun _ _ _ _ _ _ _ _ _ _ _ => by kernel_rfl
theorem c7_2_3_2 : C7 (st [110, 117, 109, 98, 101, 114, 32, 50, 48, 49]) (st [110, 117, 109, 98, 101, 114, 32, 49, 48, 48, 48, 48, 48, 48, 48, 48, 48, 48, 48, 48, 48, 48, 48, 48, 48, 48, 48, 48, 48, 48, 48, 48, 48, 48, 48, 48, 48, 48, 48, 48, 48, 48, 48, 48, 48, 48, 48, 48, 48, 48, 48, 48, 48, 48, 48, 48, 48, 48, 48, 48, 48, 48, 48, 48, 48, 48, 48, 48]) (st [110, 117, 109, 98, 101, 114, 32, 48]) := fun _ _ _ _ _ _ _ _ _ _ _ => by kernel_rfl
theorem c7_2_3_3 : C7 (st [110, 117, 109, 98, 101, 114, 32, 50, 48, 49]) (st [110, 117, 109, 98, 101, 114, 32, 49, 48, 48, 48, 48, 48, 48, 48, 48, 48, 48, 48, 48, 48, 48, 48, 48, 48, 48, 48, 48, 48, 48, 48, 48, 48, 48, 48, 48, 48, 48, 48, 48, 48, 48, 48, 48, 48, 48, 48, 48, 48, 48, 48, 48, 48, 48, 48, 48, 48, 48, 48, 48, 48, 48, 48, 48, 48, 48, 48, 48]) (st [110, 117, 109, 98, 101, 114, 32, 39, 50, 39]) := fun _ _ _ _ _ _ _ _ _ _ _ => by kernel_rfl
theorem c7_2_3_4 : C7 (st [110, 117, 109, 98, 101, 114, 32, 50, 48, 49]) (st [110, 117, 109, 98, 101, 114, 32, 49, 48, 48, 48, 48, 48, 48, 48, 48, 48, 48, 48, 48, 48, 48, 48, 48, 48, 48, 48, 48, 48, 48, 48, 48, 48, 48, 48, 48, 48, 48, 48, 48, 48, 48, 48, 48, 48, 48, 48, 48, 48, 48, 48, 48, 48, 48, 48, 48, 48, 48, 48, 48, 48, 48, 48, 48, 48, 48, 48, 48]) (st [110, 117, 109, 98, 101, 114, 32, 49, 48, 48, 48, 48, 48, 48, 48, 48, 48, 48, 48, 48, 48, 48, 48, 48, 48, 48, 48, 48, 48, 48, 48, 48, 48, 48, 48, 48, 48, 48, 48, 48, 48, 48, 48, 48, 48, 48, 48, 48, 48, 48, 48, 48, 48, 48, 48, 48, 48, 48, 48, 48, 48, 48, 48, 48, 48, 48, 48, 48]) := fun _ _ _ _ _ _ _ _ _ _ _ => by kernel_rfl
theorem c7_2_3_5 : C7 (st [110, 117, 109, 98, 101, 114, 32, 50, 48, 49]) (st [110, 117, 109, 98, 101, 114, 32, 49, 48, 48, 48, 48, 48, 48, 48, 48, 48, 48, 48, 48, 48, 48, 48, 48, 48, 48, 48, 48, 48, 48, 48, 48, 48, 48, 48, 48, 48, 48, 48, 48, 48, 48, 48, 48, 48, 48, 48, 48, 48, 48, 48, 48, 48, 48, 48, 48, 48, 48, 48, 48, 48, 48, 48, 48, 48, 48, 48, 48]) (st [110, 117, 109, 98, 101, 114, 32, 40, 50, 44, 32, 49, 41]) := fun _ _ _ _ _ _ _ _ _ _ _ => by kernel_rfl
theorem pd_2_3 : ∀ low ∈ o12, ∃ y z u : Str, PC (.int 201) (.int (10 ^ 60)) low y z u ∧ C7 y z u := fun low h => by
  simp only [o12, List.mem_cons, List.not_mem_nil, or_false] at h
  rcases h with rfl | rfl | rfl | rfl | rfl | rfl
  · exact ⟨_, _, _, ⟨c1_2, c2_3, c3_0, c5_2_3_0⟩, c7_2_3_0⟩
  · exact ⟨_, _, _, ⟨c1_2, c2_3, c3_1, c5_2_3_1⟩, c7_2_3_1⟩
  · exact ⟨_, _, _, ⟨c1_2, c2_3, c3_2, c5_2_3_2⟩, c7_2_3_2⟩
  · exact ⟨_, _, _, ⟨c1_2, c2_3, c3_3, c5_2_3_3⟩, c7_2_3_3⟩
  · exact ⟨_, _, _, ⟨c1_2, c2_3, c3_4, c5_2_3_4⟩, c7_2_3_4⟩
  · exact ⟨_, _, _, ⟨c1_2, c2_3, c3_5, c5_2_3_5⟩, c7_2_3_5⟩
theorem c7_2_4_0 : C7 (st [110, 117, 109, 98, 101, 114, 32, 50, 48, 49]) (st [110, 117, 109, 98, 101, 114, 32, 40, 49, 44, 32, 49, 41]) (st [110, 117, 109, 98, 101, 114, 32, 78, 111, 110, 101]) := fun _ _ _ _ _ _ _ _ _ _ _ => by kernel_rfl
theorem c7_2_4_1 : C7 (st [110, 117, 109, 98, 101, 114, 32, 50, 48, 49]) (st [110, 117, 109, 98, 101, 114, 32, 40, 49, 44, 32, 49, 41]) (st [110, 117, 109, 98, 101, 114, 32, 70, 97, 108, 115, 101]) := fun _ _ _ _ _ _ _ _ _ _ _ => by kernel_rfl
theorem c7_2_4_2 : C7 (st [110, 117, 109, 98, 101, 114, 32, 50, 48, 49]) (st [110, 117, 109, 98, 101, 114, 32, 40, 49, 44, 32, 49, 41]) (st [110, 117, 109, 98, 101, 114, 32, 48]) := fun _ _ _ _ _ _ _ _ _ _ _ => by kernel_rfl
theorem c7_2_4_3 : C7 (st [110, 117, 109, 98, 101, 114, 32, 50, 48, 49]) (st [110, 117, 109, 98, 101, 114, 32, 40, 49, 44, 32, 49, 41]) (st [110, 117, 109, 98, 101, 114, 32, 39, 50, 39]) := fun _ _ _ _ _ _ _ _ _ _ _ => by kernel_rfl
theorem c7_2_4_4 : C7 (st [110, 117, 109, 98, 101, 114, 32, 50, 48, 49]) (st [110, 117, 109, 98, 101, 114, 32, 40, 49, 44, 32, 49, 41]) (st [110, 117, 109, 98, 101, 114, 32, 49, 48, 48, 48, 48, 48, 48, 48, 48, 48, 48, 48, 48, 48, 48, 48, 48, 48, 48, 48, 48, 48, 48, 48, 48, 48, 48, 48, 48, 48, 48, 48, 48, 48, 48, 48, 48, 48, 48, 48, 48, 48, 48, 48, 48, 48, 48, 48, 48, 48, 48, 48, 48, 48, 48, 48, 48, 48, 48, 48, 48]) := fun _ _ _ _ _ _ _ _ _ _ _ => by kernel_rfl
theorem c7_2_4_5 : C7 (st [110, 117, 109, 98, 101, 114, 32, 50, 48, 49]) (st [110, 117, 109, 98, 101, 114, 32, 40, 49, 44, 32, 49, 41]) (st [110, 117, 109, 98, 101, 114, 32, 40, 50, 44, 32, 49, 41]) := fun _ _ _ _ _ _ _ _ _ _ _ => by kernel_rfl
theorem pd_2_4 : ∀ low ∈ o12, ∃ y z u : Str, PC (.int 201) (.tup [.int 1, .int 1]) low y z u ∧ C7 y z u := fun low h => by
  simp only [o12, List.mem_cons, List.not_mem_nil, or_false] at h
  rcases h with rfl | rfl | rfl | rfl | rfl | rfl
  · exact ⟨_, _, _, ⟨c1_2, c2_4, c3_0, c5_2_4_0⟩, c7_2_4_0⟩
  · exact ⟨_, _, _, ⟨c1_2, c2_4, c3_1, c5_2_4_1⟩, c7_2_4_1⟩
  · exact ⟨_, _, _, ⟨c1_2, c2_4, c3_2, c5_2_4_2⟩, c7_2_4_2⟩
  · exact ⟨_, _, _, ⟨c1_2, c2_4, c3_3, c5_2_4_3⟩, c7_2_4_3⟩
  · exact ⟨_, _, _, ⟨c1_2, c2_4, c3_4, c5_2_4_4⟩, c7_2_4_4⟩
  · exact ⟨_, _, _, ⟨c1_2, c2_4, c3_5, c5_2_4_5⟩, c7_2_4_5⟩
theorem c7_2_5_0 : C7 (st [110, 117, 109, 98, 101, 114, 32, 50, 48, 49]) (st [110, 117, 109, 98, 101, 114, 32, 91, 49, 93]) (st [110, 117, 109, 98, 101, 114, 32, 78, 111, 110, 101]) := fun _ _ _ _ _ _ _ _ _ _ _ => by kernel_rfl
theorem c7_2_5_1 : C7 (st [110, 117, 109, 98, 101, 114, 32, 50, 48, 49]) (st [110, 117, 109, 98, 101, 114, 32, 91, 49, 93]) (st [110, 117, 109, 98, 101, 114, 32, 70, 97, 108, 115, 101]) := fun _ _ _ _ _ _ _ _ _ _ _ => by kernel_rfl
theorem c7_2_5_2 : C7 (st [110, 117, 109, 98, 101, 114, 32, 50, 48, 49]) (st [110, 117, 109, 98, 101, 114, 32, 91, 49, 93]) (st [110, 117, 109, 98, 101, 114, 32, 48]) := fun _ _ _ _ _ _ _ _ _ _ _ => by kernel_rfl
theorem c7_2_5_3 : C7 (st [110, 117, 109, 98, 101, 114, 32, 50, 48, 49]) (st [110, 117, 109, 98, 101, 114, 32, 91, 49, 93]) (st [110, 117, 109, 98, 101, 114, 32, 39, 50, 39]) := fun _ _ _ _ _ _ _ _ _ _ _ => by kernel_rfl
theorem c7_2_5_4 : C7 (st [110, 117, 109, 98, 101, 114, 32, 50, 48, 49]) (st [110, 117, 109, 98, 101, 114, 32, 91, 49, 93]) (st [110, 117, 109, 98, 101, 114, 32, 49, 48, 48, 48, 48, 48, 48, 48, 48, 48, 48, 48, 48, 48, 48, 48, 48, 48, 48, 48, 48, 48, 48, 48, 48, 48, 48, 48, 48, 48, 48, 48, 48, 48, 48, 48, 48, 48, 48, 48, 48, 48, 48, 48, 48, 48, 48, 48, 48, 48, 48, 48, 48, 48, 48, 48, 48, 48, 48, 48, 48]) := fun _ _ _ _ _ _ _ _ _ _ _ => by kernel_rfl
theorem c7_2_5_5 : C7 (st [110, 117, 109, 98, 101, 114, 32, 50, 48, 49]) (st [110, 117, 109, 98, 101, 114, 32, 91, 49, 93]) (st [110, 117, 109, 98, 101, 114, 32, 40, 50, 44, 32, 49, 41]) := fun _ _ _ _ _ _ _ _ _ _ _ => by kernel_rfl
theorem pd_2_5 : ∀ low ∈ o12, ∃ y z u : Str, PC (.int 201) (.ref 10) low y z u ∧ C7 y z u := fun low h => by
  simp only [o12, List.mem_cons, List.not_mem_nil, or_false] at h
  rcases h with rfl | rfl | rfl | rfl | rfl | rfl
  · exact ⟨_, _, _, ⟨c1_2, c2_5, c3_0, c5_2_5_0⟩, c7_2_5_0⟩
  · exact ⟨_, _, _, ⟨c1_2, c2_5, c3_1, c5_2_5_1⟩, c7_2_5_1⟩
  · exact ⟨_, _, _, ⟨c1_2, c2_5, c3_2, c5_2_5_2⟩, c7_2_5_2⟩
  · exact ⟨_, _, _, ⟨c1_2, c2_5, c3_3, c5_2_5_3⟩, c7_2_5_3⟩
  · exact ⟨_, _, _, ⟨c1_2, c2_5, c3_4, c5_2_5_4⟩, c7_2_5_4⟩
  · exact ⟨_, _, _, ⟨c1_2, c2_5, c3_5, c5_2_5_5⟩, c7_2_5_5⟩
theorem pd_2 : ∀ bad ∈ o11, ∀ low ∈ o12, ∃ y z u : Str, PC (.int 201) bad low y z u ∧ C7 y z u := fun bad h => by
  simp only [o11, List.mem_cons, List.not_mem_nil, or_false] at h
  rcases h with rfl | rfl | rfl | rfl | rfl | rfl
  · exact pd_2_0
  · exact pd_2_1
  · exact pd_2_2
  · exact pd_2_3
  · exact pd_2_4
  · exact pd_2_5
theorem c7_3_0_0 : C7 (st [110, 117, 109, 98, 101, 114, 32, 84, 114, 117, 101]) (st [110, 117, 109, 98, 101, 114, 32, 78, 111, 110, 101]) (st [110, 117, 109, 98, 101, 114, 32, 78, 111, 110, 101]) := fun _ _ _ _ _ _ _ _ _ _ _ => by kernel_rfl
theorem c7_3_0_1 : C7 (st [110, 117, 109, 98, 101, 114, 32, 84, 114, 117, 101]) (st [110, 117, 109, 98, 101, 114, 32, 78, 111, 110, 101]) (st [110, 117, 109, 98, 101, 114, 32, 70, 97, 108, 115, 101]) := fun _ _ _ _ _ _ _ _ _ _ _ => by kernel_rfl
theorem c7_3_0_2 : C7 (st [110, 117, 109, 98, 101, 114, 32, 84, 114, 117, 101]) (st [110, 117, 109, 98, 101, 114, 32, 78, 111, 110, 101]) (st [110, 117, 109, 98, 101, 114, 32, 48]) := fun _ _ _ _ _ _ _ _ _ _ _ => by kernel_rfl
theorem c7_3_0_3 : C7 (st [110, 117, 109, 98, 101, 114, 32, 84, 114, 117, 101]) (st [110, 117, 109, 98, 101, 114, 32, 78, 111, 110, 101]) (st [110, 117, 109, 98, 101, 114, 32, 39, 50, 39]) := fun _ _ _ _ _ _ _ _ _ _ _ => by kernel_rfl
theorem c7_3_0_4 : C7 (st [110, 117, 109, 98, 101, 114, 32, 84, 114, 117, 101]) (st [110, 117, 109, 98, 101, 114, 32, 78, 111, 110, 101]) (st [110, 117, 109, 98, 101, 114, 32, 49, 48, 48, 48, 48, 48, 48, 48, 48, 48, 48, 48, 48, 48, 48, 48, 48, 48, 48, 48, 48, 48, 48, 48, 48, 48, 48, 48, 48, 48, 48, 48, 48, 48, 48, 48, 48, 48, 48, 48, 48, 48, 48, 48, 48, 48, 48, 48, 48, 48, 48, 48, 48, 48, 48, 48, 48, 48, 48, 48, 48]) := fun _ _ _ _ _ _ _ _ _ _ _ => by kernel_rfl
theorem c7_3_0_5 : C7 (st [110, 117, 109, 98, 101, 114, 32, 84, 114, 117, 101]) (st [110, 117, 109, 98, 101, 114, 32, 78, 111, 110, 101]) (st [110, 117, 109, 98, 101, 114, 32, 40, 50, 44, 32, 49, 41]) := fun _ _ _ _ _ _ _ _ _ _ _ => by kernel_rfl
theorem pd_3_0 : ∀ low ∈ o12, ∃ y z u : Str, PC (.bl true) (.non) low y z u ∧ C7 y z u := fun low h => by
  simp only [o12, List.mem_cons, List.not_mem_nil, or_false] at h
  rcases h with rfl | rfl | rfl | rfl | rfl | rfl
  · exact ⟨_, _, _, ⟨c1_3, c2_0, c3_0, c5_3_0_0⟩, c7_3_0_0⟩
  · exact ⟨_, _, _, ⟨c1_3, c2_0, c3_1, c5_3_0_1⟩, c7_3_0_1⟩
  · exact ⟨_, _, _, ⟨c1_3, c2_0, c3_2, c5_3_0_2⟩, c7_3_0_2⟩
  · exact ⟨_, _, _, ⟨c1_3, c2_0, c3_3, c5_3_0_3⟩, c7_3_0_3⟩
  · exact ⟨_, _, _, ⟨c1_3, c2_0, c3_4, c5_3_0_4⟩, c7_3_0_4⟩
  · exact ⟨_, _, _, ⟨c1_3, c2_0, c3_5, c5_3_0_5⟩, c7_3_0_5⟩
theorem c7_3_1_0 : C7 (st [110, 117, 109, 98, 101, 114, 32, 84, 114, 117, 101]) (st [110, 117, 109, 98, 101, 114, 32, 84, 114, 117, 101]) (st [110, 117, 109, 98, 101, 114, 32, 78, 111, 110, 101]) := fun _ _ _ _ _ _ _ _ _ _ _ => by kernel_rfl
theorem c7_3_1_1 : C7 (st [110, 117, 109, 98, 101, 114, 32, 84, 114, 117, 101]) (st [110, 117, 109, 98, 101, 114, 32, 84, 114, 117, 101]) (st [110, 117, 109, 98, 101, 114, 32, 70, 97, 108, 115, 101]) := fun _ _ _ _ _ _ _ _ _ _ _ => by kernel_rfl
theorem c7_3_1_2 : C7 (st [110, 117, 109, 98, 101, 114, 32, 84, 114, 117, 101]) (st [110, 117, 109, 98, 101, 114, 32, 84, 114, 117, 101]) (st [110, 117, 109, 98, 101, 114, 32, 48]) := fun _ _ _ _ _ _ _ _ _ _ _ => by kernel_rfl
theorem c7_3_1_3 : C7 (st [110, 117, 109, 98, 101, 114, 32, 84, 114, 117, 101]) (st [110, 117, 109, 98, 101, 114, 32, 84, 114, 117, 101]) (st [110, 117, 109, 98, 101, 114, 32, 39, 50, 39]) := fun _ _ _ _ _ _ _ _ _ _ _ => by kernel_rfl
theorem c7_3_1_4 : C7 (st [110, 117, 109, 98, 101, 114, 32, 84, 114, 117, 101]) (st [110, 117, 109, 98, 101, 114, 32, 84, 114, 117, 101]) (st [110, 117, 109, 98, 101, 114, 32, 49, 48, 48, 48, 48, 48, 48, 48, 48, 48, 48, 48, 48, 48, 48, 48, 48, 48, 48, 48, 48, 48, 48, 48, 48, 48, 48, 48, 48, 48, 48, 48, 48, 48, 48, 48, 48, 48, 48, 48, 48, 48, 48, 48, 48, 48, 48, 48, 48, 48, 48, 48, 48, 48, 48, 48, 48, 48, 48, 48, 48]) := fun _ _ _ _ _ _ _ _ _ _ _ => by kernel_rfl
theorem c7_3_1_5 : C7 (st [110, 117, 109, 98, 101, 114, 32, 84, 114, 117, 101]) (st [110, 117, 109, 98, 101, 114, 32, 84, 114, 117, 101]) (st [110, 117, 109, 98, 101, 114, 32, 40, 50, 44, 32, 49, 41]) := fun _ _ _ _ _ _ _ _ _ _ _ => by kernel_rfl
theorem pd_3_1 : ∀ low ∈ o12, ∃ y z u : Str, PC (.bl true) (.bl true) low y z u ∧ C7 y z u := fun low h => by
  simp only [o12, List.mem_cons, List.not_mem_nil, or_false] at h
  rcases h with rfl | rfl | rfl | rfl | rfl | rfl
  · exact ⟨_, _, _, ⟨c1_3, c2_1, c3_0, c5_3_1_0⟩, c7_3_1_0⟩
  · exact ⟨_, _, _, ⟨c1_3, c2_1, c3_1, c5_3_1_1⟩, c7_3_1_1⟩
  · exact ⟨_, _, _, ⟨c1_3, c2_1, c3_2, c5_3_1_2⟩, c7_3_1_2⟩
  · exact ⟨_, _, _, ⟨c1_3, c2_1, c3_3, c5_3_1_3⟩, c7_3_1_3⟩
  · exact ⟨_, _, _, ⟨c1_3, c2_1, c3_4, c5_3_1_4⟩, c7_3_1_4⟩
  · exact ⟨_, _, _, ⟨c1_3, c2_1, c3_5, c5_3_1_5⟩, c7_3_1_5⟩
theorem c7_3_2_0 : C7 (st [110, 117, 109, 98, 101, 114, 32, 84, 114, 117, 101]) (st [110, 117, 109, 98, 101, 114, 32, 39, 49, 39]) (st [110, 117, 109, 98, 101, 114, 32, 78, 111, 110, 101]) := fun _ _ _ _ _ _ _ _ _ _ _ => by kernel_rfl
theorem c7_3_2_1 : C7 (st [110, 117, 109, 98, 101, 114, 32, 84, 114, 117, 101]) (st [110, 117, 109, 98, 101, 114, 32, 39, 49, 39]) (st [110, 117, 109, 98, 101, 114, 32, 70, 97, 108, 115, 101]) := fun _ _ _ _ _ _ _ _ _ _ _ => by kernel_rfl
theorem c7_3_2_2 : C7 (st [110, 117, 109, 98, 101, 114, 32, 84, 114, 117, 101]) (st [110, 117, 109, 98, 101, 114, 32, 39, 49, 39]) (st [110, 117, 109, 98, 101, 114, 32, 48]) := fun _ _ _ _ _ _ _ _ _ _ _ => by kernel_rfl
theorem c7_3_2_3 : C7 (st [110, 117, 109, 98, 101, 114, 32, 84, 114, 117, 101]) (st [110, 117, 109, 98, 101, 114, 32, 39, 49, 39]) (st [110, 117, 109, 98, 101, 114, 32, 39, 50, 39]) := fun _ _ _ _ _ _ _ _ _ _ _ => by kernel_rfl
theorem c7_3_2_4 : C7 (st [110, 117, 109, 98, 101, 114, 32, 84, 114, 117, 101]) (st [110, 117, 109, 98, 101, 114, 32, 39, 49, 39]) (st [110, 117, 109, 98, 101, 114, 32, 49, 48, 48, 48, 48, 48, 48, 48, 48, 48, 48, 48, 48, 48, 48, 48, 48, 48, 48, 48, 48, 48, 48, 48, 48, 48, 48, 48, 48, 48, 48, 48, 48, 48, 48, 48, 48, 48, 48, 48, 48, 48, 48, 48, 48, 48, 48, 48, 48, 48, 48, 48, 48, 48, 48, 48, 48, 48, 48, 48, 48]) := fun _ _ _ _ _ _ _ _ _ _ _ => by kernel_rfl
theorem c7_3_2_5 : C7 (st [110, 117, 109, 98, 101, 114, 32, 84, 114, 117, 101]) (st [110, 117, 109, 98, 101, 114, 32, 39, 49, 39]) (st [110, 117, 109, 98, 101, 114, 32, 40, 50, 44, 32, 49, 41]) := fun _ _ _ _ _ _ _ _ _ _ _ => by kernel_rfl
theorem pd_3_2 : ∀ low ∈ o12, ∃ y z u : Str, PC (.bl true) (.str (st [49])) low y z u ∧ C7 y z u := fun low h => by
  simp only [o12, List.mem_cons, List.not_mem_nil, or_false] at h
  rcases h with rfl | rfl | rfl | rfl | rfl | rfl
  · exact ⟨_, _, _, ⟨c1_3, c2_2, c3_0, c5_3_2_0⟩, c7_3_2_0⟩
  · exact ⟨_, _, _, ⟨c1_3, c2_2, c3_1, c5_3_2_1⟩, c7_3_2_1⟩
  · exact ⟨_, _, _, ⟨c1_3, c2_2, c3_2, c5_3_2_2⟩, c7_3_2_2⟩
  · exact ⟨_, _, _, ⟨c1_3, c2_2, c3_3, c5_3_2_3⟩, c7_3_2_3⟩
  · exact ⟨_, _, _, ⟨c1_3, c2_2, c3_4, c5_3_2_4⟩, c7_3_2_4⟩
  · exact ⟨_, _, _, ⟨c1_3, c2_2, c3_5, c5_3_2_5⟩, c7_3_2_5⟩
theorem c7_3_3_0 : C7 (st [110, 117, 109, 98, 101, 114, 32, 84, 114, 117, 101]) (st [110, 117, 109, 98, 101, 114, 32, 49, 48, 48, 48, 48, 48, 48, 48, 48, 48, 48, 48, 48, 48, 48, 48, 48, 48, 48, 48, 48, 48, 48, 48, 48, 48, 48, 48, 48, 48, 48, 48, 48, 48, 48, 48, 48, 48, 48, 48, 48, 48, 48, 48, 48, 48, 48, 48, 48, 48, 48, 48, 48, 48, 48, 48, 48, 48, 48, 48, 48]) (st [110, 117, 109, 98, 101, 114, 32, 78, 111, 110, 101]) := fun _ _ _ _ _ _ _ _ _ _ _ => by kernel_rfl
theorem c7_3_3_1 : C7 (st [110, 117, 109, 98, 101, 114, 32, 84, 114, 117, 101]) (st [110, 117, 109, 98, 101, 114, 32, 49, 48, 48, 48, 48, 48, 48, 48, 48, 48, 48, 48, 48, 48, 48, 48, 48, 48, 48, 48, 48, 48, 48, 48, 48, 48, 48, 48, 48, 48, 48, 48, 48, 48, 48, 48, 48, 48, 48, 48, 48, 48, 48, 48, 48, 48, 48, 48, 48, 48, 48, 48, 48, 48, 48, 48, 48, 48, 48, 48, 48]) (st [110, 117, 109, 98, 101, 114, 32, 70, 97, 108, 115, 101]) := fun _ _ _ _ _ _ _ _ _ _ _ => by kernel_rfl
theorem c7_3_3_2 : C7 (st [110, 117, 109, 98, 101, 114, 32, 84, 114, 117, 101]) (st [110, 117, 109, 98, 101, 114, 32, 49, 48, 48, 48, 48, 48, 48, 48, 48, 48, 48, 48, 48, 48, 48, 48, 48, 48, 48, 48, 48, 48, 48, 48, 48, 48, 48, 48, 48, 48, 48, 48, 48, 48, 48, 48, 48, 48, 48, 48, 48, 48, 48, 48, 48, 48, 48, 48, 48, 48, 48, 48, 48, 48, 48, 48, 48, 48, 48, 48, 48]) (st [110, 117, 109, 98, 101, 114, 32, 48]) := fun _ _ _ _ _ _ _ _ _ _ _ => by kernel_rfl
theorem c7_3_3_3 : C7 (st [110, 117, 109, 98, 101, 114, 32, 84, 114, 117, 101]) (st [110, 117, 109, 98, 101, 114, 32, 49, 48, 48, 48, 48, 48, 48, 48, 48, 48, 48, 48, 48, 48, 48, 48, 48, 48, 48, 48, 48, 48, 48, 48, 48, 48, 48, 48, 48, 48, 48, 48, 48, 48, 48, 48, 48, 48, 48, 48, 48, 48, 48, 48, 48, 48, 48, 48, 48, 48, 48, 48, 48, 48, 48, 48, 48, 48, 48, 48, 48]) (st [110, 117, 109, 98, 101, 114, 32, 39, 50, 39]) := fun _ _ _ _ _ _ _ _ _ _ _ => by kernel_rfl
theorem c7_3_3_4 : C7 (st [110, 117, 109, 98, 101, 114, 32, 84, 114, 117, 101]) (st [110, 117, 109, 98, 101, 114, 32, 49, 48, 48, 48, 48, 48, 48, 48, 48, 48, 48, 48, 48, 48, 48, 48, 48, 48, 48, 48, 48, 48, 48, 48, 48, 48, 48, 48, 48, 48, 48, 48, 48, 48, 48, 48, 48, 48, 48, 48, 48, 48, 48, 48, 48, 48, 48, 48, 48, 48, 48, 48, 48, 48, 48, 48, 48, 48, 48, 48, 48]) (st [110, 117, 109, 98, 101, 114, 32, 49, 48, 48, 48, 48, 48, 48, 48, 48, 48, 48, 48, 48, 48, 48, 48, 48, 48, 48, 48, 48, 48, 48, 48, 48, 48, 48, 48, 48, 48, 48, 48, 48, 48, 48, 48, 48, 48, 48, 48, 48, 48, 48, 48, 48, 48, 48, 48, 48, 48, 48, 48, 48, 48, 48, 48, 48, 48, 48, 48, 48]) := fun _ _ _ _ _ _ _ _ _ _ _ => by kernel_rfl
theorem c7_3_3_5 : C7 (st [110, 117, 109, 98, 101, 114, 32, 84, 114, 117, 101]) (st [110, 117, 109, 98, 101, 114, 32, 49, 48, 48, 48, 48, 48, 48, 48, 48, 48, 48, 48, 48, 48, 48, 48, 48, 48, 48, 48, 48, 48, 48, 48, 48, 48, 48, 48, 48, 48, 48, 48, 48, 48, 48, 48, 48, 48, 48, 48, 48, 48, 48, 48, 48, 48, 48, 48, 48, 48, 48, 48, 48, 48, 48, 48, 48, 48, 48, 48, 48]) (st [110, 117, 109, 98, 101, 114, 32, 40, 50, 44, 32, 49, 41]) := fun _ _ _ _ _ _ _ _ _ _ _ => by kernel_rfl
theorem pd_3_3 : ∀ low ∈ o12, ∃ y z u : Str, PC (.bl true) (.int (10 ^ 60)) low y z u ∧ C7 y z u := fun low h => by
  simp only [o12, List.mem_cons, List.not_mem_nil, or_false] at h
  rcases h with rfl | rfl | rfl | rfl | rfl | rfl
  · exact ⟨_, _, _, ⟨c1_3, c2_3, c3_0, c5_3_3_0⟩, c7_3_3_0⟩
  · exact ⟨_, _, _, ⟨c1_3, c2_3, c3_1, c5_3_3_1⟩, c7_3_3_1⟩
  · exact ⟨_, _, _, ⟨c1_3, c2_3, c3_2, c5_3_3_2⟩, c7_3_3_2⟩
  · exact ⟨_, _, _, ⟨c1_3, c2_3, c3_3, c5_3_3_3⟩, c7_3_3_3⟩
  · exact ⟨_, _, _, ⟨c1_3, c2_3, c3_4, c5_3_3_4⟩, c7_3_3_4⟩
  · exact ⟨_, _, _, ⟨c1_3, c2_3, c3_5, c5_3_3_5⟩, c7_3_3_5⟩
theorem c7_3_4_0 : C7 (st [110, 117, 109, 98, 101, 114, 32, 84, 114, 117, 101]) (st [110, 117, 109, 98, 101, 114, 32, 40, 49, 44, 32, 49, 41]) (st [110, 117, 109, 98, 101, 114, 32, 78, 111, 110, 101]) := fun _ _ _ _ _ _ _ _ _ _ _ => by kernel_rfl
theorem c7_3_4_1 : C7 (st [110, 117, 109, 98, 101, 114, 32, 84, 114, 117, 101]) (st [110, 117, 109, 98, 101, 114, 32, 40, 49, 44, 32, 49, 41]) (st [110, 117, 109, 98, 101, 114, 32, 70, 97, 108, 115, 101]) := fun _ _ _ _ _ _ _ _ _ _ _ => by kernel_rfl
theorem c7_3_4_2 : C7 (st [110, 117, 109, 98, 101, 114, 32, 84, 114, 117, 101]) (st [110, 117, 109, 98, 101, 114, 32, 40, 49, 44, 32, 49, 41]) (st [110, 117, 109, 98, 101, 114, 32, 48]) := fun _ _ _ _ _ _ _ _ _ _ _ => by kernel_rfl
theorem c7_3_4_3 : C7 (st [110, 117, 109, 98, 101, 114, 32, 84, 114, 117, 101]) (st [110, 117, 109, 98, 101, 114, 32, 40, 49, 44, 32, 49, 41]) (st [110, 117, 109, 98, 101, 114, 32, 39, 50, 39]) := fun _ _ _ _ _ _ _ _ _ _ _ => by kernel_rfl
theorem c7_3_4_4 : C7 (st [110, 117, 109, 98, 101, 114, 32, 84, 114, 117, 101]) (st [110, 117, 109, 98, 101, 114, 32, 40, 49, 44, 32, 49, 41]) (st [110, 117, 109, 98, 101, 114, 32, 49, 48, 48, 48, 48, 48, 48, 48, 48, 48, 48, 48, 48, 48, 48, 48, 48, 48, 48, 48, 48, 48, 48, 48, 48, 48, 48, 48, 48, 48, 48, 48, 48, 48, 48, 48, 48, 48, 48, 48, 48, 48, 48, 48, 48, 48, 48, 48, 48, 48, 48, 48, 48, 48, 48, 48, 48, 48, 48, 48, 48]) := fun _ _ _ _ _ _ _ _ _ _ _ => by kernel_rfl
theorem c7_3_4_5 : C7 (st [110, 117, 109, 98, 101, 114, 32, 84, 114, 117, 101]) (st [110, 117, 109, 98, 101, 114, 32, 40, 49, 44, 32, 49, 41]) (st [110, 117, 109, 98, 101, 114, 32, 40, 50, 44, 32, 49, 41]) := fun _ _ _ _ _ _ _ _ _ _ _ => by kernel_rfl
theorem pd_3_4 : ∀ low ∈ o12, ∃ y z u : Str, PC (.bl true) (.tup [.int 1, .int 1]) low y z u ∧ C7 y z u := fun low h => by
  simp only [o12, List.mem_cons, List.not_mem_nil, or_false] at h
  rcases h with rfl | rfl | rfl | rfl | rfl | rfl
  · exact ⟨_, _, _, ⟨c1_3, c2_4, c3_0, c5_3_4_0⟩, c7_3_4_0⟩
  · exact ⟨_, _, _, ⟨c1_3, c2_4, c3_1, c5_3_4_1⟩, c7_3_4_1⟩
  · exact ⟨_, _, _, ⟨c1_3, c2_4, c3_2, c5_3_4_2⟩, c7_3_4_2⟩
  · exact ⟨_, _, _, ⟨c1_3, c2_4, c3_3, c5_3_4_3⟩, c7_3_4_3⟩
  · exact ⟨_, _, _, ⟨c1_3, c2_4, c3_4, c5_3_4_4⟩, c7_3_4_4⟩
  · exact ⟨_, _, _, ⟨c1_3, c2_4, c3_5, c5_3_4_5⟩, c7_3_4_5⟩
theorem c7_3_5_0 : C7 (st [110, 117, 109, 98, 101, 114, 32, 84, 114, 117, 101]) (st [110, 117, 109, 98, 101, 114, 32, 91, 49, 93]) (st [110, 117, 109, 98, 101, 114, 32, 78, 111, 110, 101]) := fun _ _ _ _ _ _ _ _ _ _ _ => by kernel_rfl
theorem c7_3_5_1 : C7 (st [110, 117, 109, 98, 101, 114, 32, 84, 114, 117, 101]) (st [110, 117, 109, 98, 101, 114, 32, 91, 49, 93]) (st [110, 117, 109, 98, 101, 114, 32, 70, 97, 108, 115, 101]) := fun _ _ _ _ _ _ _ _ _ _ _ => by kernel_rfl
theorem c7_3_5_2 : C7 (st [110, 117, 109, 98, 101, 114, 32, 84, 114, 117, 101]) (st [110, 117, 109, 98, 101, 114, 32, 91, 49, 93]) (st [110, 117, 109, 98, 101, 114, 32, 48]) := fun _ _ _ _ _ _ _ _ _ _ _ => by kernel_rfl
theorem c7_3_5_3 : C7 (st [110, 117, 109, 98, 101, 114, 32, 84, 114, 117, 101]) (st [110, 117, 109, 98, 101, 114, 32, 91, 49, 93]) (st [110, 117, 109, 98, 101, 114, 32, 39, 50, 39]) := fun _ _ _ _ _ _ _ _ _ _ _ => by kernel_rfl
theorem c7_3_5_4 : C7 (st [110, 117, 109, 98, 101, 114, 32, 84, 114, 117, 101]) (st [110, 117, 109, 98, 101, 114, 32, 91, 49, 93]) (st [110, 117, 109, 98, 101, 114, 32, 49, 48, 48, 48, 48, 48, 48, 48, 48, 48, 48, 48, 48, 48, 48, 48, 48, 48, 48, 48, 48, 48, 48, 48, 48, 48, 48, 48, 48, 48, 48, 48, 48, 48, 48, 48, 48, 48, 48, 48, 48, 48, 48, 48, 48, 48, 48, 48, 48, 48, 48, 48, 48, 48, 48, 48, 48, 48, 48, 48, 48]) := fun _ _ _ _ _ _ _ _ _ _ _ => by kernel_rfl
theorem c7_3_5_5 : C7 (st [110, 117, 109, 98, 101, 114, 32, 84, 114, 117, 101]) (st [110, 117, 109, 98, 101, 114, 32, 91, 49, 93]) (st [110, 117, 109, 98, 101, 114, 32, 40, 50, 44, 32, 49, 41]) := fun _ _ _ _ _ _ _ _ _ _ _ => by kernel_rfl
theorem pd_3_5 : ∀ low ∈ o12, ∃ y z u : Str, PC (.bl true) (.ref 10) low y z u ∧ C7 y z u := fun low h => by
  simp only [o12, List.mem_cons, List.not_mem_nil, or_false] at h
  rcases h with rfl | rfl | rfl | rfl | rfl | rfl
  · exact ⟨_, _, _, ⟨c1_3, c2_5, c3_0, c5_3_5_0⟩, c7_3_5_0⟩
  · exact ⟨_, _, _, ⟨c1_3, c2_5, c3_1, c5_3_5_1⟩, c7_3_5_1⟩
  · exact ⟨_, _, _, ⟨c1_3, c2_5, c3_2, c5_3_5_2⟩, c7_3_5_2⟩
  · exact ⟨_, _, _, ⟨c1_3, c2_5, c3_3, c5_3_5_3⟩, c7_3_5_3⟩
  · exact ⟨_, _, _, ⟨c1_3, c2_5, c3_4, c5_3_5_4⟩, c7_3_5_4⟩
  · exact ⟨_, _, _, ⟨c1_3, c2_5, c3_5, c5_3_5_5⟩, c7_3_5_5⟩
theorem pd_3 : ∀ bad ∈ o11, ∀ low ∈ o12, ∃ y z u : Str, PC (.bl true) bad low y z u ∧ C7 y z u := fun bad h => by
  simp only [o11, List.mem_cons, List.not_mem_nil, or_false] at h
  rcases h with rfl | rfl | rfl | rfl | rfl | rfl
  · exact pd_3_0
  · exact pd_3_1
  · exact pd_3_2
  · exact pd_3_3
  · exact pd_3_4
  · exact pd_3_5
theorem c7_4_0_0 : C7 (st [110, 117, 109, 98, 101, 114, 32, 39, 49, 39]) (st [110, 117, 109, 98, 101, 114, 32, 78, 111, 110, 101]) (st [110, 117, 109, 98, 101, 114, 32, 78, 111, 110, 101]) := fun _ _ _ _ _ _ _ _ _ _ _ => by kernel_rfl
theorem c7_4_0_1 : C7 (st [110, 117, 109, 98, 101, 114, 32, 39, 49, 39]) (st [110, 117, 109, 98, 101, 114, 32, 78, 111, 110, 101]) (st [110, 117, 109, 98, 101, 114, 32, 70, 97, 108, 115, 101]) := fun _ _ _ _ _ _ _ _ _ _ _ => by kernel_rfl
theorem c7_4_0_2 : C7 (st [110, 117, 109, 98, 101, 114, 32, 39, 49, 39]) (st [110, 117, 109, 98, 101, 114, 32, 78, 111, 110, 101]) (st [110, 117, 109, 98, 101, 114, 32, 48]) := fun _ _ _ _ _ _ _ _ _ _ _ => by kernel_rfl
theorem c7_4_0_3 : C7 (st [110, 117, 109, 98, 101, 114, 32, 39, 49, 39]) (st [110, 117, 109, 98, 101, 114, 32, 78, 111, 110, 101]) (st [110, 117, 109, 98, 101, 114, 32, 39, 50, 39]) := fun _ _ _ _ _ _ _ _ _ _ _ => by kernel_rfl
theorem c7_4_0_4 : C7 (st [110, 117, 109, 98, 101, 114, 32, 39, 49, 39]) (st [110, 117, 109, 98, 101, 114, 32, 78, 111, 110, 101]) (st [110, 117, 109, 98, 101, 114, 32, 49, 48, 48, 48, 48, 48, 48, 48, 48, 48, 48, 48, 48, 48, 48, 48, 48, 48, 48, 48, 48, 48, 48, 48, 48, 48, 48, 48, 48, 48, 48, 48, 48, 48, 48, 48, 48, 48, 48, 48, 48, 48, 48, 48, 48, 48, 48, 48, 48, 48, 48, 48, 48, 48, 48, 48, 48, 48, 48, 48, 48]) := fun _ _ _ _ _ _ _ _ _ _ _ => by kernel_rfl
theorem c7_4_0_5 : C7 (st [110, 117, 109, 98, 101, 114, 32, 39, 49, 39]) (st [110, 117, 109, 98, 101, 114, 32, 78, 111, 110, 101]) (st [110, 117, 109, 98, 101, 114, 32, 40, 50, 44, 32, 49, 41]) := fun _ _ _ _ _ _ _ _ _ _ _ => by kernel_rfl
theorem pd_4_0 : ∀ low ∈ o12, ∃ y z u : Str, PC (.str (st [49])) (.non) low y z u ∧ C7 y z u := fun low h => by
  simp only [o12, List.mem_cons, List.not_mem_nil, or_false] at h
  rcases h with rfl | rfl | rfl | rfl | rfl | rfl
  · exact ⟨_, _, _, ⟨c1_4, c2_0, c3_0, c5_4_0_0⟩, c7_4_0_0⟩
  · exact ⟨_, _, _, ⟨c1_4, c2_0, c3_1, c5_4_0_1⟩, c7_4_0_1⟩
  · exact ⟨_, _, _, ⟨c1_4, c2_0, c3_2, c5_4_0_2⟩, c7_4_0_2⟩
  · exact ⟨_, _, _, ⟨c1_4, c2_0, c3_3, c5_4_0_3⟩, c7_4_0_3⟩
  · exact ⟨_, _, _, ⟨c1_4, c2_0, c3_4, c5_4_0_4⟩, c7_4_0_4⟩
  · exact ⟨_, _, _, ⟨c1_4, c2_0, c3_5, c5_4_0_5⟩, c7_4_0_5⟩
theorem c7_4_1_0 : C7 (st [110, 117, 109, 98, 101, 114, 32, 39, 49, 39]) (st [110, 117, 109, 98, 101, 114, 32, 84, 114, 117, 101]) (st [110, 117, 109, 98, 101, 114, 32, 78, 111, 110, 101]) := fun _ _ _ _ _ _ _ _ _ _ _ => by kernel_rfl
theorem c7_4_1_1 : C7 (st [110, 117, 109, 98, 101, 114, 32, 39, 49, 39]) (st [110, 117, 109, 98, 101, 114, 32, 84, 114, 117, 101]) (st [110, 117, 109, 98, 101, 114, 32, 70, 97, 108, 115, 101]) := fun _ _ _ _ _ _ _ _ _ _ _ => by kernel_rfl
theorem c7_4_1_2 : C7 (st [110, 117, 109, 98, 101, 114, 32, 39, 49, 39]) (st [110, 117, 109, 98, 101, 114, 32, 84, 114, 117, 101]) (st [110, 117, 109, 98, 101, 114, 32, 48]) := fun _ _ _ _ _ _ _ _ _ _ _ => by kernel_rfl
theorem c7_4_1_3 : C7 (st [110, 117, 109, 98, 101, 114, 32, 39, 49, 39]) (st [110, 117, 109, 98, 101, 114, 32, 84, 114, 117, 101]) (st [110, 117, 109, 98, 101, 114, 32, 39, 50, 39]) := fun _ _ _ _ _ _ _ _ _ _ _ => by kernel_rfl
theorem c7_4_1_4 : C7 (st [110, 117, 109, 98, 101, 114, 32, 39, 49, 39]) (st [110, 117, 109, 98, 101, 114, 32, 84, 114, 117, 101]) (st [110, 117, 109, 98, 101, 114, 32, 49, 48, 48, 48, 48, 48, 48, 48, 48, 48, 48, 48, 48, 48, 48, 48, 48, 48, 48, 48, 48, 48, 48, 48, 48, 48, 48, 48, 48, 48, 48, 48, 48, 48, 48, 48, 48, 48, 48, 48, 48, 48, 48, 48, 48, 48, 48, 48, 48, 48, 48, 48, 48, 48, 48, 48, 48, 48, 48, 48, 48]) := fun _ _ _ _ _ _ _ _ _ _ _ => by kernel_rfl
theorem c7_4_1_5 : C7 (st [110, 117, 109, 98, 101, 114, 32, 39, 49, 39]) (st [110, 117, 109, 98, 101, 114, 32, 84, 114, 117, 101]) (st [110, 117, 109, 98, 101, 114, 32, 40, 50, 44, 32, 49, 41]) := fun _ _ _ _ _ _ _ _ _ _ _ => by kernel_rfl
theorem pd_4_1 : ∀ low ∈ o12, ∃ y z u : Str, PC (.str (st [49])) (.bl true) low y z u ∧ C7 y z u := fun low h => by
  simp only [o12, List.mem_cons, List.not_mem_nil, or_false] at h
  rcases h with rfl | rfl | rfl | rfl | rfl | rfl
  · exact ⟨_, _, _, ⟨c1_4, c2_1, c3_0, c5_4_1_0⟩, c7_4_1_0⟩
  · exact ⟨_, _, _, ⟨c1_4, c2_1, c3_1, c5_4_1_1⟩, c7_4_1_1⟩
  · exact ⟨_, _, _, ⟨c1_4, c2_1, c3_2, c5_4_1_2⟩, c7_4_1_2⟩
  · exact ⟨_, _, _, ⟨c1_4, c2_1, c3_3, c5_4_1_3⟩, c7_4_1_3⟩
  · exact ⟨_, _, _, ⟨c1_4, c2_1, c3_4, c5_4_1_4⟩, c7_4_1_4⟩
  · exact ⟨_, _, _, ⟨c1_4, c2_1, c3_5, c5_4_1_5⟩, c7_4_1_5⟩
theorem c7_4_2_0 : C7 (st [110, 117, 109, 98, 101, 114, 32, 39, 49, 39]) (st [110, 117, 109, 98, 101, 114, 32, 39, 49, 39]) (st [110, 117, 109, 98, 101, 114, 32, 78, 111, 110, 101]) := fun _ _ _ _ _ _ _ _ _ _ _ => by kernel_rfl
theorem c7_4_2_1 : C7 (st [110, 117, 109, 98, 101, 114, 32, 39, 49, 39]) (st [110, 117, 109, 98, 101, 114, 32, 39, 49, 39]) (st [110, 117, 109, 98, 101, 114, 32, 70, 97, 108, 115, 101]) := fun _ _ _ _ _ _ _ _ _ _ _ => by kernel_rfl
theorem c7_4_2_2 : C7 (st [110, 117, 109, 98, 101, 114, 32, 39, 49, 39]) (st [110, 117, 109, 98, 101, 114, 32, 39, 49, 39]) (st [110, 117, 109, 98, 101, 114, 32, 48]) := fun _ _ _ _ _ _ _ _ _ _ _ => by kernel_rfl
theorem c7_4_2_3 : C7 (st [110, 117, 109, 98, 101, 114, 32, 39, 49, 39]) (st [110, 117, 109, 98, 101, 114, 32, 39, 49, 39]) (st [110, 117, 109, 98, 101, 114, 32, 39, 50, 39]) := fun _ _ _ _ _ _ _ _ _ _ _ => by kernel_rfl
theorem c7_4_2_4 : C7 (st [110, 117, 109, 98, 101, 114, 32, 39, 49, 39]) (st [110, 117, 109, 98, 101, 114, 32, 39, 49, 39]) (st [110, 117, 109, 98, 101, 114, 32, 49, 48, 48, 48, 48, 48, 48, 48, 48, 48, 48, 48, 48, 48, 48, 48, 48, 48, 48, 48, 48, 48, 48, 48, 48, 48, 48, 48, 48, 48, 48, 48, 48, 48, 48, 48, 48, 48, 48, 48, 48, 48, 48, 48, 48, 48, 48, 48, 48, 48, 48, 48, 48, 48, 48, 48, 48, 48, 48, 48, 48]) := fun _ _ _ _ _ _ _ _ _ _ _ => by kernel_rfl
theorem c7_4_2_5 : C7 (st [110, 117, 109, 98, 101, 114, 32, 39, 49, 39]) (st [110, 117, 109, 98, 101, 114, 32, 39, 49, 39]) (st [110, 117, 109, 98, 101, 114, 32, 40, 50, 44, 32, 49, 41]) := fun _ _ _ _ _ _ _ _ _ _ _ => by kernel_rfl
theorem pd_4_2 : ∀ low ∈ o12, ∃ y z u : Str, PC (.str (st [49])) (.str (st [49])) low y z u ∧ C7 y z u := fun low h => by
  simp only [o12, List.mem_cons, List.not_mem_nil, or_false] at h
  rcases h with rfl | rfl | rfl | rfl | rfl | rfl
  · exact ⟨_, _, _, ⟨c1_4, c2_2, c3_0, c5_4_2_0⟩, c7_4_2_0⟩
  · exact ⟨_, _, _, ⟨c1_4, c2_2, c3_1, c5_4_2_1⟩, c7_4_2_1⟩
  · exact ⟨_, _, _, ⟨c1_4, c2_2, c3_2, c5_4_2_2⟩, c7_4_2_2⟩
  · exact ⟨_, _, _, ⟨c1_4, c2_2, c3_3, c5_4_2_3⟩, c7_4_2_3⟩
  · exact ⟨_, _, _, ⟨c1_4, c2_2, c3_4, c5_4_2_4⟩, c7_4_2_4⟩
  · exact ⟨_, _, _, ⟨c1_4, c2_2, c3_5, c5_4_2_5⟩, c7_4_2_5⟩
theorem c7_4_3_0 : C7 (st [110, 117, 109, 98, 101, 114, 32, 39, 49, 39]) (st [110, 117, 109, 98, 101, 114, 32, 49, 48, 48, 48, 48, 48, 48, 48, 48, 48, 48, 48, 48, 48, 48, 48, 48, 48, 48, 48, 48, 48, 48, 48, 48, 48, 48, 48, 48, 48, 48, 48, 48, 48, 48, 48, 48, 48, 48, 48, 48, 48, 48, 48, 48, 48, 48, 48, 48, 48, 48, 48, 48, 48, 48, 48, 48, 48, 48, 48, 48]) (st [110, 117, 109, 98, 101, 114, 32, 78, 111, 110, 101]) := fun _ _ _ _ _ _ _ _ _ _ _ => by kernel_rfl
theorem c7_4_3_1 : C7 (st [110, 117, 109, 98, 101, 114, 32, 39, 49, 39]) (st [110, 117, 109, 98, 101, 114, 32, 49, 48, 48, 48, 48, 48, 48, 48, 48, 48, 48, 48, 48, 48, 48, 48, 48, 48, 48, 48, 48, 48, 48, 48, 48, 48, 48, 48, 48, 48, 48, 48, 48, 48, 48, 48, 48, 48, 48, 48, 48, 48, 48, 48, 48, 48, 48, 48, 48, 48, 48, 48, 48, 48, 48, 48, 48, 48, 48, 48, 48]) (st [110, 117, 109, 98, 101, 114, 32, 70, 97, 108, 115, 101]) := fun _ _ _ _ _ _ _ _ _ _ _ => by kernel_rfl
theorem c7_4_3_2 : C7 (st [110, 117, 109, 98, 101, 114, 32, 39, 49, 39]) (st [110, 117, 109, 98, 101, 114, 32, 49, 48, 48, 48, 48, 48, 48, 48, 48, 48, 48, 48, 48, 48, 48, 48, 48, 48, 48, 48, 48, 48, 48, 48, 48, 48, 48, 48, 48, 48, 48, 48, 48, 48, 48, 48, 48, 48, 48, 48, 48, 48, 48, 48, 48, 48, 48, 48, 48, 48, 48, 48, 48, 48, 48, 48, 48, 48, 48, 48, 48]) (st [110, 117, 109, 98, 101, 114, 32, 48]) := fun _ _ _ _ _ _ _ _ _ _ _ => by kernel_rfl
theorem c7_4_3_3 : C7 (st [110, 117, 109, 98, 101, 114, 32, 39, 49, 39]) (st [110, 117, 109, 98, 101, 114, 32, 49, 48, 48, 48, 48, 48, 48, 48, 48, 48, 48, 48, 48, 48, 48, 48, 48, 48, 48, 48, 48, 48, 48, 48, 48, 48, 48, 48, 48, 48, 48, 48, 48, 48, 48, 48, 48, 48, 48, 48, 48, 48, 48, 48, 48, 48, 48, 48, 48, 48, 48, 48, 48, 48, 48, 48, 48, 48, 48, 48, 48]) (st [110, 117, 109, 98, 101, 114, 32, 39, 50, 39]) := fun _ _ _ _ _ _ _ _ _ _ _ => by kernel_rfl
theorem c7_4_3_4 : C7 (st [110, 117, 109, 98, 101, 114, 32, 39, 49, 39]) (st [110, 117, 109, 98, 101, 114, 32, 49, 48, 48, 48, 48, 48, 48, 48, 48, 48, 48, 48, 48, 48, 48, 48, 48, 48, 48, 48, 48, 48, 48, 48, 48, 48, 48, 48, 48, 48, 48, 48, 48, 48, 48, 48, 48, 48, 48, 48, 48, 48, 48, 48, 48, 48, 48, 48, 48, 48, 48, 48, 48, 48, 48, 48, 48, 48, 48, 48, 48]) (st [110, 117, 109, 98, 101, 114, 32, 49, 48, 48, 48, 48, 48, 48, 48, 48, 48, 48, 48, 48, 48, 48, 48, 48, 48, 48, 48, 48, 48, 48, 48, 48, 48, 48, 48, 48, 48, 48, 48, 48, 48, 48, 48, 48, 48, 48, 48, 48, 48, 48, 48, 48, 48, 48, 48, 48, 48, 48, 48, 48, 48, 48, 48, 48, 48, 48, 48, 48]) := fun _ _ _ _ _ _ _ _ _ _ _ => by kernel_rfl
theorem c7_4_3_5 : C7 (st [110, 117, 109, 98, 101, 114, 32, 39, 49, 39]) (st [110, 117, 109, 98, 101, 114, 32, 49, 48, 48, 48, 48, 48, 48, 48, 48, 48, 48, 48, 48, 48, 48, 48, 48, 48, 48, 48, 48, 48, 48, 48, 48, 48, 48, 48, 48, 48, 48, 48, 48, 48, 48, 48, 48, 48, 48, 48, 48, 48, 48, 48, 48, 48, 48, 48, 48, 48, 48, 48, 48, 48, 48, 48, 48, 48, 48, 48, 48]) (st [110, 117, 109, 98, 101, 114, 32, 40, 50, 44, 32, 49, 41]) := fun _ _ _ _ _ _ _ _ _ _ _ => by kernel_rfl
theorem pd_4_3 : ∀ low ∈ o12, ∃ y z u : Str, PC (.str (st [49])) (.int (10 ^ 60)) low y z u ∧ C7 y z u := fun low h => by
  simp only [o12, List.mem_cons, List.not_mem_nil, or_false] at h
  rcases h with rfl | rfl | rfl | rfl | rfl | rfl
  · exact ⟨_, _, _, ⟨c1_4, c2_3, c3_0, c5_4_3_0⟩, c7_4_3_0⟩
  · exact ⟨_, _, _, ⟨c1_4, c2_3, c3_1, c5_4_3_1⟩, c7_4_3_1⟩
  · exact ⟨_, _, _, ⟨c1_4, c2_3, c3_2, c5_4_3_2⟩, c7_4_3_2⟩
  · exact ⟨_, _, _, ⟨c1_4, c2_3, c3_3, c5_4_3_3⟩, c7_4_3_3⟩
  · exact ⟨_, _, _, ⟨c1_4, c2_3, c3_4, c5_4_3_4⟩, c7_4_3_4⟩
  · exact ⟨_, _, _, ⟨c1_4, c2_3, c3_5, c5_4_3_5⟩, c7_4_3_5⟩
theorem c7_4_4_0 : C7 (st [110, 117, 109, 98, 101, 114, 32, 39, 49, 39]) (st [110, 117, 109, 98, 101, 114, 32, 40, 49, 44, 32, 49, 41]) (st [110, 117, 109, 98, 101, 114, 32, 78, 111, 110, 101]) := fun _ _ _ _ _ _ _ _ _ _ _ => by kernel_rfl
theorem c7_4_4_1 : C7 (st [110, 117, 109, 98, 101, 114, 32, 39, 49, 39]) (st [110, 117, 109, 98, 101, 114, 32, 40, 49, 44, 32, 49, 41]) (st [110, 117, 109, 98, 101, 114, 32, 70, 97, 108, 115, 101]) := fun _ _ _ _ _ _ _ _ _ _ _ => by kernel_rfl
theorem c7_4_4_2 : C7 (st [110, 117, 109, 98, 101, 114, 32, 39, 49, 39]) (st [110, 117, 109, 98, 101, 114, 32, 40, 49, 44, 32, 49, 41]) (st [110, 117, 109, 98, 101, 114, 32, 48]) := fun _ _ _ _ _ _ _ _ _ _ _ => by kernel_rfl
theorem c7_4_4_3 : C7 (st [110, 117, 109, 98, 101, 114, 32, 39, 49, 39]) (st [110, 117, 109, 98, 101, 114, 32, 40, 49, 44, 32, 49, 41]) (st [110, 117, 109, 98, 101, 114, 32, 39, 50, 39]) := fun _ _ _ _ _ _ _ _ _ _ _ => by kernel_rfl
theorem c7_4_4_4 : C7 (st [110, 117, 109, 98, 101, 114, 32, 39, 49, 39]) (st [110, 117, 109, 98, 101, 114, 32, 40, 49, 44, 32, 49, 41]) (st [110, 117, 109, 98, 101, 114, 32, 49, 48, 48, 48, 48, 48, 48, 48, 48, 48, 48, 48, 48, 48, 48, 48, 48, 48, 48, 48, 48, 48, 48, 48, 48, 48, 48, 48, 48, 48, 48, 48, 48, 48, 48, 48, 48, 48, 48, 48, 48, 48, 48, 48, 48, 48, 48, 48, 48, 48, 48, 48, 48, 48, 48, 48, 48, 48, 48, 48, 48]) := fun _ _ _ _ _ _ _ _ _ _ _ => by kernel_rfl
theorem c7_4_4_5 : C7 (st [110, 117, 109, 98, 101, 114, 32, 39, 49, 39]) (st [110, 117, 109, 98, 101, 114, 32, 40, 49, 44, 32, 49, 41]) (st [110, 117, 109, 98, 101, 114, 32, 40, 50, 44, 32, 49, 41]) := fun _ _ _ _ _ _ _ _ _ _ _ => by kernel_rfl
theorem pd_4_4 : ∀ low ∈ o12, ∃ y z u : Str, PC (.str (st [49])) (.tup [.int 1, .int 1]) low y z u ∧ C7 y z u := fun low h => by
  simp only [o12, List.mem_cons, List.not_mem_nil, or_false] at h
  rcases h with rfl | rfl | rfl | rfl | rfl | rfl
  · exact ⟨_, _, _, ⟨c1_4, c2_4, c3_0, c5_4_4_0⟩, c7_4_4_0⟩
  · exact ⟨_, _, _, ⟨c1_4, c2_4, c3_1, c5_4_4_1⟩, c7_4_4_1⟩
  · exact ⟨_, _, _, ⟨c1_4, c2_4, c3_2, c5_4_4_2⟩, c7_4_4_2⟩
  · exact ⟨_, _, _, ⟨c1_4, c2_4, c3_3, c5_4_4_3⟩, c7_4_4_3⟩
  · exact ⟨_, _, _, ⟨c1_4, c2_4, c3_4, c5_4_4_4⟩, c7_4_4_4⟩
  · exact ⟨_, _, _, ⟨c1_4, c2_4, c3_5, c5_4_4_5⟩, c7_4_4_5⟩
theorem c7_4_5_0 : C7 (st [110, 117, 109, 98, 101, 114, 32, 39, 49, 39]) (st [110, 117, 109, 98, 101, 114, 32, 91, 49, 93]) (st [110, 117, 109, 98, 101, 114, 32, 78, 111, 110, 101]) := fun _ _ _ _ _ _ _ _ _ _ _ => by kernel_rfl
theorem c7_4_5_1 : C7 (st [110, 117, 109, 98, 101, 114, 32, 39, 49, 39]) (st [110, 117, 109, 98, 101, 114, 32, 91, 49, 93]) (st [110, 117, 109, 98, 101, 114, 32, 70, 97, 108, 115, 101]) := fun _ _ _ _ _ _ _ _ _ _ _ => by kernel_rfl
theorem c7_4_5_2 : C7 (st [110, 117, 109, 98, 101, 114, 32, 39, 49, 39]) (st [110, 117, 109, 98, 101, 114, 32, 91, 49, 93]) (st [110, 117, 109, 98, 101, 114, 32, 48]) := fun _ _ _ _ _ _ _ _ _ _ _ => by kernel_rfl
theorem c7_4_5_3 : C7 (st [110, 117, 109, 98, 101, 114, 32, 39, 49, 39]) (st [110, 117, 109, 98, 101, 114, 32, 91, 49, 93]) (st [110, 117, 109, 98, 101, 114, 32, 39, 50, 39]) := fun _ _ _ _ _ _ _ _ _ _ _ => by kernel_rfl
theorem c7_4_5_4 : C7 (st [110, 117, 109, 98, 101, 114, 32, 39, 49, 39]) (st [110, 117, 109, 98, 101, 114, 32, 91, 49, 93]) (st [110, 117, 109, 98, 101, 114, 32, 49, 48, 48, 48, 48, 48, 48, 48, 48, 48, 48, 48, 48, 48, 48, 48, 48, 48, 48, 48, 48, 48, 48, 48, 48, 48, 48, 48, 48, 48, 48, 48, 48, 48, 48, 48, 48, 48, 48, 48, 48, 48, 48, 48, 48, 48, 48, 48, 48, 48, 48, 48, 48, 48, 48, 48, 48, 48, 48, 48, 48]) := fun _ _ _ _ _ _ _ _ _ _ _ => by kernel_rfl
theorem c7_4_5_5 : C7 (st [110, 117, 109, 98, 101, 114, 32, 39, 49, 39]) (st [110, 117, 109, 98, 101, 114, 32, 91, 49, 93]) (st [110, 117, 109, 98, 101, 114, 32, 40, 50, 44, 32, 49, 41]) := fun _ _ _ _ _ _ _ _ _ _ _ => by kernel_rfl
theorem pd_4_5 : ∀ low ∈ o12, ∃ y z u : Str, PC (.str (st [49])) (.ref 10) low y z u ∧ C7 y z u := fun low h => by
  simp only [o12, List.mem_cons, List.not_mem_nil, or_false] at h
  rcases h with rfl | rfl | rfl | rfl | rfl | rfl
  · exact ⟨_, _, _, ⟨c1_4, c2_5, c3_0, c5_4_5_0⟩, c7_4_5_0⟩
  · exact ⟨_, _, _, ⟨c1_4, c2_5, c3_1, c5_4_5_1⟩, c7_4_5_1⟩
  · exact ⟨_, _, _, ⟨c1_4, c2_5, c3_2, c5_4_5_2⟩, c7_4_5_2⟩
  · exact ⟨_, _, _, ⟨c1_4, c2_5, c3_3, c5_4_5_3⟩, c7_4_5_3⟩
  · exact ⟨_, _, _, ⟨c1_4, c2_5, c3_4, c5_4_5_4⟩, c7_4_5_4⟩
  · exact ⟨_, _, _, ⟨c1_4, c2_5, c3_5, c5_4_5_5⟩, c7_4_5_5⟩
theorem pd_4 : ∀ bad ∈ o11, ∀ low ∈ o12, ∃ y z u : Str, PC (.str (st [49])) bad low y z u ∧ C7 y z u := fun bad h => by
  simp only [o11, List.mem_cons, List.not_mem_nil, or_false] at h
  rcases h with rfl | rfl | rfl | rfl | rfl | rfl
  · exact pd_4_0
  · exact pd_4_1
  · exact pd_4_2
  · exact pd_4_3
  · exact pd_4_4
  · exact pd_4_5
theorem c7_5_0_0 : C7 (st [110, 117, 109, 98, 101, 114, 32, 40, 49, 44, 41]) (st [110, 117, 109, 98, 101, 114, 32, 78, 111, 110, 101]) (st [110, 117, 109, 98, 101, 114, 32, 78, 111, 110, 101]) := fun _ _ _ _ _ _ _ _ _ _ _ => by kernel_rfl
theorem c7_5_0_1 : C7 (st [110, 117, 109, 98, 101, 114, 32, 40, 49, 44, 41]) (st [110, 117, 109, 98, 101, 114, 32, 78, 111, 110, 101]) (st [110, 117, 109, 98, 101, 114, 32, 70, 97, 108, 115, 101]) := fun _ _ _ _ _ _ _ _ _ _ _ => by kernel_rfl
theorem c7_5_0_2 : C7 (st [110, 117, 109, 98, 101, 114, 32, 40, 49, 44, 41]) (st [110, 117, 109, 98, 101, 114, 32, 78, 111, 110, 101]) (st [110, 117, 109, 98, 101, 114, 32, 48]) := fun _ _ _ _ _ _ _ _ _ _ _ => by kernel_rfl
theorem c7_5_0_3 : C7 (st [110, 117, 109, 98, 101, 114, 32, 40, 49, 44, 41]) (st [110, 117, 109, 98, 101, 114, 32, 78, 111, 110, 101]) (st [110, 117, 109, 98, 101, 114, 32, 39, 50, 39]) := fun _ _ _ _ _ _ _ _ _ _ _ => by kernel_rfl
theorem c7_5_0_4 : C7 (st [110, 117, 109, 98, 101, 114, 32, 40, 49, 44, 41]) (st [110, 117, 109, 98, 101, 114, 32, 78, 111, 110, 101]) (st [110, 117, 109, 98, 101, 114, 32, 49, 48, 48, 48, 48, 48, 48, 48, 48, 48, 48, 48, 48, 48, 48, 48, 48, 48, 48, 48, 48, 48, 48, 48, 48, 48, 48, 48, 48, 48, 48, 48, 48, 48, 48, 48, 48, 48, 48, 48, 48, 48, 48, 48, 48, 48, 48, 48, 48, 48, 48, 48, 48, 48, 48, 48, 48, 48, 48, 48, 48]) := fun _ _ _ _ _ _ _ _ _ _ _ => by kernel_rfl
theorem c7_5_0_5 : C7 (st [110, 117, 109, 98, 101, 114, 32, 40, 49, 44, 41]) (st [110, 117, 109, 98, 101, 114, 32, 78, 111, 110, 101]) (st [110, 117, 109, 98, 101, 114, 32, 40, 50, 44, 32, 49, 41]) := fun _ _ _ _ _ _ _ _ _ _ _ => by kernel_rfl
theorem pd_5_0 : ∀ low ∈ o12, ∃ y z u : Str, PC (.tup [.int 1]) (.non) low y z u ∧ C7 y z u := fun low h => by
  simp only [o12, List.mem_cons, List.not_mem_nil, or_false] at h
  rcases h with rfl | rfl | rfl | rfl | rfl | rfl
  · exact ⟨_, _, _, ⟨c1_5, c2_0, c3_0, c5_5_0_0⟩, c7_5_0_0⟩
  · exact ⟨_, _, _, ⟨c1_5, c2_0, c3_1, c5_5_0_1⟩, c7_5_0_1⟩
  · exact ⟨_, _, _, ⟨c1_5, c2_0, c3_2, c5_5_0_2⟩, c7_5_0_2⟩
  · exact ⟨_, _, _, ⟨c1_5, c2_0, c3_3, c5_5_0_3⟩, c7_5_0_3⟩
  · exact ⟨_, _, _, ⟨c1_5, c2_0, c3_4, c5_5_0_4⟩, c7_5_0_4⟩
  · exact ⟨_, _, _, ⟨c1_5, c2_0, c3_5, c5_5_0_5⟩, c7_5_0_5⟩
theorem c7_5_1_0 : C7 (st [110, 117, 109, 98, 101, 114, 32, 40, 49, 44, 41]) (st [110, 117, 109, 98, 101, 114, 32, 84, 114, 117, 101]) (st [110, 117, 109, 98, 101, 114, 32, 78, 111, 110, 101]) := fun _ _ _ _ _ _ _ _ _ _ _ => by kernel_rfl
theorem c7_5_1_1 : C7 (st [110, 117, 109, 98, 101, 114, 32, 40, 49, 44, 41]) (st [110, 117, 109, 98, 101, 114, 32, 84, 114, 117, 101]) (st [110, 117, 109, 98, 101, 114, 32, 70, 97, 108, 115, 101]) := fun _ _ _ _ _ _ _ _ _ _ _ => by kernel_rfl
theorem c7_5_1_2 : C7 (st [110, 117, 109, 98, 101, 114, 32, 40, 49, 44, 41]) (st [110, 117, 109, 98, 101, 114, 32, 84, 114, 117, 101]) (st [110, 117, 109, 98, 101, 114, 32, 48]) := fun _ _ _ _ _ _ _ _ _ _ _ => by kernel_rfl
theorem c7_5_1_3 : C7 (st [110, 117, 109, 98, 101, 114, 32, 40, 49, 44, 41]) (st [110, 117, 109, 98, 101, 114, 32, 84, 114, 117, 101]) (st [110, 117, 109, 98, 101, 114, 32, 39, 50, 39]) := fun _ _ _ _ _ _ _ _ _ _ _ => by kernel_rfl
theorem c7_5_1_4 : C7 (st [110, 117, 109, 98, 101, 114, 32, 40, 49, 44, 41]) (st [110, 117, 109, 98, 101, 114, 32, 84, 114, 117, 101]) (st [110, 117, 109, 98, 101, 114, 32, 49, 48, 48, 48, 48, 48, 48, 48, 48, 48, 48, 48, 48, 48, 48, 48, 48, 48, 48, 48, 48, 48, 48, 48, 48, 48, 48, 48, 48, 48, 48, 48, 48, 48, 48, 48, 48, 48, 48, 48, 48, 48, 48, 48, 48, 48, 48, 48, 48, 48, 48, 48, 48, 48, 48, 48, 48, 48, 48, 48, 48]) := fun _ _ _ _ _ _ _ _ _ _ _ => by kernel_rfl
theorem c7_5_1_5 : C7 (st [110, 117, 109, 98, 101, 114, 32, 40, 49, 44, 41]) (st [110, 117, 109, 98, 101, 114, 32, 84, 114, 117, 101]) (st [110, 117, 109, 98, 101, 114, 32, 40, 50, 44, 32, 49, 41]) := fun _ _ _ _ _ _ _ _ _ _ _ => by kernel_rfl
theorem pd_5_1 : ∀ low ∈ o12, ∃ y z u : Str, PC (.tup [.int 1]) (.bl true) low y z u ∧ C7 y z u := fun low h => by
  simp only [o12, List.mem_cons, List.not_mem_nil, or_false] at h
  rcases h with rfl | rfl | rfl | rfl | rfl | rfl
  · exact ⟨_, _, _, ⟨c1_5, c2_1, c3_0, c5_5_1_0⟩, c7_5_1_0⟩
  · exact ⟨_, _, _, ⟨c1_5, c2_1, c3_1, c5_5_1_1⟩, c7_5_1_1⟩
  · exact ⟨_, _, _, ⟨c1_5, c2_1, c3_2, c5_5_1_2⟩, c7_5_1_2⟩
  · exact ⟨_, _, _, ⟨c1_5, c2_1, c3_3, c5_5_1_3⟩, c7_5_1_3⟩
  · exact ⟨_, _, _, ⟨c1_5, c2_1, c3_4, c5_5_1_4⟩, c7_5_1_4⟩
  · exact ⟨_, _, _, ⟨c1_5, c2_1, c3_5, c5_5_1_5⟩, c7_5_1_5⟩
theorem c7_5_2_0 : C7 (st [110, 117, 109, 98, 101, 114, 32, 40, 49, 44, 41]) (st [110, 117, 109, 98, 101, 114, 32, 39, 49, 39]) (st [110, 117, 109, 98, 101, 114, 32, 78, 111, 110, 101]) := fun _ _ _ _ _ _ _ _ _ _ _ => by kernel_rfl
theorem c7_5_2_1 : C7 (st [110, 117, 109, 98, 101, 114, 32, 40, 49, 44, 41]) (st [110, 117, 109, 98, 101, 114, 32, 39, 49, 39]) (st [110, 117, 109, 98, 101, 114, 32, 70, 97, 108, 115, 101]) := fun _ _ _ _ _ _ _ _ _ _ _ => by kernel_rfl
theorem c7_5_2_2 : C7 (st [110, 117, 109, 98, 101, 114, 32, 40, 49, 44, 41]) (st [110, 117, 109, 98, 101, 114, 32, 39, 49, 39]) (st [110, 117, 109, 98, 101, 114, 32, 48]) := fun _ _ _ _ _ _ _ _ _ _ _ => by kernel_rfl
theorem c7_5_2_3 : C7 (st [110, 117, 109, 98, 101, 114, 32, 40, 49, 44, 41]) (st [110, 117, 109, 98, 101, 114, 32, 39, 49, 39]) (st [110, 117, 109, 98, 101, 114, 32, 39, 50, 39]) := fun _ _ _ _ _ _ _ _ _ _ _ => by kernel_rfl
theorem c7_5_2_4 : C7 (st [110, 117, 109, 98, 101, 114, 32, 40, 49, 44, 41]) (st [110, 117, 109, 98, 101, 114, 32, 39, 49, 39]) (st [110, 117, 109, 98, 101, 114, 32, 49, 48, 48, 48, 48, 48, 48, 48, 48, 48, 48, 48, 48, 48, 48, 48, 48, 48, 48, 48, 48, 48, 48, 48, 48, 48, 48, 48, 48, 48, 48, 48, 48, 48, 48, 48, 48, 48, 48, 48, 48, 48, 48, 48, 48, 48, 48, 48, 48, 48, 48, 48, 48, 48, 48, 48, 48, 48, 48, 48, 48]) := fun _ _ _ _ _ _ _ _ _ _ _ => by kernel_rfl
theorem c7_5_2_5 : C7 (st [110, 117, 109, 98, 101, 114, 32, 40, 49, 44, 41]) (st [110, 117, 109, 98, 101, 114, 32, 39, 49, 39]) (st [110, 117, 109, 98, 101, 114, 32, 40, 50, 44, 32, 49, 41]) := fun _ _ _ _ _ _ _ _ _ _ _ => by kernel_rfl
theorem pd_5_2 : ∀ low ∈ o12, ∃ y z u : Str, PC (.tup [.int 1]) (.str (st [49])) low y z u ∧ C7 y z u := fun low h => by
  simp only [o12, List.mem_cons, List.not_mem_nil, or_false] at h
  rcases h with rfl | rfl | rfl | rfl | rfl | rfl
  · exact ⟨_, _, _, ⟨c1_5, c2_2, c3_0, c5_5_2_0⟩, c7_5_2_0⟩
  · exact ⟨_, _, _, ⟨c1_5, c2_2, c3_1, c5_5_2_1⟩, c7_5_2_1⟩
  · exact ⟨_, _, _, ⟨c1_5, c2_2, c3_2, c5_5_2_2⟩, c7_5_2_2⟩
  · exact ⟨_, _, _, ⟨c1_5, c2_2, c3_3, c5_5_2_3⟩, c7_5_2_3⟩
  · exact ⟨_, _, _, ⟨c1_5, c2_2, c3_4, c5_5_2_4⟩, c7_5_2_4⟩
  · exact ⟨_, _, _, ⟨c1_5, c2_2, c3_5, c5_5_2_5⟩, c7_5_2_5⟩
theorem c7_5_3_0 : C7 (st [110, 117, 109, 98, 101, 114, 32, 40, 49, 44, 41]) (st [110, 117, 109, 98, 101, 114, 32, 49, 48, 48, 48, 48, 48, 48, 48, 48, 48, 48, 48, 48, 48, 48, 48, 48, 48, 48, 48, 48, 48, 48, 48, 48, 48, 48, 48, 48, 48, 48, 48, 48, 48, 48, 48, 48, 48, 48, 48, 48, 48, 48, 48, 48, 48, 48, 48, 48, 48, 48, 48, 48, 48, 48, 48, 48, 48, 48, 48, 48]) (st [110, 117, 109, 98, 101, 114, 32, 78, 111, 110, 101]) := fun _ _ _ _ _ _ _ _ _ _ _ => by kernel_rfl
theorem c7_5_3_1 : C7 (st [110, 117, 109, 98, 101, 114, 32, 40, 49, 44, 41]) (st [110, 117, 109, 98, 101, 114, 32, 49, 48, 48, 48, 48, 48, 48, 48, 48, 48, 48, 48, 48, 48, 48, 48, 48, 48, 48, 48, 48, 48, 48, 48, 48, 48, 48, 48, 48, 48, 48, 48, 48, 48, 48, 48, 48, 48, 48, 48, 48, 48, 48, 48, 48, 48, 48, 48, 48, 48, 48, 48, 48, 48, 48, 48, 48, 48, 48, 48, 48]) (st [110, 117, 109, 98, 101, 114, 32, 70, 97, 108, 115, 101]) := fun _ _ _ _ _ _ _ _ _ _ _ => by kernel_rfl
theorem c7_5_3_2 : C7 (st [110, 117, 109, 98, 101, 114, 32, 40, 49, 44, 41]) (st [110, 117, 109, 98, 101, 114, 32, 49, 48, 48, 48, 48, 48, 48, 48, 48, 48, 48, 48, 48, 48, 48, 48, 48, 48, 48, 48, 48, 48, 48, 48, 48, 48, 48, 48, 48, 48, 48, 48, 48, 48, 48, 48, 48, 48, 48, 48, 48, 48, 48, 48, 48, 48, 48, 48, 48, 48, 48, 48, 48, 48, 48, 48, 48, 48, 48, 48, 48]) (st [110, 117, 109, 98, 101, 114, 32, 48]) := fun _ _ _ _ _ _ _ _ _ _ _ => by kernel_rfl
theorem c7_5_3_3 : C7 (st [110, 117, 109, 98, 101, 114, 32, 40, 49, 44, 41]) (st [110, 117, 109, 98, 101, 114, 32, 49, 48, 48, 48, 48, 48, 48, 48, 48, 48, 48, 48, 48, 48, 48, 48, 48, 48, 48, 48, 48, 48, 48, 48, 48, 48, 48, 48, 48, 48, 48, 48, 48, 48, 48, 48, 48, 48, 48, 48, 48, 48, 48, 48, 48, 48, 48, 48, 48, 48, 48, 48, 48, 48, 48, 48, 48, 48, 48, 48, 48]) (st [110, 117, 109, 98, 101, 114, 32, 39, 50, 39]) := fun _ _ _ _ _ _ _ _ _ _ _ => by kernel_rfl
theorem c7_5_3_4 : C7 (st [110, 117, 109, 98, 101, 114, 32, 40, 49, 44, 41]) (st [110, 117, 109, 98, 101, 114, 32, 49, 48, 48, 48, 48, 48, 48, 48, 48, 48, 48, 48, 48, 48, 48, 48, 48, 48, 48, 48, 48, 48, 48, 48, 48, 48, 48, 48, 48, 48, 48, 48, 48, 48, 48, 48, 48, 48, 48, 48, 48, 48, 48, 48, 48, 48, 48, 48, 48, 48, 48, 48, 48, 48, 48, 48, 48, 48, 48, 48, 48]) (st [110, 117, 109, 98, 101, 114, 32, 49, 48, 48, 48, 48, 48, 48, 48, 48, 48, 48, 48, 48, 48, 48, 48, 48, 48, 48, 48, 48, 48, 48, 48, 48, 48, 48, 48, 48, 48, 48, 48, 48, 48, 48, 48, 48, 48, 48, 48, 48, 48, 48, 48, 48, 48, 48, 48, 48, 48, 48, 48, 48, 48, 48, 48, 48, 48, 48, 48, 48]) := fun _ _ _ _ _ _ _ _ _ _ _ => by kernel_rfl
theorem c7_5_3_5 : C7 (st [110, 117, 109, 98, 101, 114, 32, 40, 49, 44, 41]) (st [110, 117, 109, 98, 101, 114, 32, 49, 48, 48, 48, 48, 48, 48, 48, 48, 48, 48, 48, 48, 48, 48, 48, 48, 48, 48, 48, 48, 48, 48, 48, 48, 48, 48, 48, 48, 48, 48, 48, 48, 48, 48, 48, 48, 48, 48, 48, 48, 48, 48, 48, 48, 48, 48, 48, 48, 48, 48, 48, 48, 48, 48, 48, 48, 48, 48, 48, 48]) (st [110, 117, 109, 98, 101, 114, 32, 40, 50, 44, 32, 49, 41]) := fun _ _ _ _ _ _ _ _ _ _ _ => by kernel_rfl
theorem pd_5_3 : ∀ low ∈ o12, ∃ y z u : Str, PC (.tup [.int 1]) (.int (10 ^ 60)) low y z u ∧ C7 y z u := fun low h => by
  simp only [o12, List.mem_cons, List.not_mem_nil, or_false] at h
  rcases h with rfl | rfl | rfl | rfl | rfl | rfl
  · exact ⟨_, _, _, ⟨c1_5, c2_3, c3_0, c5_5_3_0⟩, c7_5_3_0⟩
  · exact ⟨_, _, _, ⟨c1_5, c2_3, c3_1, c5_5_3_1⟩, c7_5_3_1⟩
  · exact ⟨_, _, _, ⟨c1_5, c2_3, c3_2, c5_5_3_2⟩, c7_5_3_2⟩
  · exact ⟨_, _, _, ⟨c1_5, c2_3, c3_3, c5_5_3_3⟩, c7_5_3_3⟩
  · exact ⟨_, _, _, ⟨c1_5, c2_3, c3_4, c5_5_3_4⟩, c7_5_3_4⟩
  · exact ⟨_, _, _, ⟨c1_5, c2_3, c3_5, c5_5_3_5⟩, c7_5_3_5⟩
theorem c7_5_4_0 : C7 (st [110, 117, 109, 98, 101, 114, 32, 40, 49, 44, 41]) (st [110, 117, 109, 98, 101, 114, 32, 40, 49, 44, 32, 49, 41]) (st [110, 117, 109, 98, 101, 114, 32, 78, 111, 110, 101]) := fun _ _ _ _ _ _ _ _ _ _ _ => by kernel_rfl
theorem c7_5_4_1 : C7 (st [110, 117, 109, 98, 101, 114, 32, 40, 49, 44, 41]) (st [110, 117, 109, 98, 101, 114, 32, 40, 49, 44, 32, 49, 41]) (st [110, 117, 109, 98, 101, 114, 32, 70, 97, 108, 115, 101]) := fun _ _ _ _ _ _ _ _ _ _ _ => by kernel_rfl
theorem c7_5_4_2 : C7 (st [110, 117, 109, 98, 101, 114, 32, 40, 49, 44, 41]) (st [110, 117, 109, 98, 101, 114, 32, 40, 49, 44, 32, 49, 41]) (st [110, 117, 109, 98, 101, 114, 32, 48]) := fun _ _ _ _ _ _ _ _ _ _ _ => by kernel_rfl
theorem c7_5_4_3 : C7 (st [110, 117, 109, 98, 101, 114, 32, 40, 49, 44, 41]) (st [110, 117, 109, 98, 101, 114, 32, 40, 49, 44, 32, 49, 41]) (st [110, 117, 109, 98, 101, 114, 32, 39, 50, 39]) := fun _ _ _ _ _ _ _ _ _ _ _ => by kernel_rfl
theorem c7_5_4_4 : C7 (st [110, 117, 109, 98, 101, 114, 32, 40, 49, 44, 41]) (st [110, 117, 109, 98, 101, 114, 32, 40, 49, 44, 32, 49, 41]) (st [110, 117, 109, 98, 101, 114, 32, 49, 48, 48, 48, 48, 48, 48, 48, 48, 48, 48, 48, 48, 48, 48, 48, 48, 48, 48, 48, 48, 48, 48, 48, 48, 48, 48, 48, 48, 48, 48, 48, 48, 48, 48, 48, 48, 48, 48, 48, 48, 48, 48, 48, 48, 48, 48, 48, 48, 48, 48, 48, 48, 48, 48, 48, 48, 48, 48, 48, 48]) := fun _ _ _ _ _ _ _ _ _ _ _ => by kernel_rfl
theorem c7_5_4_5 : C7 (st [110, 117, 109, 98, 101, 114, 32, 40, 49, 44, 41]) (st [110, 117, 109, 98, 101, 114, 32, 40, 49, 44, 32, 49, 41]) (st [110, 117, 109, 98, 101, 114, 32, 40, 50, 44, 32, 49, 41]) := fun _ _ _ _ _ _ _ _ _ _ _ => by kernel_rfl
theorem pd_5_4 : ∀ low ∈ o12, ∃ y z u : Str, PC (.tup [.int 1]) (.tup [.int 1, .int 1]) low y z u ∧ C7 y z u := fun low h => by
  simp only [o12, List.mem_cons, List.not_mem_nil, or_false] at h
  rcases h with rfl | rfl | rfl | rfl | rfl | rfl
  · exact ⟨_, _, _, ⟨c1_5, c2_4, c3_0, c5_5_4_0⟩, c7_5_4_0⟩
  · exact ⟨_, _, _, ⟨c1_5, c2_4, c3_1, c5_5_4_1⟩, c7_5_4_1⟩
  · exact ⟨_, _, _, ⟨c1_5, c2_4, c3_2, c5_5_4_2⟩, c7_5_4_2⟩
  · exact ⟨_, _, _, ⟨c1_5, c2_4, c3_3, c5_5_4_3⟩, c7_5_4_3⟩
  · exact ⟨_, _, _, ⟨c1_5, c2_4, c3_4, c5_5_4_4⟩, c7_5_4_4⟩
  · exact ⟨_, _, _, ⟨c1_5, c2_4, c3_5, c5_5_4_5⟩, c7_5_4_5⟩
theorem c7_5_5_0 : C7 (st [110, 117, 109, 98, 101, 114, 32, 40, 49, 44, 41]) (st [110, 117, 109, 98, 101, 114, 32, 91, 49, 93]) (st [110, 117, 109, 98, 101, 114, 32, 78, 111, 110, 101]) := fun _ _ _ _ _ _ _ _ _ _ _ => by kernel_rfl
theorem c7_5_5_1 : C7 (st [110, 117, 109, 98, 101, 114, 32, 40, 49, 44, 41]) (st [110, 117, 109, 98, 101, 114, 32, 91, 49, 93]) (st [110, 117, 109, 98, 101, 114, 32, 70, 97, 108, 115, 101]) := fun _ _ _ _ _ _ _ _ _ _ _ => by kernel_rfl
theorem c7_5_5_2 : C7 (st [110, 117, 109, 98, 101, 114, 32, 40, 49, 44, 41]) (st [110, 117, 109, 98, 101, 114, 32, 91, 49, 93]) (st [110, 117, 109, 98, 101, 114, 32, 48]) := fun _ _ _ _ _ _ _ _ _ _ _ => by kernel_rfl
theorem c7_5_5_3 : C7 (st [110, 117, 109, 98, 101, 114, 32, 40, 49, 44, 41]) (st [110, 117, 109, 98, 101, 114, 32, 91, 49, 93]) (st [110, 117, 109, 98, 101, 114, 32, 39, 50, 39]) := fun _ _ _ _ _ _ _ _ _ _ _ => by kernel_rfl
theorem c7_5_5_4 : C7 (st [110, 117, 109, 98, 101, 114, 32, 40, 49, 44, 41]) (st [110, 117, 109, 98, 101, 114, 32, 91, 49, 93]) (st [110, 117, 109, 98, 101, 114, 32, 49, 48, 48, 48, 48, 48, 48, 48, 48, 48, 48, 48, 48, 48, 48, 48, 48, 48, 48, 48, 48, 48, 48, 48, 48, 48, 48, 48, 48, 48, 48, 48, 48, 48, 48, 48, 48, 48, 48, 48, 48, 48, 48, 48, 48, 48, 48, 48, 48, 48, 48, 48, 48, 48, 48, 48, 48, 48, 48, 48, 48]) := fun _ _ _ _ _ _ _ _ _ _ _ => by kernel_rfl
theorem c7_5_5_5 : C7 (st [110, 117, 109, 98, 101, 114, 32, 40, 49, 44, 41]) (st [110, 117, 109, 98, 101, 114, 32, 91, 49, 93]) (st [110, 117, 109, 98, 101, 114, 32, 40, 50, 44, 32, 49, 41]) := fun _ _ _ _ _ _ _ _ _ _ _ => by kernel_rfl
theorem pd_5_5 : ∀ low ∈ o12, ∃ y z u : Str, PC (.tup [.int 1]) (.ref 10) low y z u ∧ C7 y z u := fun low h => by
  simp only [o12, List.mem_cons, List.not_mem_nil, or_false] at h
  rcases h with rfl | rfl | rfl | rfl | rfl | rfl
  · exact ⟨_, _, _, ⟨c1_5, c2_5, c3_0, c5_5_5_0⟩, c7_5_5_0⟩
  · exact ⟨_, _, _, ⟨c1_5, c2_5, c3_1, c5_5_5_1⟩, c7_5_5_1⟩
  · exact ⟨_, _, _, ⟨c1_5, c2_5, c3_2, c5_5_5_2⟩, c7_5_5_2⟩
  · exact ⟨_, _, _, ⟨c1_5, c2_5, c3_3, c5_5_5_3⟩, c7_5_5_3⟩
  · exact ⟨_, _, _, ⟨c1_5, c2_5, c3_4, c5_5_5_4⟩, c7_5_5_4⟩
  · exact ⟨_, _, _, ⟨c1_5, c2_5, c3_5, c5_5_5_5⟩, c7_5_5_5⟩
theorem pd_5 : ∀ bad ∈ o11, ∀ low ∈ o12, ∃ y z u : Str, PC (.tup [.int 1]) bad low y z u ∧ C7 y z u := fun bad h => by
  simp only [o11, List.mem_cons, List.not_mem_nil, or_false] at h
  rcases h with rfl | rfl | rfl | rfl | rfl | rfl
  · exact pd_5_0
  · exact pd_5_1
  · exact pd_5_2
  · exact pd_5_3
  · exact pd_5_4
  · exact pd_5_5
theorem c7_6_0_0 : C7 (st [110, 117, 109, 98, 101, 114, 32, 91, 50, 93]) (st [110, 117, 109, 98, 101, 114, 32, 78, 111, 110, 101]) (st [110, 117, 109, 98, 101, 114, 32, 78, 111, 110, 101]) := fun _ _ _ _ _ _ _ _ _ _ _ => by kernel_rfl
theorem c7_6_0_1 : C7 (st [110, 117, 109, 98, 101, 114, 32, 91, 50, 93]) (st [110, 117, 109, 98, 101, 114, 32, 78, 111, 110, 101]) (st [110, 117, 109, 98, 101, 114, 32, 70, 97, 108, 115, 101]) := fun _ _ _ _ _ _ _ _ _ _ _ => by kernel_rfl
theorem c7_6_0_2 : C7 (st [110, 117, 109, 98, 101, 114, 32, 91, 50, 93]) (st [110, 117, 109, 98, 101, 114, 32, 78, 111, 110, 101]) (st [110, 117, 109, 98, 101, 114, 32, 48]) := fun _ _ _ _ _ _ _ _ _ _ _ => by kernel_rfl
theorem c7_6_0_3 : C7 (st [110, 117, 109, 98, 101, 114, 32, 91, 50, 93]) (st [110, 117, 109, 98, 101, 114, 32, 78, 111, 110, 101]) (st [110, 117, 109, 98, 101, 114, 32, 39, 50, 39]) := fun _ _ _ _ _ _ _ _ _ _ _ => by kernel_rfl
theorem c7_6_0_4 : C7 (st [110, 117, 109, 98, 101, 114, 32, 91, 50, 93]) (st [110, 117, 109, 98, 101, 114, 32, 78, 111, 110, 101]) (st [110, 117, 109, 98, 101, 114, 32, 49, 48, 48, 48, 48, 48, 48, 48, 48, 48, 48, 48, 48, 48, 48, 48, 48, 48, 48, 48, 48, 48, 48, 48, 48, 48, 48, 48, 48, 48, 48, 48, 48, 48, 48, 48, 48, 48, 48, 48, 48, 48, 48, 48, 48, 48, 48, 48, 48, 48, 48, 48, 48, 48, 48, 48, 48, 48, 48, 48, 48]) := fun _ _ _ _ _ _ _ _ _ _ _ => by kernel_rfl
theorem c7_6_0_5 : C7 (st [110, 117, 109, 98, 101, 114, 32, 91, 50, 93]) (st [110, 117, 109, 98, 101, 114, 32, 78, 111, 110, 101]) (st [110, 117, 109, 98, 101, 114, 32, 40, 50, 44, 32, 49, 41]) := fun _ _ _ _ _ _ _ _ _ _ _ => by kernel_rfl
theorem pd_6_0 : ∀ low ∈ o12, ∃ y z u : Str, PC (.ref 8) (.non) low y z u ∧ C7 y z u := fun low h => by
  simp only [o12, List.mem_cons, List.not_mem_nil, or_false] at h
  rcases h with rfl | rfl | rfl | rfl | rfl | rfl
  · exact ⟨_, _, _, ⟨c1_6, c2_0, c3_0, c5_6_0_0⟩, c7_6_0_0⟩
  · exact ⟨_, _, _, ⟨c1_6, c2_0, c3_1, c5_6_0_1⟩, c7_6_0_1⟩
  · exact ⟨_, _, _, ⟨c1_6, c2_0, c3_2, c5_6_0_2⟩, c7_6_0_2⟩
  · exact ⟨_, _, _, ⟨c1_6, c2_0, c3_3, c5_6_0_3⟩, c7_6_0_3⟩
  · exact ⟨_, _, _, ⟨c1_6, c2_0, c3_4, c5_6_0_4⟩, c7_6_0_4⟩
  · exact ⟨_, _, _, ⟨c1_6, c2_0, c3_5, c5_6_0_5⟩, c7_6_0_5⟩
theorem c7_6_1_0 : C7 (st [110, 117, 109, 98, 101, 114, 32, 91, 50, 93]) (st [110, 117, 109, 98, 101, 114, 32, 84, 114, 117, 101]) (st [110, 117, 109, 98, 101, 114, 32, 78, 111, 110, 101]) := fun _ _ _ _ _ _ _ _ _ _ _ => by kernel_rfl
theorem c7_6_1_1 : C7 (st [110, 117, 109, 98, 101, 114, 32, 91, 50, 93]) (st [110, 117, 109, 98, 101, 114, 32, 84, 114, 117, 101]) (st [110, 117, 109, 98, 101, 114, 32, 70, 97, 108, 115, 101]) := fun _ _ _ _ _ _ _ _ _ _ _ => by kernel_rfl
theorem c7_6_1_2 : C7 (st [110, 117, 109, 98, 101, 114, 32, 91, 50, 93]) (st [110, 117, 109, 98, 101, 114, 32, 84, 114, 117, 101]) (st [110, 117, 109, 98, 101, 114, 32, 48]) := fun _ _ _ _ _ _ _ _ _ _ _ => by kernel_rfl
theorem c7_6_1_3 : C7 (st [110, 117, 109, 98, 101, 114, 32, 91, 50, 93]) (st [110, 117, 109, 98, 101, 114, 32, 84, 114, 117, 101]) (st [110, 117, 109, 98, 101, 114, 32, 39, 50, 39]) := fun _ _ _ _ _ _ _ _ _ _ _ => by kernel_rfl
theorem c7_6_1_4 : C7 (st [110, 117, 109, 98, 101, 114, 32, 91, 50, 93]) (st [110, 117, 109, 98, 101, 114, 32, 84, 114, 117, 101]) (st [110, 117, 109, 98, 101, 114, 32, 49, 48, 48, 48, 48, 48, 48, 48, 48, 48, 48, 48, 48, 48, 48, 48, 48, 48, 48, 48, 48, 48, 48, 48, 48, 48, 48, 48, 48, 48, 48, 48, 48, 48, 48, 48, 48, 48, 48, 48, 48, 48, 48, 48, 48, 48, 48, 48, 48, 48, 48, 48, 48, 48, 48, 48, 48, 48, 48, 48, 48]) := fun _ _ _ _ _ _ _ _ _ _ _ => by kernel_rfl
theorem c7_6_1_5 : C7 (st [110, 117, 109, 98, 101, 114, 32, 91, 50, 93]) (st [110, 117, 109, 98, 101, 114, 32, 84, 114, 117, 101]) (st [110, 117, 109, 98, 101, 114, 32, 40, 50, 44, 32, 49, 41]) := fun _ _ _ _ _ _ _ _ _ _ _ => by kernel_rfl
theorem pd_6_1 : ∀ low ∈ o12, ∃ y z u : Str, PC (.ref 8) (.bl true) low y z u ∧ C7 y z u := fun low h => by
  simp only [o12, List.mem_cons, List.not_mem_nil, or_false] at h
  rcases h with rfl | rfl | rfl | rfl | rfl | rfl
  · exact ⟨_, _, _, ⟨c1_6, c2_1, c3_0, c5_6_1_0⟩, c7_6_1_0⟩
  · exact ⟨_, _, _, ⟨c1_6, c2_1, c3_1, c5_6_1_1⟩, c7_6_1_1⟩
  · exact ⟨_, _, _, ⟨c1_6, c2_1, c3_2, c5_6_1_2⟩, c7_6_1_2⟩
  · exact ⟨_, _, _, ⟨c1_6, c2_1, c3_3, c5_6_1_3⟩, c7_6_1_3⟩
  · exact ⟨_, _, _, ⟨c1_6, c2_1, c3_4, c5_6_1_4⟩, c7_6_1_4⟩
  · exact ⟨_, _, _, ⟨c1_6, c2_1, c3_5, c5_6_1_5⟩, c7_6_1_5⟩
theorem c7_6_2_0 : C7 (st [110, 117, 109, 98, 101, 114, 32, 91, 50, 93]) (st [110, 117, 109, 98, 101, 114, 32, 39, 49, 39]) (st [110, 117, 109, 98, 101, 114, 32, 78, 111, 110, 101]) := fun _ _ _ _ _ _ _ _ _ _ _ => by kernel_rfl
theorem c7_6_2_1 : C7 (st [110, 117, 109, 98, 101, 114, 32, 91, 50, 93]) (st [110, 117, 109, 98, 101, 114, 32, 39, 49, 39]) (st [110, 117, 109, 98, 101, 114, 32, 70, 97, 108, 115, 101]) := fun _ _ _ _ _ _ _ _ _ _ _ => by kernel_rfl
theorem c7_6_2_2 : C7 (st [110, 117, 109, 98, 101, 114, 32, 91, 50, 93]) (st [110, 117, 109, 98, 101, 114, 32, 39, 49, 39]) (st [110, 117, 109, 98, 101, 114, 32, 48]) := fun _ _ _ _ _ _ _ _ _ _ _ => by kernel_rfl
theorem c7_6_2_3 : C7 (st [110, 117, 109, 98, 101, 114, 32, 91, 50, 93]) (st [110, 117, 109, 98, 101, 114, 32, 39, 49, 39]) (st [110, 117, 109, 98, 101, 114, 32, 39, 50, 39]) := fun _ _ _ _ _ _ _ _ _ _ _ => by kernel_rfl
theorem c7_6_2_4 : C7 (st [110, 117, 109, 98, 101, 114, 32, 91, 50, 93]) (st [110, 117, 109, 98, 101, 114, 32, 39, 49, 39]) (st [110, 117, 109, 98, 101, 114, 32, 49, 48, 48, 48, 48, 48, 48, 48, 48, 48, 48, 48, 48, 48, 48, 48, 48, 48, 48, 48, 48, 48, 48, 48, 48, 48, 48, 48, 48, 48, 48, 48, 48, 48, 48, 48, 48, 48, 48, 48, 48, 48, 48, 48, 48, 48, 48, 48, 48, 48, 48, 48, 48, 48, 48, 48, 48, 48, 48, 48, 48]) := fun _ _ _ _ _ _ _ _ _ _ _ => by kernel_rfl
theorem c7_6_2_5 : C7 (st [110, 117, 109, 98, 101, 114, 32, 91, 50, 93]) (st [110, 117, 109, 98, 101, 114, 32, 39, 49, 39]) (st [110, 117, 109, 98, 101, 114, 32, 40, 50, 44, 32, 49, 41]) := fun _ _ _ _ _ _ _ _ _ _ _ => by kernel_rfl
theorem pd_6_2 : ∀ low ∈ o12, ∃ y z u : Str, PC (.ref 8) (.str (st [49])) low y z u ∧ C7 y z u := fun low h => by
  simp only [o12, List.mem_cons, List.not_mem_nil, or_false] at h
  rcases h with rfl | rfl | rfl | rfl | rfl | rfl
  · exact ⟨_, _, _, ⟨c1_6, c2_2, c3_0, c5_6_2_0⟩, c7_6_2_0⟩
  · exact ⟨_, _, _, ⟨c1_6, c2_2, c3_1, c5_6_2_1⟩, c7_6_2_1⟩
  · exact ⟨_, _, _, ⟨c1_6, c2_2, c3_2, c5_6_2_2⟩, c7_6_2_2⟩
  · exact ⟨_, _, _, ⟨c1_6, c2_2, c3_3, c5_6_2_3⟩, c7_6_2_3⟩
  · exact ⟨_, _, _, ⟨c1_6, c2_2, c3_4, c5_6_2_4⟩, c7_6_2_4⟩
  · exact ⟨_, _, _, ⟨c1_6, c2_2, c3_5, c5_6_2_5⟩, c7_6_2_5⟩
theorem c7_6_3_0 : C7 (st [110, 117, 109, 98, 101, 114, 32, 91, 50, 93]) (st [110, 117, 109, 98, 101, 114, 32, 49, 48, 48, 48, 48, 48, 48, 48, 48, 48, 48, 48, 48, 48, 48, 48, 48, 48, 48, 48, 48, 48, 48, 48, 48, 48, 48, 48, 48, 48, 48, 48, 48, 48, 48, 48, 48, 48, 48, 48, 48, 48, 48, 48, 48, 48, 48, 48, 48, 48, 48, 48, 48, 48, 48, 48, 48, 48, 48, 48, 48]) (st [110, 117, 109, 98, 101, 114, 32, 78, 111, 110, 101]) := fun _ _ _ _ _ _ _ _ _ _ _ => by kernel_rfl
theorem c7_6_3_1 : C7 (st [110, 117, 109, 98, 101, 114, 32, 91, 50, 93]) (st [110, 117, 109, 98, 101, 114, 32, 49, 48, 48, 48, 48, 48, 48, 48, 48, 48, 48, 48, 48, 48, 48, 48, 48, 48, 48, 48, 48, 48, 48, 48, 48, 48, 48, 48, 48, 48, 48, 48, 48, 48, 48, 48, 48, 48, 48, 48, 48, 48, 48, 48, 48, 48, 48, 48, 48, 48, 48, 48, 48, 48, 48, 48, 48, 48, 48, 48, 48]) (st [110, 117, 109, 98, 101, 114, 32, 70, 97, 108, 115, 101]) := fun _ _ _ _ _ _ _ _ _ _ _ => by kernel_rfl
theorem c7_6_3_2 : C7 (st [110, 117, 109, 98, 101, 114, 32, 91, 50, 93]) (st [110, 117, 109, 98, 101, 114, 32, 49, 48, 48, 48, 48, 48, 48, 48, 48, 48, 48, 48, 48, 48, 48, 48, 48, 48, 48, 48, 48, 48, 48, 48, 48, 48, 48, 48, 48, 48, 48, 48, 48, 48, 48, 48, 48, 48, 48, 48, 48, 48, 48, 48, 48, 48, 48, 48, 48, 48, 48, 48, 48, 48, 48, 48, 48, 48, 48, 48, 48]) (st [110, 117, 109, 98, 101, 114, 32, 48]) := fun _ _ _ _ _ _ _ _ _ _ _ => by kernel_rfl
theorem c7_6_3_3 : C7 (st [110, 117, 109, 98, 101, 114, 32, 91, 50, 93]) (st [110, 117, 109, 98, 101, 114, 32, 49, 48, 48, 48, 48, 48, 48, 48, 48, 48, 48, 48, 48, 48, 48, 48, 48, 48, 48, 48, 48, 48, 48, 48, 48, 48, 48, 48, 48, 48, 48, 48, 48, 48, 48, 48, 48, 48, 48, 48, 48, 48, 48, 48, 48, 48, 48, 48, 48, 48, 48, 48, 48, 48, 48, 48, 48, 48, 48, 48, 48]) (st [110, 117, 109, 98, 101, 114, 32, 39, 50, 39]) := fun _ _ _ _ _ _ _ _ _ _ _ => by kernel_rfl
theorem c7_6_3_4 : C7 (st [110, 117, 109, 98, 101, 114, 32, 91, 50, 93]) (st [110, 117, 109, 98, 101, 114, 32, 49, 48, 48, 48, 48, 48, 48, 48, 48, 48, 48, 48, 48, 48, 48, 48, 48, 48, 48, 48, 48, 48, 48, 48, 48, 48, 48, 48, 48, 48, 48, 48, 48, 48, 48, 48, 48, 48, 48, 48, 48, 48, 48, 48, 48, 48, 48, 48, 48, 48, 48, 48, 48, 48, 48, 48, 48, 48, 48, 48, 48]) (st [110, 117, 109, 98, 101, 114, 32, 49, 48, 48, 48, 48, 48, 48, 48, 48, 48, 48, 48, 48, 48, 48, 48, 48, 48, 48, 48, 48, 48, 48, 48, 48, 48, 48, 48, 48, 48, 48, 48, 48, 48, 48, 48, 48, 48, 48, 48, 48, 48, 48, 48, 48, 48, 48, 48, 48, 48, 48, 48, 48, 48, 48, 48, 48, 48, 48, 48, 48]) := fun _ _ _ _ _ _ _ _ _ _ _ => by kernel_rfl
theorem c7_6_3_5 : C7 (st [110, 117, 109, 98, 101, 114, 32, 91, 50, 93]) (st [110, 117, 109, 98, 101, 114, 32, 49, 48, 48, 48, 48, 48, 48, 48, 48, 48, 48, 48, 48, 48, 48, 48, 48, 48, 48, 48, 48, 48, 48, 48, 48, 48, 48, 48, 48, 48, 48, 48, 48, 48, 48, 48, 48, 48, 48, 48, 48, 48, 48, 48, 48, 48, 48, 48, 48, 48, 48, 48, 48, 48, 48, 48, 48, 48, 48, 48, 48]) (st [110, 117, 109, 98, 101, 114, 32, 40, 50, 44, 32, 49, 41]) := fun _ _ _ _ _ _ _ _ _ _ _ => by kernel_rfl
theorem pd_6_3 : ∀ low ∈ o12, ∃ y z u : Str, PC (.ref 8) (.int (10 ^ 60)) low y z u ∧ C7 y z u := fun low h => by
  simp only [o12, List.mem_cons, List.not_mem_nil, or_false] at h
  rcases h with rfl | rfl | rfl | rfl | rfl | rfl
  · exact ⟨_, _, _, ⟨c1_6, c2_3, c3_0, c5_6_3_0⟩, c7_6_3_0⟩
  · exact ⟨_, _, _, ⟨c1_6, c2_3, c3_1, c5_6_3_1⟩, c7_6_3_1⟩
  · exact ⟨_, _, _, ⟨c1_6, c2_3, c3_2, c5_6_3_2⟩, c7_6_3_2⟩
  · exact ⟨_, _, _, ⟨c1_6, c2_3, c3_3, c5_6_3_3⟩, c7_6_3_3⟩
  · exact ⟨_, _, _, ⟨c1_6, c2_3, c3_4, c5_6_3_4⟩, c7_6_3_4⟩
  · exact ⟨_, _, _, ⟨c1_6, c2_3, c3_5, c5_6_3_5⟩, c7_6_3_5⟩
theorem c7_6_4_0 : C7 (st [110, 117, 109, 98, 101, 114, 32, 91, 50, 93]) (st [110, 117, 109, 98, 101, 114, 32, 40, 49, 44, 32, 49, 41]) (st [110, 117, 109, 98, 101, 114, 32, 78, 111, 110, 101]) := fun _ _ _ _ _ _ _ _ _ _ _ => by kernel_rfl
theorem c7_6_4_1 : C7 (st [110, 117, 109, 98, 101, 114, 32, 91, 50, 93]) (st [110, 117, 109, 98, 101, 114, 32, 40, 49, 44, 32, 49, 41]) (st [110, 117, 109, 98, 101, 114, 32, 70, 97, 108, 115, 101]) := fun _ _ _ _ _ _ _ _ _ _ _ => by kernel_rfl
theorem c7_6_4_2 : C7 (st [110, 117, 109, 98, 101, 114, 32, 91, 50, 93]) (st [110, 117, 109, 98, 101, 114, 32, 40, 49, 44, 32, 49, 41]) (st [110, 117, 109, 98, 101, 114, 32, 48]) := fun _ _ _ _ _ _ _ _ _ _ _ => by kernel_rfl
theorem c7_6_4_3 : C7 (st [110, 117, 109, 98, 101, 114, 32, 91, 50, 93]) (st [110, 117, 109, 98, 101, 114, 32, 40, 49, 44, 32, 49, 41]) (st [110, 117, 109, 98, 101, 114, 32, 39, 50, 39]) := fun _ _ _ _ _ _ _ _ _ _ _ => by kernel_rfl
theorem c7_6_4_4 : C7 (st [110, 117, 109, 98, 101, 114, 32, 91, 50, 93]) (st [110, 117, 109, 98, 101, 114, 32, 40, 49, 44, 32, 49, 41]) (st [110, 117, 109, 98, 101, 114, 32, 49, 48, 48, 48, 48, 48, 48, 48, 48, 48, 48, 48, 48, 48, 48, 48, 48, 48, 48, 48, 48, 48, 48, 48, 48, 48, 48, 48, 48, 48, 48, 48, 48, 48, 48, 48, 48, 48, 48, 48, 48, 48, 48, 48, 48, 48, 48, 48, 48, 48, 48, 48, 48, 48, 48, 48, 48, 48, 48, 48, 48]) := fun _ _ _ _ _ _ _ _ _ _ _ => by kernel_rfl
theorem c7_6_4_5 : C7 (st [110, 117, 109, 98, 101, 114, 32, 91, 50, 93]) (st [110, 117, 109, 98, 101, 114, 32, 40, 49, 44, 32, 49, 41]) (st [110, 117, 109, 98, 101, 114, 32, 40, 50, 44, 32, 49, 41]) := fun _ _ _ _ _ _ _ _ _ _ _ => by kernel_rfl
theorem pd_6_4 : ∀ low ∈ o12, ∃ y z u : Str, PC (.ref 8) (.tup [.int 1, .int 1]) low y z u ∧ C7 y z u := fun low h => by
  simp only [o12, List.mem_cons, List.not_mem_nil, or_false] at h
  rcases h with rfl | rfl | rfl | rfl | rfl | rfl
  · exact ⟨_, _, _, ⟨c1_6, c2_4, c3_0, c5_6_4_0⟩, c7_6_4_0⟩
  · exact ⟨_, _, _, ⟨c1_6, c2_4, c3_1, c5_6_4_1⟩, c7_6_4_1⟩
  · exact ⟨_, _, _, ⟨c1_6, c2_4, c3_2, c5_6_4_2⟩, c7_6_4_2⟩
  · exact ⟨_, _, _, ⟨c1_6, c2_4, c3_3, c5_6_4_3⟩, c7_6_4_3⟩
  · exact ⟨_, _, _, ⟨c1_6, c2_4, c3_4, c5_6_4_4⟩, c7_6_4_4⟩
  · exact ⟨_, _, _, ⟨c1_6, c2_4, c3_5, c5_6_4_5⟩, c7_6_4_5⟩
theorem c7_6_5_0 : C7 (st [110, 117, 109, 98, 101, 114, 32, 91, 50, 93]) (st [110, 117, 109, 98, 101, 114, 32, 91, 49, 93]) (st [110, 117, 109, 98, 101, 114, 32, 78, 111, 110, 101]) := fun _ _ _ _ _ _ _ _ _ _ _ => by kernel_rfl
theorem c7_6_5_1 : C7 (st [110, 117, 109, 98, 101, 114, 32, 91, 50, 93]) (st [110, 117, 109, 98, 101, 114, 32, 91, 49, 93]) (st [110, 117, 109, 98, 101, 114, 32, 70, 97, 108, 115, 101]) := fun _ _ _ _ _ _ _ _ _ _ _ => by kernel_rfl
theorem c7_6_5_2 : C7 (st [110, 117, 109, 98, 101, 114, 32, 91, 50, 93]) (st [110, 117, 109, 98, 101, 114, 32, 91, 49, 93]) (st [110, 117, 109, 98, 101, 114, 32, 48]) := fun _ _ _ _ _ _ _ _ _ _ _ => by kernel_rfl
theorem c7_6_5_3 : C7 (st [110, 117, 109, 98, 101, 114, 32, 91, 50, 93]) (st [110, 117, 109, 98, 101, 114, 32, 91, 49, 93]) (st [110, 117, 109, 98, 101, 114, 32, 39, 50, 39]) := fun _ _ _ _ _ _ _ _ _ _ _ => by kernel_rfl
theorem c7_6_5_4 : C7 (st [110, 117, 109, 98, 101, 114, 32, 91, 50, 93]) (st [110, 117, 109, 98, 101, 114, 32, 91, 49, 93]) (st [110, 117, 109, 98, 101, 114, 32, 49, 48, 48, 48, 48, 48, 48, 48, 48, 48, 48, 48, 48, 48, 48, 48, 48, 48, 48, 48, 48, 48, 48, 48, 48, 48, 48, 48, 48, 48, 48, 48, 48, 48, 48, 48, 48, 48, 48, 48, 48, 48, 48, 48, 48, 48, 48, 48, 48, 48, 48, 48, 48, 48, 48, 48, 48, 48, 48, 48, 48]) := fun _ _ _ _ _ _ _ _ _ _ _ => by kernel_rfl
theorem c7_6_5_5 : C7 (st [110, 117, 109, 98, 101, 114, 32, 91, 50, 93]) (st [110, 117, 109, 98, 101, 114, 32, 91, 49, 93]) (st [110, 117, 109, 98, 101, 114, 32, 40, 50, 44, 32, 49, 41]) := fun _ _ _ _ _ _ _ _ _ _ _ => by kernel_rfl
theorem pd_6_5 : ∀ low ∈ o12, ∃ y z u : Str, PC (.ref 8) (.ref 10) low y z u ∧ C7 y z u := fun low h => by
  simp only [o12, List.mem_cons, List.not_mem_nil, or_false] at h
  rcases h with rfl | rfl | rfl | rfl | rfl | rfl
  · exact ⟨_, _, _, ⟨c1_6, c2_5, c3_0, c5_6_5_0⟩, c7_6_5_0⟩
  · exact ⟨_, _, _, ⟨c1_6, c2_5, c3_1, c5_6_5_1⟩, c7_6_5_1⟩
  · exact ⟨_, _, _, ⟨c1_6, c2_5, c3_2, c5_6_5_2⟩, c7_6_5_2⟩
  · exact ⟨_, _, _, ⟨c1_6, c2_5, c3_3, c5_6_5_3⟩, c7_6_5_3⟩
  · exact ⟨_, _, _, ⟨c1_6, c2_5, c3_4, c5_6_5_4⟩, c7_6_5_4⟩
  · exact ⟨_, _, _, ⟨c1_6, c2_5, c3_5, c5_6_5_5⟩, c7_6_5_5⟩
theorem pd_6 : ∀ bad ∈ o11, ∀ low ∈ o12, ∃ y z u : Str, PC (.ref 8) bad low y z u ∧ C7 y z u := fun bad h => by
  simp only [o11, List.mem_cons, List.not_mem_nil, or_false] at h
  rcases h with rfl | rfl | rfl | rfl | rfl | rfl
  · exact pd_6_0
  · exact pd_6_1
  · exact pd_6_2
  · exact pd_6_3
  · exact pd_6_4
  · exact pd_6_5
theorem c7_7_0_0 : C7 (st [110, 117, 109, 98, 101, 114, 32, 49, 48, 48, 48, 48, 48, 48, 48, 48, 48, 48, 48, 48, 48, 48, 48, 48, 48, 48, 48, 48, 48, 48, 48, 48, 48, 48, 48, 48, 48, 48, 48, 48, 48, 48, 48, 48, 48, 48, 48, 48, 48, 48, 48, 48, 48, 48, 48, 48, 48, 48, 48, 48, 48, 48, 48, 48, 48, 48, 48, 48]) (st [110, 117, 109, 98, 101, 114, 32, 78, 111, 110, 101]) (st [110, 117, 109, 98, 101, 114, 32, 78, 111, 110, 101]) := fun _ _ _ _ _ _ _ _ _ _ _ => by kernel_rfl
theorem c7_7_0_1 : C7 (st [110, 117, 109, 98, 101, 114, 32, 49, 48, 48, 48, 48, 48, 48, 48, 48, 48, 48, 48, 48, 48, 48, 48, 48, 48, 48, 48, 48, 48, 48, 48, 48, 48, 48, 48, 48, 48, 48, 48, 48, 48, 48, 48, 48, 48, 48, 48, 48, 48, 48, 48, 48, 48, 48, 48, 48, 48, 48, 48, 48, 48, 48, 48, 48, 48, 48, 48, 48]) (st [110, 117, 109, 98, 101, 114, 32, 78, 111, 110, 101]) (st [110, 117, 109, 98, 101, 114, 32, 70, 97, 108, 115, 101]) := fun _ _ _ _ _ _ _ _ _ _ _ => by kernel_rfl
theorem c7_7_0_2 : C7 (st [110, 117, 109, 98, 101, 114, 32, 49, 48, 48, 48, 48, 48, 48, 48, 48, 48, 48, 48, 48, 48, 48, 48, 48, 48, 48, 48, 48, 48, 48, 48, 48, 48, 48, 48, 48, 48, 48, 48, 48, 48, 48, 48, 48, 48, 48, 48, 48, 48, 48, 48, 48, 48, 48, 48, 48, 48, 48, 48, 48, 48, 48, 48, 48, 48, 48, 48, 48]) (st [110, 117, 109, 98, 101, 114, 32, 78, 111, 110, 101]) (st [110, 117, 109, 98, 101, 114, 32, 48]) := fun _ _ _ _ _ _ _ _ _ _ _ => by kernel_rfl
theorem c7_7_0_3 : C7 (st [110, 117, 109, 98, 101, 114, 32, 49, 48, 48, 48, 48, 48, 48, 48, 48, 48, 48, 48, 48, 48, 48, 48, 48, 48, 48, 48, 48, 48, 48, 48, 48, 48, 48, 48, 48, 48, 48, 48, 48, 48, 48, 48, 48, 48, 48, 48, 48, 48, 48, 48, 48, 48, 48, 48, 48, 48, 48, 48, 48, 48, 48, 48, 48, 48, 48, 48, 48]) (st [110, 117, 109, 98, 101, 114, 32, 78, 111, 110, 101]) (st [110, 117, 109, 98, 101, 114, 32, 39, 50, 39]) := fun _ _ _ _ _ _ _ _ _ _ _ => by kernel_rfl
theorem c7_7_0_4 : C7 (st [110, 117, 109, 98, 101, 114, 32, 49, 48, 48, 48, 48, 48, 48, 48, 48, 48, 48, 48, 48, 48, 48, 48, 48, 48, 48, 48, 48, 48, 48, 48, 48, 48, 48, 48, 48, 48, 48, 48, 48, 48, 48, 48, 48, 48, 48, 48, 48, 48, 48, 48, 48, 48, 48, 48, 48, 48, 48, 48, 48, 48, 48, 48, 48, 48, 48, 48, 48]) (st [110, 117, 109, 98, 101, 114, 32, 78, 111, 110, 101]) (st [110, 117, 109, 98, 101, 114, 32, 49, 48, 48, 48, 48, 48, 48, 48, 48, 48, 48, 48, 48, 48, 48, 48, 48, 48, 48, 48, 48, 48, 48, 48, 48, 48, 48, 48, 48, 48, 48, 48, 48, 48, 48, 48, 48, 48, 48, 48, 48, 48, 48, 48, 48, 48, 48, 48, 48, 48, 48, 48, 48, 48, 48, 48, 48, 48, 48, 48, 48]) := fun _ _ _ _ _ _ _ _ _ _ _ => by kernel_rfl
theorem c7_7_0_5 : C7 (st [110, 117, 109, 98, 101, 114, 32, 49, 48, 48, 48, 48, 48, 48, 48, 48, 48, 48, 48, 48, 48, 48, 48, 48, 48, 48, 48, 48, 48, 48, 48, 48, 48, 48, 48, 48, 48, 48, 48, 48, 48, 48, 48, 48, 48, 48, 48, 48, 48, 48, 48, 48, 48, 48, 48, 48, 48, 48, 48, 48, 48, 48, 48, 48, 48, 48, 48, 48]) (st [110, 117, 109, 98, 101, 114, 32, 78, 111, 110, 101]) (st [110, 117, 109, 98, 101, 114, 32, 40, 50, 44, 32, 49, 41]) := fun _ _ _ _ _ _ _ _ _ _ _ => by kernel_rfl
theorem pd_7_0 : ∀ low ∈ o12, ∃ y z u : Str, PC (.int (10 ^ 60)) (.non) low y z u ∧ C7 y z u := fun low h => by
  simp only [o12, List.mem_cons, List.not_mem_nil, or_false] at h
  rcases h with rfl | rfl | rfl | rfl | rfl | rfl
  · exact ⟨_, _, _, ⟨c1_7, c2_0, c3_0, c5_7_0_0⟩, c7_7_0_0⟩
  · exact ⟨_, _, _, ⟨c1_7, c2_0, c3_1, c5_7_0_1⟩, c7_7_0_1⟩
  · exact ⟨_, _, _, ⟨c1_7, c2_0, c3_2, c5_7_0_2⟩, c7_7_0_2⟩
  · exact ⟨_, _, _, ⟨c1_7, c2_0, c3_3, c5_7_0_3⟩, c7_7_0_3⟩
  · exact ⟨_, _, _, ⟨c1_7, c2_0, c3_4, c5_7_0_4⟩, c7_7_0_4⟩
  · exact ⟨_, _, _, ⟨c1_7, c2_0, c3_5, c5_7_0_5⟩, c7_7_0_5⟩
theorem c7_7_1_0 : C7 (st [110, 117, 109, 98, 101, 114, 32, 49, 48, 48, 48, 48, 48, 48, 48, 48, 48, 48, 48, 48, 48, 48, 48, 48, 48, 48, 48, 48, 48, 48, 48, 48, 48, 48, 48, 48, 48, 48, 48, 48, 48, 48, 48, 48, 48, 48, 48, 48, 48, 48, 48, 48, 48, 48, 48, 48, 48, 48, 48, 48, 48, 48, 48, 48, 48, 48, 48, 48]) (st [110, 117, 109, 98, 101, 114, 32, 84, 114, 117, 101]) (st [110, 117, 109, 98, 101, 114, 32, 78, 111, 110, 101]) := fun _ _ _ _ _ _ _ _ _ _ _ => by kernel_rfl
theorem c7_7_1_1 : C7 (st [110, 117, 109, 98, 101, 114, 32, 49, 48, 48, 48, 48, 48, 48, 48, 48, 48, 48, 48, 48, 48, 48, 48, 48, 48, 48, 48, 48, 48, 48, 48, 48, 48, 48, 48, 48, 48, 48, 48, 48, 48, 48, 48, 48, 48, 48, 48, 48, 48, 48, 48, 48, 48, 48, 48, 48, 48, 48, 48, 48, 48, 48, 48, 48, 48, 48, 48, 48]) (st [110, 117, 109, 98, 101, 114, 32, 84, 114, 117, 101]) (st [110, 117, 109, 98, 101, 114, 32, 70, 97, 108, 115, 101]) := fun _ _ _ _ _ _ _ _ _ _ _ => by kernel_rfl
theorem c7_7_1_2 : C7 (st [110, 117, 109, 98, 101, 114, 32, 49, 48, 48, 48, 48, 48, 48, 48, 48, 48, 48, 48, 48, 48, 48, 48, 48, 48, 48, 48, 48, 48, 48, 48, 48, 48, 48, 48, 48, 48, 48, 48, 48, 48, 48, 48, 48, 48, 48, 48, 48, 48, 48, 48, 48, 48, 48, 48, 48, 48, 48, 48, 48, 48, 48, 48, 48, 48, 48, 48, 48]) (st [110, 117, 109, 98, 101, 114, 32, 84, 114, 117, 101]) (st [110, 117, 109, 98, 101, 114, 32, 48]) := fun _ _ _ _ _ _ _ _ _ _ _ => by kernel_rfl
theorem c7_7_1_3 : C7 (st [110, 117, 109, 98, 101, 114, 32, 49, 48, 48, 48, 48, 48, 48, 48, 48, 48, 48, 48, 48, 48, 48, 48, 48, 48, 48, 48, 48, 48, 48, 48, 48, 48, 48, 48, 48, 48, 48, 48, 48, 48, 48, 48, 48, 48, 48, 48, 48, 48, 48, 48, 48, 48, 48, 48, 48, 48, 48, 48, 48, 48, 48, 48, 48, 48, 48, 48, 48]) (st [110, 117, 109, 98, 101, 114, 32, 84, 114, 117, 101]) (st [110, 117, 109, 98, 101, 114, 32, 39, 50, 39]) := fun _ _ _ _ _ _ _ _ _ _ _ => by kernel_rfl
theorem c7_7_1_4 : C7 (st [110, 117, 109, 98, 101, 114, 32, 49, 48, 48, 48, 48, 48, 48, 48, 48, 48, 48, 48, 48, 48, 48, 48, 48, 48, 48, 48, 48, 48, 48, 48, 48, 48, 48, 48, 48, 48, 48, 48, 48, 48, 48, 48, 48, 48, 48, 48, 48, 48, 48, 48, 48, 48, 48, 48, 48, 48, 48, 48, 48, 48, 48, 48, 48, 48, 48, 48, 48]) (st [110, 117, 109, 98, 101, 114, 32, 84, 114, 117, 101]) (st [110, 117, 109, 98, 101, 114, 32, 49, 48, 48, 48, 48, 48, 48, 48, 48, 48, 48, 48, 48, 48, 48, 48, 48, 48, 48, 48, 48, 48, 48, 48, 48, 48, 48, 48, 48, 48, 48, 48, 48, 48, 48, 48, 48, 48, 48, 48, 48, 48, 48, 48, 48, 48, 48, 48, 48, 48, 48, 48, 48, 48, 48, 48, 48, 48, 48, 48, 48]) := fun _ _ _ _ _ _ _ _ _ _ _ => by kernel_rfl
theorem c7_7_1_5 : C7 (st [110, 117, 109, 98, 101, 114, 32, 49, 48, 48, 48, 48, 48, 48, 48, 48, 48, 48, 48, 48, 48, 48, 48, 48, 48, 48, 48, 48, 48, 48, 48, 48, 48, 48, 48, 48, 48, 48, 48, 48, 48, 48, 48, 48, 48, 48, 48, 48, 48, 48, 48, 48, 48, 48, 48, 48, 48, 48, 48, 48, 48, 48, 48, 48, 48, 48, 48, 48]) (st [110, 117, 109, 98, 101, 114, 32, 84, 114, 117, 101]) (st [110, 117, 109, 98, 101, 114, 32, 40, 50, 44, 32, 49, 41]) := fun _ _ _ _ _ _ _ _ _ _ _ => by kernel_rfl
theorem pd_7_1 : ∀ low ∈ o12, ∃ y z u : Str, PC (.int (10 ^ 60)) (.bl true) low y z u ∧ C7 y z u := fun low h => by
  simp only [o12, List.mem_cons, List.not_mem_nil, or_false] at h
  rcases h with rfl | rfl | rfl | rfl | rfl | rfl
  · exact ⟨_, _, _, ⟨c1_7, c2_1, c3_0, c5_7_1_0⟩, c7_7_1_0⟩
  · exact ⟨_, _, _, ⟨c1_7, c2_1, c3_1, c5_7_1_1⟩, c7_7_1_1⟩
  · exact ⟨_, _, _, ⟨c1_7, c2_1, c3_2, c5_7_1_2⟩, c7_7_1_2⟩
  · exact ⟨_, _, _, ⟨c1_7, c2_1, c3_3, c5_7_1_3⟩, c7_7_1_3⟩
  · exact ⟨_, _, _, ⟨c1_7, c2_1, c3_4, c5_7_1_4⟩, c7_7_1_4⟩
  · exact ⟨_, _, _, ⟨c1_7, c2_1, c3_5, c5_7_1_5⟩, c7_7_1_5⟩
theorem c7_7_2_0 : C7 (st [110, 117, 109, 98, 101, 114, 32, 49, 48, 48, 48, 48, 48, 48, 48, 48, 48, 48, 48, 48, 48, 48, 48, 48, 48, 48, 48, 48, 48, 48, 48, 48, 48, 48, 48, 48, 48, 48, 48, 48, 48, 48, 48, 48, 48, 48, 48, 48, 48, 48, 48, 48, 48, 48, 48, 48, 48, 48, 48, 48, 48, 48, 48, 48, 48, 48, 48, 48]) (st [110, 117, 109, 98, 101, 114, 32, 39, 49, 39]) (st [110, 117, 109, 98, 101, 114, 32, 78, 111, 110, 101]) := fun _ _ _ _ _ _ _ _ _ _ _ => by kernel_rfl
theorem c7_7_2_1 : C7 (st [110, 117, 109, 98, 101, 114, 32, 49, 48, 48, 48, 48, 48, 48, 48, 48, 48, 48, 48, 48, 48, 48, 48, 48, 48, 48, 48, 48, 48, 48, 48, 48, 48, 48, 48, 48, 48, 48, 48, 48, 48, 48, 48, 48, 48, 48, 48, 48, 48, 48, 48, 48, 48, 48, 48, 48, 48, 48, 48, 48, 48, 48, 48, 48, 48, 48, 48, 48]) (st [110, 117, 109, 98, 101, 114, 32, 39, 49, 39]) (st [110, 117, 109, 98, 101, 114, 32, 70, 97, 108, 115, 101]) := fun _ _ _ _ _ _ _ _ _ _ _ => by kernel_rfl
theorem c7_7_2_2 : C7 (st [110, 117, 109, 98, 101, 114, 32, 49, 48, 48, 48, 48, 48, 48, 48, 48, 48, 48, 48, 48, 48, 48, 48, 48, 48, 48, 48, 48, 48, 48, 48, 48, 48, 48, 48, 48, 48, 48, 48, 48, 48, 48, 48, 48, 48, 48, 48, 48, 48, 48, 48, 48, 48, 48, 48, 48, 48, 48, 48, 48, 48, 48, 48, 48, 48, 48, 48, 48]) (st [110, 117, 109, 98, 101, 114, 32, 39, 49, 39]) (st [110, 117, 109, 98, 101, 114, 32, 48]) := fun _ _ _ _ _ _ _ _ _ _ _ => by kernel_rfl
theorem c7_7_2_3 : C7 (st [110, 117, 109, 98, 101, 114, 32, 49, 48, 48, 48, 48, 48, 48, 48, 48, 48, 48, 48, 48, 48, 48, 48, 48, 48, 48, 48, 48, 48, 48, 48, 48, 48, 48, 48, 48, 48, 48, 48, 48, 48, 48, 48, 48, 48, 48, 48, 48, 48, 48, 48, 48, 48, 48, 48, 48, 48, 48, 48, 48, 48, 48, 48, 48, 48, 48, 48, 48]) (st [110, 117, 109, 98, 101, 114, 32, 39, 49, 39]) (st [110, 117, 109, 98, 101, 114, 32, 39, 50, 39]) := fun _ _ _ _ _ _ _ _ _ _ _ => by kernel_rfl
theorem c7_7_2_4 : C7 (st [110, 117, 109, 98, 101, 114, 32, 49, 48, 48, 48, 48, 48, 48, 48, 48, 48, 48, 48, 48, 48, 48, 48, 48, 48, 48, 48, 48, 48, 48, 48, 48, 48, 48, 48, 48, 48, 48, 48, 48, 48, 48, 48, 48, 48, 48, 48, 48, 48, 48, 48, 48, 48, 48, 48, 48, 48, 48, 48, 48, 48, 48, 48, 48, 48, 48, 48, 48]) (st [110, 117, 109, 98, 101, 114, 32, 39, 49, 39]) (st [110, 117, 109, 98, 101, 114, 32, 49, 48, 48, 48, 48, 48, 48, 48, 48, 48, 48, 48, 48, 48, 48, 48, 48, 48, 48, 48, 48, 48, 48, 48, 48, 48, 48, 48, 48, 48, 48, 48, 48, 48, 48, 48, 48, 48, 48, 48, 48, 48, 48, 48, 48, 48, 48, 48, 48, 48, 48, 48, 48, 48, 48, 48, 48, 48, 48, 48, 48]) := fun _ _ _ _ _ _ _ _ _ _ _ => by kernel_rfl
theorem c7_7_2_5 : C7 (st [110, 117, 109, 98, 101, 114, 32, 49, 48, 48, 48, 48, 48, 48, 48, 48, 48, 48, 48, 48, 48, 48, 48, 48, 48, 48, 48, 48, 48, 48, 48, 48, 48, 48, 48, 48, 48, 48, 48, 48, 48, 48, 48, 48, 48, 48, 48, 48, 48, 48, 48, 48, 48, 48, 48, 48, 48, 48, 48, 48, 48, 48, 48, 48, 48, 48, 48, 48]) (st [110, 117, 109, 98, 101, 114, 32, 39, 49, 39]) (st [110, 117, 109, 98, 101, 114, 32, 40, 50, 44, 32, 49, 41]) := fun _ _ _ _ _ _ _ _ _ _ _ => by kernel_rfl
theorem pd_7_2 : ∀ low ∈ o12, ∃ y z u : Str, PC (.int (10 ^ 60)) (.str (st [49])) low y z u ∧ C7 y z u := fun low h => by
  simp only [o12, List.mem_cons, List.not_mem_nil, or_false] at h
  rcases h with rfl | rfl | rfl | rfl | rfl | rfl
  · exact ⟨_, _, _, ⟨c1_7, c2_2, c3_0, c5_7_2_0⟩, c7_7_2_0⟩
  · exact ⟨_, _, _, ⟨c1_7, c2_2, c3_1, c5_7_2_1⟩, c7_7_2_1⟩
  · exact ⟨_, _, _, ⟨c1_7, c2_2, c3_2, c5_7_2_2⟩, c7_7_2_2⟩
  · exact ⟨_, _, _, ⟨c1_7, c2_2, c3_3, c5_7_2_3⟩, c7_7_2_3⟩
  · exact ⟨_, _, _, ⟨c1_7, c2_2, c3_4, c5_7_2_4⟩, c7_7_2_4⟩
  · exact ⟨_, _, _, ⟨c1_7, c2_2, c3_5, c5_7_2_5⟩, c7_7_2_5⟩
theorem c7_7_3_0 : C7 (st [110, 117, 109, 98, 101, 114, 32, 49, 48, 48, 48, 48, 48, 48, 48, 48, 48, 48, 48, 48, 48, 48, 48, 48, 48, 48, 48, 48, 48, 48, 48, 48, 48, 48, 48, 48, 48, 48, 48, 48, 48, 48, 48, 48, 48, 48, 48, 48, 48, 48, 48, 48, 48, 48, 48, 48, 48, 48, 48, 48, 48, 48, 48, 48, 48, 48, 48, 48]) (st [110, 117, 109, 98, 101, 114, 32, 49, 48, 48, 48, 48, 48, 48, 48, 48, 48, 48, 48, 48, 48, 48, 48, 48, 48, 48, 48, 48, 48, 48, 48, 48, 48, 48, 48, 48, 48, 48, 48, 48, 48, 48, 48, 48, 48, 48, 48, 48, 48, 48, 48, 48, 48, 48, 48, 48, 48, 48, 48, 48, 48, 48, 48, 48, 48, 48, 48, 48]) (st [110, 117, 109, 98, 101, 114, 32, 78, 111, 110, 101]) := fun _ _ _ _ _ _ _ _ _ _ _ => by kernel_rfl
theorem c7_7_3_1 : C7 (st [110, 117, 109, 98, 101, 114, 32, 49, 48, 48, 48, 48, 48, 48, 48, 48, 48, 48, 48, 48, 48, 48, 48, 48, 48, 48, 48, 48, 48, 48, 48, 48, 48, 48, 48, 48, 48, 48, 48, 48, 48, 48, 48, 48, 48, 48, 48, 48, 48, 48, 48, 48, 48, 48, 48, 48, 48, 48, 48, 48, 48, 48, 48, 48, 48, 48, 48, 48]) (st [110, 117, 109, 98, 101, 114, 32, 49, 48, 48, 48, 48, 48, 48, 48, 48, 48, 48, 48, 48, 48, 48, 48, 48, 48, 48, 48, 48, 48, 48, 48, 48, 48, 48, 48, 48, 48, 48, 48, 48, 48, 48, 48, 48, 48, 48, 48, 48, 48, 48, 48, 48, 48, 48, 48, 48, 48, 48, 48, 48, 48, 48, 48, 48, 48, 48, 48, 48]) (st [110, 117, 109, 98, 101, 114, 32, 70, 97, 108, 115, 101]) := fun _ _ _ _ _ _ _ _ _ _ _ => by kernel_rfl
theorem c7_7_3_2 : C7 (st [110, 117, 109, 98, 101, 114, 32, 49, 48, 48, 48, 48, 48, 48, 48, 48, 48, 48, 48, 48, 48, 48, 48, 48, 48, 48, 48, 48, 48, 48, 48, 48, 48, 48, 48, 48, 48, 48, 48, 48, 48, 48, 48, 48, 48, 48, 48, 48, 48, 48, 48, 48, 48, 48, 48, 48, 48, 48, 48, 48, 48, 48, 48, 48, 48, 48, 48, 48]) (st [110, 117, 109, 98, 101, 114, 32, 49, 48, 48, 48, 48, 48, 48, 48, 48, 48, 48, 48, 48, 48, 48, 48, 48, 48, 48, 48, 48, 48, 48, 48, 48, 48, 48, 48, 48, 48, 48, 48, 48, 48, 48, 48, 48, 48, 48, 48, 48, 48, 48, 48, 48, 48, 48, 48, 48, 48, 48, 48, 48, 48, 48, 48, 48, 48, 48, 48, 48]) (st [110, 117, 109, 98, 101, 114, 32, 48]) := fun _ _ _ _ _ _ _ _ _ _ _ => by kernel_rfl
theorem c7_7_3_3 : C7 (st [110, 117, 109, 98, 101, 114, 32, 49, 48, 48, 48, 48, 48, 48, 48, 48, 48, 48, 48, 48, 48, 48, 48, 48, 48, 48, 48, 48, 48, 48, 48, 48, 48, 48, 48, 48, 48, 48, 48, 48, 48, 48, 48, 48, 48, 48, 48, 48, 48, 48, 48, 48, 48, 48, 48, 48, 48, 48, 48, 48, 48, 48, 48, 48, 48, 48, 48, 48]) (st [110, 117, 109, 98, 101, 114, 32, 49, 48, 48, 48, 48, 48, 48, 48, 48, 48, 48, 48, 48, 48, 48, 48, 48, 48, 48, 48, 48, 48, 48, 48, 48, 48, 48, 48, 48, 48, 48, 48, 48, 48, 48, 48, 48, 48, 48, 48, 48, 48, 48, 48, 48, 48, 48, 48, 48, 48, 48, 48, 48, 48, 48, 48, 48, 48, 48, 48, 48]) (st [110, 117, 109, 98, 101, 114, 32, 39, 50, 39]) := fun _ _ _ _ _ _ _ _ _ _ _ => by kernel_rfl
theorem c7_7_3_4 : C7 (st [110, 117, 109, 98, 101, 114, 32, 49, 48, 48, 48, 48, 48, 48, 48, 48, 48, 48, 48, 48, 48, 48, 48, 48, 48, 48, 48, 48, 48, 48, 48, 48, 48, 48, 48, 48, 48, 48, 48, 48, 48, 48, 48, 48, 48, 48, 48, 48, 48, 48, 48, 48, 48, 48, 48, 48, 48, 48, 48, 48, 48, 48, 48, 48, 48, 48, 48, 48]) (st [110, 117, 109, 98, 101, 114, 32, 49, 48, 48, 48, 48, 48, 48, 48, 48, 48, 48, 48, 48, 48, 48, 48, 48, 48, 48, 48, 48, 48, 48, 48, 48, 48, 48, 48, 48, 48, 48, 48, 48, 48, 48, 48, 48, 48, 48, 48, 48, 48, 48, 48, 48, 48, 48, 48, 48, 48, 48, 48, 48, 48, 48, 48, 48, 48, 48, 48, 48]) (st [110, 117, 109, 98, 101, 114, 32, 49, 48, 48, 48, 48, 48, 48, 48, 48, 48, 48, 48, 48, 48, 48, 48, 48, 48, 48, 48, 48, 48, 48, 48, 48, 48, 48, 48, 48, 48, 48, 48, 48, 48, 48, 48, 48, 48, 48, 48, 48, 48, 48, 48, 48, 48, 48, 48, 48, 48, 48, 48, 48, 48, 48, 48, 48, 48, 48, 48, 48]) := fun _ _ _ _ _ _ _ _ _ _ _ => by kernel_rfl
theorem c7_7_3_5 : C7 (st [110, 117, 109, 98, 101, 114, 32, 49, 48, 48, 48, 48, 48, 48, 48, 48, 48, 48, 48, 48, 48, 48, 48, 48, 48, 48, 48, 48, 48, 48, 48, 48, 48, 48, 48, 48, 48, 48, 48, 48, 48, 48, 48, 48, 48, 48, 48, 48, 48, 48, 48, 48, 48, 48, 48, 48, 48, 48, 48, 48, 48, 48, 48, 48, 48, 48, 48, 48]) (st [110, 117, 109, 98, 101, 114, 32, 49, 48, 48, 48, 48, 48, 48, 48, 48, 48, 48, 48, 48, 48, 48, 48, 48, 48, 48, 48, 48, 48, 48, 48, 48, 48, 48, 48, 48, 48, 48, 48, 48, 48, 48, 48, 48, 48, 48, 48, 48, 48, 48, 48, 48, 48, 48, 48, 48, 48, 48, 48, 48, 48, 48, 48, 48, 48, 48, 48, 48]) (st [110, 117, 109, 98, 101, 114, 32, 40, 50, 44, 32, 49, 41]) := fun _ _ _ _ _ _ _ _ _ _ _ => by kernel_rfl
theorem pd_7_3 : ∀ low ∈ o12, ∃ y z u : Str, PC (.int (10 ^ 60)) (.int (10 ^ 60)) low y z u ∧ C7 y z u := fun low h => by
  simp only [o12, List.mem_cons, List.not_mem_nil, or_false] at h
  rcases h with rfl | rfl | rfl | rfl | rfl | rfl
  · exact ⟨_, _, _, ⟨c1_7, c2_3, c3_0, c5_7_3_0⟩, c7_7_3_0⟩
  · exact ⟨_, _, _, ⟨c1_7, c2_3, c3_1, c5_7_3_1⟩, c7_7_3_1⟩
  · exact ⟨_, _, _, ⟨c1_7, c2_3, c3_2, c5_7_3_2⟩, c7_7_3_2⟩
  · exact ⟨_, _, _, ⟨c1_7, c2_3, c3_3, c5_7_3_3⟩, c7_7_3_3⟩
  · exact ⟨_, _, _, ⟨c1_7, c2_3, c3_4, c5_7_3_4⟩, c7_7_3_4⟩
  · exact ⟨_, _, _, ⟨c1_7, c2_3, c3_5, c5_7_3_5⟩, c7_7_3_5⟩
theorem c7_7_4_0 : C7 (st [110, 117, 109, 98, 101, 114, 32, 49, 48, 48, 48, 48, 48, 48, 48, 48, 48, 48, 48, 48, 48, 48, 48, 48, 48, 48, 48, 48, 48, 48, 48, 48, 48, 48, 48, 48, 48, 48, 48, 48, 48, 48, 48, 48, 48, 48, 48, 48, 48, 48, 48, 48, 48, 48, 48, 48, 48, 48, 48, 48, 48, 48, 48, 48, 48, 48, 48, 48]) (st [110, 117, 109, 98, 101, 114, 32, 40, 49, 44, 32, 49, 41]) (st [110, 117, 109, 98, 101, 114, 32, 78, 111, 110, 101]) := fun _ _ _ _ _ _ _ _ _ _ _ => by kernel_rfl
theorem c7_7_4_1 : C7 (st [110, 117, 109, 98, 101, 114, 32, 49, 48, 48, 48, 48, 48, 48, 48, 48, 48, 48, 48, 48, 48, 48, 48, 48, 48, 48, 48, 48, 48, 48, 48, 48, 48, 48, 48, 48, 48, 48, 48, 48, 48, 48, 48, 48, 48, 48, 48, 48, 48, 48, 48, 48, 48, 48, 48, 48, 48, 48, 48, 48, 48, 48, 48, 48, 48, 48, 48, 48]) (st [110, 117, 109, 98, 101, 114, 32, 40, 49, 44, 32, 49, 41]) (st [110, 117, 109, 98, 101, 114, 32, 70, 97, 108, 115, 101]) := fun _ _ _ _ _ _ _ _ _ _ _ => by kernel_rfl
theorem c7_7_4_2 : C7 (st [110, 117, 109, 98, 101, 114, 32, 49, 48, 48, 48, 48, 48, 48, 48, 48, 48, 48, 48, 48, 48, 48, 48, 48, 48, 48, 48, 48, 48, 48, 48, 48, 48, 48, 48, 48, 48, 48, 48, 48, 48, 48, 48, 48, 48, 48, 48, 48, 48, 48, 48, 48, 48, 48, 48, 48, 48, 48, 48, 48, 48, 48, 48, 48, 48, 48, 48, 48]) (st [110, 117, 109, 98, 101, 114, 32, 40, 49, 44, 32, 49, 41]) (st [110, 117, 109, 98, 101, 114, 32, 48]) := fun _ _ _ _ _ _ _ _ _ _ _ => by kernel_rfl
theorem c7_7_4_3 : C7 (st [110, 117, 109, 98, 101, 114, 32, 49, 48, 48, 48, 48, 48, 48, 48, 48, 48, 48, 48, 48, 48, 48, 48, 48, 48, 48, 48, 48, 48, 48, 48, 48, 48, 48, 48, 48, 48, 48, 48, 48, 48, 48, 48, 48, 48, 48, 48, 48, 48, 48, 48, 48, 48, 48, 48, 48, 48, 48, 48, 48, 48, 48, 48, 48, 48, 48, 48, 48]) (st [110, 117, 109, 98, 101, 114, 32, 40, 49, 44, 32, 49, 41]) (st [110, 117, 109, 98, 101, 114, 32, 39, 50, 39]) := fun _ _ _ _ _ _ _ _ _ _ _ => by kernel_rfl
theorem c7_7_4_4 : C7 (st [110, 117, 109, 98, 101, 114, 32, 49, 48, 48, 48, 48, 48, 48, 48, 48, 48, 48, 48, 48, 48, 48, 48, 48, 48, 48, 48, 48, 48, 48, 48, 48, 48, 48, 48, 48, 48, 48, 48, 48, 48, 48, 48, 48, 48, 48, 48, 48, 48, 48, 48, 48, 48, 48, 48, 48, 48, 48, 48, 48, 48, 48, 48, 48, 48, 48, 48, 48]) (st [110, 117, 109, 98, 101, 114, 32, 40, 49, 44, 32, 49, 41]) (st [110, 117, 109, 98, 101, 114, 32, 49, 48, 48, 48, 48, 48, 48, 48, 48, 48, 48, 48, 48, 48, 48, 48, 48, 48, 48, 48, 48, 48, 48, 48, 48, 48, 48, 48, 48, 48, 48, 48, 48, 48, 48, 48, 48, 48, 48, 48, 48, 48, 48, 48, 48, 48, 48, 48, 48, 48, 48, 48, 48, 48, 48, 48, 48, 48, 48, 48, 48]) := fun _ _ _ _ _ _ _ _ _ _ _ => by kernel_rfl
theorem c7_7_4_5 : C7 (st [110, 117, 109, 98, 101, 114, 32, 49, 48, 48, 48, 48, 48, 48, 48, 48, 48, 48, 48, 48, 48, 48, 48, 48, 48, 48, 48, 48, 48, 48, 48, 48, 48, 48, 48, 48, 48, 48, 48, 48, 48, 48, 48, 48, 48, 48, 48, 48, 48, 48, 48, 48, 48, 48, 48, 48, 48, 48, 48, 48, 48, 48, 48, 48, 48, 48, 48, 48]) (st [110, 117, 109, 98, 101, 114, 32, 40, 49, 44, 32, 49, 41]) (st [110, 117, 109, 98, 101, 114, 32, 40, 50, 44, 32, 49, 41]) := fun _ _ _ _ _ _ _ _ _ _ _ => by kernel_rfl
theorem pd_7_4 : ∀ low ∈ o12, ∃ y z u : Str, PC (.int (10 ^ 60)) (.tup [.int 1, .int 1]) low y z u ∧ C7 y z u := fun low h => by
  simp only [o12, List.mem_cons, List.not_mem_nil, or_false] at h
  rcases h with rfl | rfl | rfl | rfl | rfl | rfl
  · exact ⟨_, _, _, ⟨c1_7, c2_4, c3_0, c5_7_4_0⟩, c7_7_4_0⟩
  · exact ⟨_, _, _, ⟨c1_7, c2_4, c3_1, c5_7_4_1⟩, c7_7_4_1⟩
  · exact ⟨_, _, _, ⟨c1_7, c2_4, c3_2, c5_7_4_2⟩, c7_7_4_2⟩
  · exact ⟨_, _, _, ⟨c1_7, c2_4, c3_3, c5_7_4_3⟩, c7_7_4_3⟩
  · exact ⟨_, _, _, ⟨c1_7, c2_4, c3_4, c5_7_4_4⟩, c7_7_4_4⟩
  · exact ⟨_, _, _, ⟨c1_7, c2_4, c3_5, c5_7_4_5⟩, c7_7_4_5⟩
theorem c7_7_5_0 : C7 (st [110, 117, 109, 98, 101, 114, 32, 49, 48, 48, 48, 48, 48, 48, 48, 48, 48, 48, 48, 48, 48, 48, 48, 48, 48, 48, 48, 48, 48, 48, 48, 48, 48, 48, 48, 48, 48, 48, 48, 48, 48, 48, 48, 48, 48, 48, 48, 48, 48, 48, 48, 48, 48, 48, 48, 48, 48, 48, 48, 48, 48, 48, 48, 48, 48, 48, 48, 48]) (st [110, 117, 109, 98, 101, 114, 32, 91, 49, 93]) (st [110, 117, 109, 98, 101, 114, 32, 78, 111, 110, 101]) := fun _ _ _ _ _ _ _ _ _ _ _ => by kernel_rfl
theorem c7_7_5_1 : C7 (st [110, 117, 109, 98, 101, 114, 32, 49, 48, 48, 48, 48, 48, 48, 48, 48, 48, 48, 48, 48, 48, 48, 48, 48, 48, 48, 48, 48, 48, 48, 48, 48, 48, 48, 48, 48, 48, 48, 48, 48, 48, 48, 48, 48, 48, 48, 48, 48, 48, 48, 48, 48, 48, 48, 48, 48, 48, 48, 48, 48, 48, 48, 48, 48, 48, 48, 48, 48]) (st [110, 117, 109, 98, 101, 114, 32, 91, 49, 93]) (st [110, 117, 109, 98, 101, 114, 32, 70, 97, 108, 115, 101]) := fun _ _ _ _ _ _ _ _ _ _ _ => by kernel_rfl
theorem c7_7_5_2 : C7 (st [110, 117, 109, 98, 101, 114, 32, 49, 48, 48, 48, 48, 48, 48, 48, 48, 48, 48, 48, 48, 48, 48, 48, 48, 48, 48, 48, 48, 48, 48, 48, 48, 48, 48, 48, 48, 48, 48, 48, 48, 48, 48, 48, 48, 48, 48, 48, 48, 48, 48, 48, 48, 48, 48, 48, 48, 48, 48, 48, 48, 48, 48, 48, 48, 48, 48, 48, 48]) (st [110, 117, 109, 98, 101, 114, 32, 91, 49, 93]) (st [110, 117, 109, 98, 101, 114, 32, 48]) := fun _ _ _ _ _ _ _ _ _ _ _ => by kernel_rfl
theorem c7_7_5_3 : C7 (st [110, 117, 109, 98, 101, 114, 32, 49, 48, 48, 48, 48, 48, 48, 48, 48, 48, 48, 48, 48, 48, 48, 48, 48, 48, 48, 48, 48, 48, 48, 48, 48, 48, 48, 48, 48, 48, 48, 48, 48, 48, 48, 48, 48, 48, 48, 48, 48, 48, 48, 48, 48, 48, 48, 48, 48, 48, 48, 48, 48, 48, 48, 48, 48, 48, 48, 48, 48]) (st [110, 117, 109, 98, 101, 114, 32, 91, 49, 93]) (st [110, 117, 109, 98, 101, 114, 32, 39, 50, 39]) := fun _ _ _ _ _ _ _ _ _ _ _ => by kernel_rfl
theorem c7_7_5_4 : C7 (st [110, 117, 109, 98, 101, 114, 32, 49, 48, 48, 48, 48, 48, 48, 48, 48, 48, 48, 48, 48, 48, 48, 48, 48, 48, 48, 48, 48, 48, 48, 48, 48, 48, 48, 48, 48, 48, 48, 48, 48, 48, 48, 48, 48, 48, 48, 48, 48, 48, 48, 48, 48, 48, 48, 48, 48, 48, 48, 48, 48, 48, 48, 48, 48, 48, 48, 48, 48]) (st [110, 117, 109, 98, 101, 114, 32, 91, 49, 93]) (st [110, 117, 109, 98, 101, 114, 32, 49, 48, 48, 48, 48, 48, 48, 48, 48, 48, 48, 48, 48, 48, 48, 48, 48, 48, 48, 48, 48, 48, 48, 48, 48, 48, 48, 48, 48, 48, 48, 48, 48, 48, 48, 48, 48, 48, 48, 48, 48, 48, 48, 48, 48, 48, 48, 48, 48, 48, 48, 48, 48, 48, 48, 48, 48, 48, 48, 48, 48]) := fun _ _ _ _ _ _ _ _ _ _ _ => by kernel_rfl
theorem c7_7_5_5 : C7 (st [110, 117, 109, 98, 101, 114, 32, 49, 48, 48, 48, 48, 48, 48, 48, 48, 48, 48, 48, 48, 48, 48, 48, 48, 48, 48, 48, 48, 48, 48, 48, 48, 48, 48, 48, 48, 48, 48, 48, 48, 48, 48, 48, 48, 48, 48, 48, 48, 48, 48, 48, 48, 48, 48, 48, 48, 48, 48, 48, 48, 48, 48, 48, 48, 48, 48, 48, 48]) (st [110, 117, 109, 98, 101, 114, 32, 91, 49, 93]) (st [110, 117, 109, 98, 101, 114, 32, 40, 50, 44, 32, 49, 41]) := fun _ _ _ _ _ _ _ _ _ _ _ => by kernel_rfl
theorem pd_7_5 : ∀ low ∈ o12, ∃ y z u : Str, PC (.int (10 ^ 60)) (.ref 10) low y z u ∧ C7 y z u := fun low h => by
  simp only [o12, List.mem_cons, List.not_mem_nil, or_false] at h
  rcases h with rfl | rfl | rfl | rfl | rfl | rfl
  · exact ⟨_, _, _, ⟨c1_7, c2_5, c3_0, c5_7_5_0⟩, c7_7_5_0⟩
  · exact ⟨_, _, _, ⟨c1_7, c2_5, c3_1, c5_7_5_1⟩, c7_7_5_1⟩
  · exact ⟨_, _, _, ⟨c1_7, c2_5, c3_2, c5_7_5_2⟩, c7_7_5_2⟩
  · exact ⟨_, _, _, ⟨c1_7, c2_5, c3_3, c5_7_5_3⟩, c7_7_5_3⟩
  · exact ⟨_, _, _, ⟨c1_7, c2_5, c3_4, c5_7_5_4⟩, c7_7_5_4⟩
  · exact ⟨_, _, _, ⟨c1_7, c2_5, c3_5, c5_7_5_5⟩, c7_7_5_5⟩
theorem pd_7 : ∀ bad ∈ o11, ∀ low ∈ o12, ∃ y z u : Str, PC (.int (10 ^ 60)) bad low y z u ∧ C7 y z u := fun bad h => by
  simp only [o11, List.mem_cons, List.not_mem_nil, or_false] at h
  rcases h with rfl | rfl | rfl | rfl | rfl | rfl
  · exact pd_7_0
  · exact pd_7_1
  · exact pd_7_2
  · exact pd_7_3
  · exact pd_7_4
  · exact pd_7_5
theorem pd : ∀ far ∈ o9, ∀ bad ∈ o11, ∀ low ∈ o12, ∃ y z u : Str, PC far bad low y z u ∧ C7 y z u := fun far h => by
  simp only [o9, List.mem_cons, List.not_mem_nil, or_false] at h
  rcases h with rfl | rfl | rfl | rfl | rfl | rfl | rfl | rfl
  · exact pd_0
  · exact pd_1
  · exact pd_2
  · exact pd_3
  · exact pd_4
  · exact pd_5
  · exact pd_6
  · exact pd_7
theorem rest {R : List D} {a b c : Int} {odd none far bad low prime : D} (h1 : odd ∈ o4) (h2 : none ∈ o7) (h3 : far ∈ o9) (h4 : bad ∈ o11) (h5 : low ∈ o12) (h6 : prime ∈ o13) : ∃ h', REST 35 5 (sg odd none far bad low prime 14 .no .no) (hh R a b c [] []) = .rt (.bl true) h' ∧ h'.take 1 = [.rol R] := by
  obtain ⟨x, hx⟩ := bb odd h1
  obtain ⟨y, z, u, ⟨p1, p2, p3, p5⟩, p7⟩ := pd far h3 bad h4 low h5
  refine ⟨_, (step (n := 34) (k := 1) (i := 5) (a1 none h2 R a b c odd far bad low prime)).trans ((step (n := 32) (k := 2) (i := 6) (a2 prime h6 none h2 R a b c odd far bad low)).trans ((step (n := 31) (k := 1) (i := 8) (a3 R a b c odd none far bad low prime)).trans
    ((step (n := 27) (k := 4) (i := 9) (hx R a b c none far bad low prime)).trans ((step (n := 25) (k := 2) (i := 13) (p1 prime h6 R a b c odd none bad low x)).trans ((step (n := 24) (k := 1) (i := 15) (p2 R a b c odd none far low prime x y)).trans ((step (n := 23) (k := 1) (i := 16) (p3 R a b c odd none far bad prime x y z)).trans
    ((step (n := 22) (k := 1) (i := 17) (c4 R a b c odd none far bad low prime x y z u)).trans ((step (n := 21) (k := 1) (i := 18) (p5 R a b c odd none prime x _)).trans ((step (n := 14) (k := 7) (i := 19) (c6 prime h6 R a b c odd none far bad low x y z u)).trans (p7 R a b c odd none far bad low prime x)))))))))), rfl⟩
end Law


set_option Elab.async false
set_option linter.all false
set_option maxRecDepth 100000
set_option maxHeartbeats 0
namespace Law
open PySem Mn
abbrev EV (n : Nat) : Ev := evF lw.ct lw.cst (LV true 10) ⟨fun _ => .no, none, true⟩ (suite lw.ct lw.cst true) n
theorem draw {n k : Nat} {R items : List D} {es : Es} {a b c : Int} {σ : Sl} {rs rs' : Hh} (ea : (EV n).es es σ (.rol R :: .lst [.int a, .int b, .int c] :: rs) = .ok [.ref 1, .ref (k + 2)] (.rol R :: .lst [.int a, .int b, .int c] :: rs')) (hk : rs'[k]? = some (.lst items)) (h0 : 0 < items.length) (h1 : items.length < 1000) (hc : 0 ≤ c ∧ c < 1000) : ∃ d a' c', d ∈ items ∧ c ≤ c' ∧ c' ≤ c + 1 ∧ (EV (n + 1)).e (.call 36 es) σ (.rol R :: .lst [.int a, .int b, .int c] :: rs) = .ok d (.rol R :: .lst [.int a', .int b, .int c'] :: rs') := by
  obtain ⟨d, a', c', q1, q2, q3, q4⟩ := pick (R := R) (items := items) (a := a) (b := b) (c := c) (rest := rs') (k := k) (N := 8) hk h0 h1 hc
  refine ⟨d, a', c', q1, q2, q3, ?_⟩
  rw [x_call, ea]
  exact q4
theorem dQ {n i j : Nat} {x : E} {σ : Sl} {h h1 : Hh} {d : D} (eb : dropS i b38 = .cons (.asg (.nm j) x) (dropS (i + 1) b38)) (e : (EV (19960 + (n + 1))).e x σ h = .ok d h1) : REST (n + 3) i σ h = REST (n + 2) (i + 1) (σ.set j (.d d)) h1 := by
  unfold REST
  rw [eb]
  have z : ∀ B : Ss, (EV (19960 + (n + 3))).ss (.cons (.asg (.nm j) x) B) σ h = (((EV (19960 + (n + 1))).e x σ h).bindS σ fun d h1 => (EV (19960 + (n + 1))).g (.nm j) d σ h1).bind fun σ1 h1 => (EV (19960 + (n + 2))).ss B σ1 h1 := fun B => rfl
  refine (z _).trans ?_
  rw [e]
  rfl
theorem dW {n i j l : Nat} {x y : E} {σ : Sl} {h h1 h2 : Hh} {d d' : D} (eb : dropS i b38 = .cons (.asg (.tup (.cons (.nm j) (.cons (.nm l) .nil))) (.tup (.cons x (.cons y .nil)))) (dropS (i + 1) b38)) (e : (EV (19960 + (n + 3))).e x σ h = .ok d h1) (e' : (EV (19960 + (n + 2))).e y σ h1 = .ok d' h2) : REST (n + 7) i σ h = REST (n + 6) (i + 1) ((σ.set j (.d d)).set l (.d d')) h2 := by
  unfold REST
  rw [eb]
  have z : ∀ B : Ss, (EV (19960 + (n + 7))).ss (.cons (.asg (.tup (.cons (.nm j) (.cons (.nm l) .nil))) (.tup (.cons x (.cons y .nil)))) B) σ h = (((((EV (19960 + (n + 3))).e x σ h).bindL fun x h1 => (((EV (19960 + (n + 2))).e y σ h1).bindL fun y h2 => ((EV (19960 + (n + 2))).es .nil σ h2).bindL fun ds h3 => .ok (y :: ds) h3).bindL fun ds h2 => .ok (x :: ds) h2).bind fun ds h1 => if ds.length ≤ 1000000 then .ok (.tup ds) h1 else .no).bindS σ fun d h1 => (EV (19960 + (n + 5))).g (.tup (.cons (.nm j) (.cons (.nm l) .nil))) d σ h1).bind fun σ1 h1 => (EV (19960 + (n + 6))).ss B σ1 h1 := fun B => rfl
  refine (z _).trans ?_
  rw [e]
  simp only [rl_ok]
  rw [e']
  rfl
def rh : Ss → E
  | .cons (.asg _ e) _ => e
  | _ => .non
def ar : E → Es
  | .call _ es => es
  | _ => .nil
def t0 : E → E
  | .tup (.cons x _) => x
  | _ => .non
def t1 : E → E
  | .tup (.cons _ (.cons x _)) => x
  | _ => .non
def g0 : Es := ar (rh (dropS 0 b38))
def g1 : Es := ar (rh (dropS 1 b38))
def g2 : Es := ar (rh (dropS 2 b38))
def g3 : Es := ar (t0 (rh (dropS 3 b38)))
def g4 : Es := ar (t1 (rh (dropS 3 b38)))
def g5 : Es := ar (t0 (rh (dropS 4 b38)))
theorem b_s0 : dropS 0 b38 = .cons (.asg (.nm 1) (.call 36 g0)) (dropS 1 b38) := by kernel_rfl
theorem b_s1 : dropS 1 b38 = .cons (.asg (.nm 2) (.call 36 g1)) (dropS 2 b38) := by kernel_rfl
theorem b_s2 : dropS 2 b38 = .cons (.asg (.nm 3) (.call 36 g2)) (dropS 3 b38) := by kernel_rfl
theorem b_s3 : dropS 3 b38 = .cons (.asg (.tup (.cons (.nm 4) (.cons (.nm 5) .nil))) (.tup (.cons (.call 36 g3) (.cons (.call 36 g4) .nil)))) (dropS 4 b38) := by kernel_rfl
theorem b_s4 : dropS 4 b38 = .cons (.asg (.tup (.cons (.nm 6) (.cons (.nm 7) .nil))) (.tup (.cons (.call 36 g5) (.cons (.lst .nil) .nil)))) (dropS 5 b38) := by kernel_rfl
section
variable (R : List D) (a b c : Int) (σ : Sl)
abbrev hq (R : List D) (a b c : Int) (k : Nat) : Hh := .rol R :: .lst [.int a, .int b, .int c] :: tl1.take k
theorem e_0 : (EV (19960 + 37)).es g0 (.d (.ref 1) :: σ) (hq R a b c 0) = .ok [.ref 1, .ref 4] (hq R a b c 3) := by kernel_rfl
theorem e_1 : (EV (19960 + 36)).es g1 (.d (.ref 1) :: σ) (hq R a b c 3) = .ok [.ref 1, .ref 7] (hq R a b c 6) := by kernel_rfl
theorem e_2 : (EV (19960 + 35)).es g2 (.d (.ref 1) :: σ) (hq R a b c 6) = .ok [.ref 1, .ref 9] (hq R a b c 8) := by kernel_rfl
theorem e_3 : (EV (19960 + 32)).es g3 (.d (.ref 1) :: σ) (hq R a b c 8) = .ok [.ref 1, .ref 11] (hq R a b c 10) := by kernel_rfl
theorem e_4 : (EV (19960 + 31)).es g4 (.d (.ref 1) :: σ) (hq R a b c 10) = .ok [.ref 1, .ref 12] (hq R a b c 11) := by kernel_rfl
theorem e_5 : (EV (19960 + 31)).es g5 (.d (.ref 1) :: σ) (hq R a b c 11) = .ok [.ref 1, .ref 13] (hq R a b c 12) := by kernel_rfl
theorem e_6 : (EV (19960 + 31)).e (.lst .nil) (.d (.ref 1) :: σ) (hq R a b c 12) = .ok (.ref 14) (hh R a b c [] []) := by kernel_rfl
end
end Law


set_option Elab.async false
set_option linter.all false
set_option maxRecDepth 100000
set_option maxHeartbeats 0
namespace Law
open PySem Mn
theorem rt2 (R : List D) (a b : Int) : ∃ h', REST 40 0 [.d (.ref 1), .no, .no, .no, .no, .no, .no, .no, .no, .no, .no] [.rol R, .lst [.int a, .int b, .int 0]] = .rt (.bl true) h' ∧ h'.take 1 = [.rol R] := by
  obtain ⟨v0, a0, c0, m0, l0, u0, q0⟩ := draw (k := 2) (items := o4) (e_0 R a b 0 [.no, .no, .no, .no, .no, .no, .no, .no, .no, .no]) rfl (by decide) (by decide) (by omega)
  obtain ⟨v1, a1, c1, m1, l1, u1, q1⟩ := draw (k := 5) (items := o7) (e_1 R a0 b c0 [.d v0, .no, .no, .no, .no, .no, .no, .no, .no, .no]) rfl (by decide) (by decide) (by omega)
  obtain ⟨v2, a2, c2, m2, l2, u2, q2⟩ := draw (k := 7) (items := o9) (e_2 R a1 b c1 [.d v0, .d v1, .no, .no, .no, .no, .no, .no, .no, .no]) rfl (by decide) (by decide) (by omega)
  obtain ⟨v3, a3, c3, m3, l3, u3, q3⟩ := draw (k := 9) (items := o11) (e_3 R a2 b c2 [.d v0, .d v1, .d v2, .no, .no, .no, .no, .no, .no, .no]) rfl (by decide) (by decide) (by omega)
  obtain ⟨v4, a4, c4, m4, l4, u4, q4⟩ := draw (k := 10) (items := o12) (e_4 R a3 b c3 [.d v0, .d v1, .d v2, .no, .no, .no, .no, .no, .no, .no]) rfl (by decide) (by decide) (by omega)
  obtain ⟨v5, a5, c5, m5, l5, u5, q5⟩ := draw (k := 11) (items := o13) (e_5 R a4 b c4 [.d v0, .d v1, .d v2, .d v3, .d v4, .no, .no, .no, .no, .no]) rfl (by decide) (by decide) (by omega)
  obtain ⟨h', r1, r2⟩ := rest (R := R) (a := a5) (b := b) (c := c5) m0 m1 m2 m3 m4 m5
  exact ⟨h', (dQ (n := 37) b_s0 q0).trans ((dQ (n := 36) b_s1 q1).trans ((dQ (n := 35) b_s2 q2).trans ((dW (n := 30) b_s3 q3 q4).trans ((dW (n := 29) b_s4 q5 (e_6 R a5 b c5 _)).trans r1)))), r2⟩
end Law


set_option Elab.async false
set_option linter.all false
set_option maxRecDepth 5000
set_option maxHeartbeats 40000
namespace Law
open PySem Mn
theorem y1 : lw.fns 38 = some f38 := rfl
theorem y2 : slots f38 [.ref 1] = some [.d (.ref 1), .no, .no, .no, .no, .no, .no, .no, .no, .no, .no] := rfl
theorem y3 : f38.body = b38 := rfl
theorem y4 (N : Nat) (h : Hh) : (levG lw.ct lw.cst lw.fns true (N + 1)).call 38 [.ref 1] h = fin h.length ((evF lw.ct lw.cst (levG lw.ct lw.cst lw.fns true N) ⟨fun _ => .no, none, true⟩ (suite lw.ct lw.cst true) Fuel).ss f38.body [.d (.ref 1), .no, .no, .no, .no, .no, .no, .no, .no, .no, .no] h) := lev_call y1 y2
theorem y5 (N : Nat) (h : Hh) {r : RS} (z : (evF lw.ct lw.cst (levG lw.ct lw.cst lw.fns true N) ⟨fun _ => .no, none, true⟩ (suite lw.ct lw.cst true) Fuel).ss f38.body [.d (.ref 1), .no, .no, .no, .no, .no, .no, .no, .no, .no, .no] h = r) : (levG lw.ct lw.cst lw.fns true (N + 1)).call 38 [.ref 1] h = fin h.length r := (y4 N h).trans (congrArg (fin h.length) z)
theorem y7 {F n : Nat} {B : Ss} (hF : F = 19960 + n) (hB : B = dropS 0 b38) {σ : Sl} {h : Hh} {r : RS} (z : REST n 0 σ h = r) : (evF lw.ct lw.cst (levG lw.ct lw.cst lw.fns true 10) ⟨fun _ => .no, none, true⟩ (suite lw.ct lw.cst true) F).ss B σ h = r := by
  subst hF
  subst hB
  unfold REST LV at z
  exact z
theorem y8 : f38.body = dropS 0 b38 := rfl
theorem right (R : List D) (a b : Int) : ∃ h', (levG lw.ct lw.cst lw.fns true (10 + 1)).call 38 [.ref 1] [.rol R, .lst [.int a, .int b, .int 0]] = .ok (.bl true) h' ∧ h'.take 1 = [.rol R] := by
  obtain ⟨h', z, r2⟩ := rt2 R a b
  refine ⟨_, (y5 10 _ (y7 fu y8 z)).trans f_rt, ?_⟩
  generalize he : cut _ (.bl true) h' = g
  unfold cut at he
  split at he
  · rw [← he, List.take_take]
    exact r2
  · rw [← he]
    exact r2
end Law


set_option Elab.async false
set_option linter.all false
set_option maxRecDepth 100000
set_option maxHeartbeats 0
namespace Law
open PySem Mn
theorem tail (R : List D) (k : Int) : ∃ h', (evF lw.ct lw.cst (LV true 11) ⟨fun _ => .no, none, true⟩ (suite lw.ct lw.cst true) (19960 + 39)).ss (dropS 1 b39) [.d (.ref 0), .d (.int k), .no] [.rol R] = .rt (.bl true) (.rol R :: h') := ⟨[.lst (List.replicate 5 (.tup [.str (st [102, 105, 110, 101]), .str (st [])])), .lst [.tup [.str (st [102, 105, 110, 101]), .str (st [])]], .lst (List.replicate 5 (.tup [.str (st [102, 105, 110, 101]), .str (st [])]))], by kernel_rfl⟩
end Law


set_option Elab.async false
set_option linter.all false
set_option maxRecDepth 5000
set_option maxHeartbeats 400000
namespace Law
open PySem Mn
def bI : Ss := .cons (.iff (.not (.call 38 (.cons (.call 34 (.cons (.var 0) (.cons (.var 1) (.nil)))) (.nil)))) (.cons (.ret (.bl false)) (.nil)) (.nil)) (.nil)
theorem turn {m k : Nat} {ns : List Int} {s : SV} (hk : k < 1000) : ∃ h', (evF lw.ct lw.cst (levG lw.ct lw.cst lw.fns true (10 + 1)) ⟨fun _ => .no, none, true⟩ (suite lw.ct lw.cst true) (m + 12)).ss bI [.d (.ref 0), .d (.int k), s] [.rol (ns.map D.int)] = .nx [.d (.ref 0), .d (.int k), s] h' ∧ h'.take 1 = [.rol (ns.map D.int)] := by
  obtain ⟨a, b, e⟩ := dice (ns := ns) (N := 10) hk
  obtain ⟨h', e2, r2⟩ := right (ns.map D.int) a b
  refine ⟨h', ?_, r2⟩
  unfold bI
  simp only [ss_consE, ss_nilE, st_iff, t_notE, t_callE, x_call, x_var, a_cons, a_nil, rb_ok, rs_ok, rl_ok, lb_ok, ll_ok, sb_nx, List.getElem?_cons_zero, List.getElem?_cons_succ, e, e2, ob_some, truth]
  rfl
end Law


set_option Elab.async false
set_option linter.all false
set_option maxRecDepth 5000
set_option maxHeartbeats 400000
namespace Law
open PySem Mn
theorem cutT {R : List D} {k : Nat} {s : SV} (hs : noRefS 1 s = true) {h' : Hh} (r : h'.take 1 = [.rol R]) : cutK true 1 [.d (.ref 0), .d (.int k), s] h' = [.rol R] := by
  unfold cutK cutS
  have q : ([SV.d (.ref 0), .d (.int k), s].all (noRefS 1) && (h'.take 1).all (noRefO 1)) = true := by
    rw [r]
    simp only [List.all_cons, List.all_nil, hs, Bool.and_true, Bool.true_and]
    rfl
  rw [if_pos rfl, if_pos q, r]
abbrev EQ (n : Nat) : Ev := evF lw.ct lw.cst (levG lw.ct lw.cst lw.fns true (10 + 1)) ⟨fun _ => .no, none, true⟩ (suite lw.ct lw.cst true) n
theorem lp {ns : List Int} {N : Nat} : ∀ (j m i : Nat) (p : SV), i + j = N → N < 1000 → 0 < j → ∃ k : Nat, (EQ (m + 13 + j)).loop true (.nm 1) bI (.int (N : Int)) i [.d (.ref 0), p, .no] [.rol (ns.map D.int)] = .nx [.d (.ref 0), .d (.int k), .no] [.rol (ns.map D.int)]
  | 0, m, i, p, h1, h2, h3 => absurd h3 (Nat.lt_irrefl 0)
  | j + 1, m, i, p, h1, h2, h3 => by
    obtain ⟨h', e, r⟩ := turn (m := m + 1 + j) (k := i) (ns := ns) (s := .no) (by omega)
    have c := cutT (R := ns.map D.int) (k := i) (s := .no) rfl r
    have f : m + 1 + j + 12 = m + 13 + j := by omega
    rw [f] at e
    have g : (EQ (m + 13 + j)).g (.nm 1) (.int (i : Int)) [.d (.ref 0), p, .no] [.rol (ns.map D.int)] = .nx [.d (.ref 0), .d (.int i), .no] [.rol (ns.map D.int)] := by
      have : m + 13 + j = (m + 12 + j) + 1 := by omega
      rw [this]; rfl
    have z := loop_rng (ct := lw.ct) (cst := lw.cst) (L := levG lw.ct lw.cst lw.fns true (10 + 1)) (A := ⟨fun _ => .no, none, true⟩) (hd := suite lw.ct lw.cst true) (n := m + 13 + j) (k := true) (g := .nm 1) (b := bI) (N := (N : Int)) (i := i) (σ := [.d (.ref 0), p, .no]) (h := [.rol (ns.map D.int)])
    rw [if_pos (by omega), g, sb_nx, e] at z
    have z2 : (EQ (m + 13 + (j + 1))).loop true (.nm 1) bI (.int (N : Int)) i [.d (.ref 0), p, .no] [.rol (ns.map D.int)] = (EQ (m + 13 + j)).loop true (.nm 1) bI (.int (N : Int)) (i + 1) [.d (.ref 0), .d (.int i), .no] (cutK true 1 [.d (.ref 0), .d (.int i), .no] h') := z
    rw [c] at z2
    by_cases hj : 0 < j
    · obtain ⟨k, w⟩ := lp j m (i + 1) (.d (.int i)) (by omega) h2 hj
      exact ⟨k, z2.trans w⟩
    · refine ⟨i, z2.trans ?_⟩
      have y : m + 13 + j = m + 12 + j + 1 := by omega
      rw [y]
      exact loop_rng.trans (if_neg (by omega))
end Law


set_option Elab.async false
set_option linter.all false
set_option maxRecDepth 5000
set_option maxHeartbeats 400000
namespace Law
open PySem Mn
def xN : E := .callB .max (.cons (.int 1) (.cons (.callB .min (.cons (.int 4) (.cons (.callB .len (.cons (.var 0) (.nil))) (.nil)))) (.nil)))
theorem xn {n : Nat} {ns : List Int} : ∃ N : Nat, 0 < N ∧ N ≤ 4 ∧ (EQ (n + 12)).e xN [.d (.ref 0), .no, .no] [.rol (ns.map D.int)] = .ok (.int (N : Int)) [.rol (ns.map D.int)] := by
  have el : bltG true .len [.ref 0] [.rol (ns.map D.int)] = some (.int (ns.length : Int), [.rol (ns.map D.int)]) := by
    show some (D.int (((ns.map D.int).length : Nat) : Int), _) = _
    rw [List.length_map]
  refine ⟨max 1 (min 4 ns.length), by omega, by omega, ?_⟩
  unfold xN
  simp only [x_callB, x_int, x_var, a_cons, a_nil, rb_ok, rl_ok, lb_ok, ll_ok, o_some, List.getElem?_cons_zero, el, l_max, l_min]
  congr 2
  split <;> split <;> omega
theorem fo {n : Nat} {B : Ss} {σ σ' : Sl} {h : Hh} {N : Nat} (h2 : N < 1000) (e : (EQ (n + 1)).e xN σ h = .ok (.int (N : Int)) h) (l : (EQ (n + 1)).loop true (.nm 1) bI (.int (N : Int)) 0 σ h = .nx σ' h) : (EQ (n + 3)).ss (.cons (.for true (.nm 1) (.rng xN) bI) B) σ h = (EQ (n + 2)).ss B σ' h := by
  refine (show _ = RS.bind (R.bindS ((EQ (n + 1)).e xN σ h) σ _) _ from rfl).trans ?_
  rw [e, rs_ok]
  dsimp only
  rw [if_pos (by omega)]
  exact congrArg (fun q => RS.bind q fun σ1 h1 => (EQ (n + 2)).ss B σ1 h1) l
theorem b39e : f39.body = .cons (.for true (.nm 1) (.rng xN) bI) (dropS 1 b39) := by kernel_rfl
theorem w1 : lw.fns 39 = some f39 := rfl
theorem w2 : slots f39 [.ref 0] = some [.d (.ref 0), .no, .no] := rfl
theorem w4 (N : Nat) (h : Hh) : (levG lw.ct lw.cst lw.fns true (N + 1)).call 39 [.ref 0] h = fin h.length ((evF lw.ct lw.cst (levG lw.ct lw.cst lw.fns true N) ⟨fun _ => .no, none, true⟩ (suite lw.ct lw.cst true) Fuel).ss f39.body [.d (.ref 0), .no, .no] h) := lev_call w1 w2
theorem pl {n : Nat} {ns : List Int} (F : Nat) (hF : F = n + 33) : ∃ k : Int, (EQ F).ss f39.body [.d (.ref 0), .no, .no] [.rol (ns.map D.int)] = (EQ (n + 32)).ss (dropS 1 b39) [.d (.ref 0), .d (.int k), .no] [.rol (ns.map D.int)] := by
  subst hF
  rw [b39e]
  obtain ⟨N, n1, n2, e⟩ := xn (n := n + 19) (ns := ns)
  obtain ⟨k, l⟩ := lp (ns := ns) (N := N) N (n + 18 - N) 0 .no (by omega) (by omega) n1
  have y : n + 18 - N + 13 + N = n + 31 := by omega
  rw [y] at l
  exact ⟨k, fo (n := n + 30) (by omega) e l⟩
theorem tailF {N F : Nat} (hN : N = 11) (hF : F = 19960 + 39) (R : List D) (k : Int) : ∃ h', (evF lw.ct lw.cst (LV true N) ⟨fun _ => .no, none, true⟩ (suite lw.ct lw.cst true) F).ss (dropS 1 b39) [.d (.ref 0), .d (.int k), .no] [.rol R] = .rt (.bl true) (.rol R :: h') := by
  subst hN hF
  exact tail R k
theorem tailG {N F : Nat} (hN : N = 10) (hF : F = 19960 + 39) (R : List D) (k : Int) : ∃ h', (evF lw.ct lw.cst (levG lw.ct lw.cst lw.fns true (N + 1)) ⟨fun _ => .no, none, true⟩ (suite lw.ct lw.cst true) F).ss (dropS 1 b39) [.d (.ref 0), .d (.int k), .no] [.rol R] = .rt (.bl true) (.rol R :: h') := by
  have hN' : N + 1 = 11 := by omega
  exact tailF hN' hF R k
theorem fuN : ∃ n, n = 19967 ∧ Fuel = n + 33 := ⟨19967, rfl, by decide +kernel⟩
theorem plain : ∀ ns : List Int, ns.length ≤ 63 → (∀ z ∈ ns, Builtin.Int.intBits z ≤ 1048576) → ∃ h', (levG lw.ct lw.cst lw.fns true (10 + 1 + 1)).call 39 [.ref 0] [.rol (ns.map D.int)] = .ok (.bl true) h' := by
  intro ns _ _
  obtain ⟨n, hn, hf⟩ := fuN
  obtain ⟨k, e⟩ := pl (ns := ns) Fuel hf
  have hF : n + 32 = 19960 + 39 := by omega
  obtain ⟨h', t⟩ := tailG (N := 10) rfl hF (ns.map D.int) k
  exact ⟨_, ((w4 (10 + 1) [.rol (ns.map D.int)]).trans (congrArg (fin _) (e.trans t))).trans f_rt⟩
end Law


open PySem PySem.W PySem.Calls PyProof.Rows
theorem PySem.Challenge.cw_deepcounts_k02_errors_of_numbers_holds : PySem.Challenge.rw_deepcounts_k02_errors_of_numbers.Holds := by
  w_on; o_law
  refine HandSHeadRun.head_imp (r := Law.R) (q := view Law.R.prog [0, 53]) (H := Law.lw.hook PySem.Challenge.pw_deepcounts_k02_errors_of_numbers) (ob := Law.lw.ob PySem.Challenge.pw_deepcounts_k02_errors_of_numbers) (M := 20000) (loose := Law.names) (d := HandSHeadRun.topDef Law.R.prog 53) (kwd := []) (Mn.ob_eq PySem.Challenge.pw_deepcounts_k02_errors_of_numbers Law.lw)
    Law.run (by kernel_rfl) (by kernel_rfl) (by kernel_rfl) (by rfl) (by first | assumption | decide +kernel) (by decide +kernel) ⟨rfl, rfl, rfl, rfl, rfl, by decide +kernel⟩ ?hw ?hc
  case hw => w_witness2
  case hc =>
    refine Mn.walk_ofG (l := PySem.Challenge.rw_deepcounts_k02_errors_of_numbers) (n := 63) (k := 4 * (10 + 1 + 1) + 4) rfl (by decide) (by kernel_rfl) ⟨rfl, by decide, by decide⟩ fun w mg fa h Y G hmg0 => ?_
    have hmg : mg ("law" : PySem.Str) = some (.ref fa) := by
      have e : (HandSHeadRun.topDef Law.R.prog 53).name = ("law" : PySem.Str) := by kernel_rfl
      rw [← e]
      exact hmg0
    exact Mn.law_at Law.ok (n := 63) (N := (10 + 1 + 1)) (kl := 39) (by kernel_rfl) Law.plain Y G hmg
