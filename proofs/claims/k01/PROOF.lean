import PyProof.Rows.All
import Wide.All
import OpenK.AllK
import Wide.FinOn
import HandS.ForMost
import HandS.ForExc
import HandS.Strs
import HandS.TupAny
import HandS.Small
import HandS.IsInst
import HandS.Deep
import HandS.Zip
import HandS.Conv
import HandS.DictComp
import HandS.SortInts
import HandS.TryMany
import HandS.ExcInit
import HandS.Property
import HandS.SetFor
import HandS.More
import HandS.Defaults
import HandS.CallSlots
import HandS.HeadHook4
import KE.KStateDown
import HandS.Head0
import HandS.Head1
import HandS.Head2
import HandS.HeadEnd
import HandS.EndBits
import HandS.HeadHook1
import HandS.HeadHook2
import PySem.Challenge.RW_weekswitch_k01_whole_plans
section
set_option Elab.async false
set_option linter.all false
set_option maxRecDepth 100000
set_option maxHeartbeats 4000000
/-! WsA: values, objects, the small syntax, the interpreter. -/
noncomputable section
namespace Ws
open PySem

/-! ### values and objects -/
inductive D where
  | non | bl (b : Bool) | int (i : Int) | str (x : Str) | tup (ds : List D) | ref (l : Nat) | clo (f : Nat) (cs : List D)
  /-- a list of the module's own, never written -/
  | kls (ds : List D)
  deriving Inhabited
mutual
def D.refless : D → Bool
  | .tup ds => reflessAll ds
  | .ref _ => false
  | .clo _ _ => false
  | .kls _ => false
  | .non => true
  | .bl _ => true
  | .int _ => true
  | .str _ => true
def reflessAll : List D → Bool
  | [] => true
  | d :: ds => d.refless && reflessAll ds
end
mutual
def D.lowB (n : Nat) : D → Bool
  | .tup ds => lowAll n ds
  | .ref l => decide (l < n)
  | .clo _ cs => lowAll n cs
  | .kls cs => lowAll n cs
  | .non => true
  | .bl _ => true
  | .int _ => true
  | .str _ => true
def lowAll (n : Nat) : List D → Bool
  | [] => true
  | d :: ds => d.lowB n && lowAll n ds
end
inductive O where
  | lst (xs : List D)
  | dic (kvs : List (L2.Key × D)) (lock : Bool)
  | ins (C : Nat) (fs : List (Str × D))
  | iset (xs : List Int)
  | frz (xs : List D)
  deriving Inhabited
def O.lowB (n : Nat) : O → Bool
  | .lst xs => lowAll n xs
  | .dic kvs _ => lowAll n (kvs.map (·.2))
  | .ins _ fs => lowAll n (fs.map (·.2))
  | .iset _ => true
  | .frz xs => lowAll n xs
def O.flat : O → Bool
  | .lst xs => reflessAll xs
  | _ => false
abbrev AS := List O
abbrev Env := List (Option D)
inductive Res (α : Type) where
  | ok (a : α) (st : AS)
  | exn (c : Nat) (p : D) (st : AS)
  | bad
def Res.bind {α β : Type} (r : Res α) (k : α → AS → Res β) : Res β := match r with
  | .ok a st => k a st
  | .exn c p st => .exn c p st
  | .bad => .bad
@[simp] theorem bind_ok {α β : Type} (a : α) (st : AS) (k : α → AS → Res β) : (Res.ok a st).bind k = k a st := rfl
@[simp] theorem bind_exn {α β : Type} (c : Nat) (p : D) (st : AS) (k : α → AS → Res β) : (Res.exn (α := α) c p st).bind k = .exn c p st := rfl
@[simp] theorem bind_bad {α β : Type} (k : α → AS → Res β) : (Res.bad (α := α)).bind k = .bad := rfl

/-! ### the syntax -/
inductive BOp where | add | sub | mul | fdiv | mod | pow
  deriving DecidableEq
inductive COp where | eq | ne | lt | le | gt | ge | inn | nin
  deriving DecidableEq
/-- built-in functions of values -/
inductive Bi where | len | all | any | sum | min | max | sorted | set | list | tuple | int | str
  deriving DecidableEq
/-- built-in methods -/
inductive Bm where | append | pop | insert | split | join
  deriving DecidableEq
mutual
inductive Tg where
  | name (i : Nat)
  | tup (ts : Tgs)
inductive Tgs where
  | nil
  | cons (t : Tg) (r : Tgs)
end
mutual
inductive E where
  | bad | var (i : Nat) | lit (d : D) | glo (k : Nat) (d : D)
  | tup (es : Es) | lst (es : Es) | dic0 | dic1 (k v : E)
  | bin (op : BOp) (a b : E) | neg (a : E) | nt (a : E) | and (a b : E) | or (a b : E)
  | cmp (op : COp) (a b : E) | chain (p q : COp) (a b c : E) | isN (a : E) | notN (a : E)
  | ite (t : T) (a b : E)
  | call (f : Nat) (es : Es) | make (C f : Nat) (es : Es) | meth (C f : Nat) (o : E) (es : Es) | prop (C f : Nat) (o : E)
  | bi (b : Bi) (es : Es) | isi (T : String) (e : E) | bm (m : Bm) (o : E) (es : Es)
  | fld (x : Str) (o : E) | ix (a b : E) | ixd (a b : E) | sl (a : E) (lo hi : Eo) | slr (a : E)
  | ginD (neg : Bool) (e : E) (k : Nat) (kvs : List (Str × D)) | gixD (k : Nat) (kvs : List (Str × D)) (e : E)
  | lc (own : List (Str × Nat)) (elt : E) (tg : Tg) (src : Src) (c : To)
  | lcd (own : List (Str × Nat)) (elt : E) (tg : Tg) (e : E) (c : To)
  | lc2 (own : List (Str × Nat)) (elt : E) (tg : Tg) (src : Src) (tg2 : Tg) (src2 : Src) (c : To)
  | dc2 (own : List (Str × Nat)) (k v : E) (tg : Tg) (src : Src) (tg2 : Tg) (src2 : Src)
  | fstr (es : Es)
  | lzip (a b : E) | lrng1 (a : E) | lrng3 (a b c : E)
  | clo (f : Nat) (cs : List Nat) | callc (i : Nat) (es : Es) | lenI (C f : Nat) (e : E)
inductive T where
  | bad | ginD (neg : Bool) (e : E) (k : Nat) (kvs : List (Str × D)) | nt (t : T) | and (a b : T) | or (a b : T) | cmp (op : COp) (a b : E) | chain (p q : COp) (a b c : E) | isN (a : E) | notN (a : E) | of (e : E)
inductive To where
  | no
  | of (t : T)
inductive Es where
  | nil
  | cons (e : E) (r : Es)
inductive Eo where
  | no
  | of (e : E)
inductive Src where
  | of (e : E) | rng1 (a : E) | rng2 (a b : E) | rng3 (a b c : E) | enum (a : E) | zip (a b : E)
end
inductive H1 where
  | lit (i : Nat) (d : D) | sub (i : Nat) (k : Int) (d : D) | pay (i : Nat) (f : Str) | payT (i : Nat) (d : D) (f : Str)
mutual
inductive S where
  | bad | asg (tg : Tg) (e : E) | par (i j : Nat) (a b : E) | setIx (o i e : E) | setFld (x : Str) (o e : E)
  | aug (i : Nat) (op : BOp) (e : E) | expr (e : E) | pass
  | ite (t : T) (a b : Ss) | forr (tg : Tg) (src : Src) (tmp : List Nat) (body : Ss) | whil (t : T) (tmp : List Nat) (body : Ss)
  | ret (e : E) | retN | raise (c : Nat) (f : Option Nat) (e : Eo) | tryx (body : Ss) (hs : List (Nat × List H1)) | tryAs (body : Ss) (c n : Nat) (h : List H1)
inductive Ss where
  | nil
  | cons (s : S) (r : Ss)
end
structure FDef where
  np : Nat
  ns : Nat
  body : Ss

/-! ### operations on values -/
mutual
def toP (st : AS) : D → Option PyData
  | .non => some .none
  | .bl b => some (.bool b)
  | .int i => some (.int i)
  | .str x => some (.str x)
  | .tup ds => (toPs st ds).map .tuple
  | .ref _ => none
  | .clo _ _ => none
  | .kls _ => none
def toPs (st : AS) : List D → Option (List PyData)
  | [] => some []
  | d :: ds => match toP st d, toPs st ds with
    | some p, some ps => some (p :: ps)
    | _, _ => none
end
/- lists of data too, nested so many times -/
mutual
def toL (f : D → Option PyData) : D → Option PyData
  | .tup ds => (toLs f ds).map .tuple
  | d => f d
def toLs (f : D → Option PyData) : List D → Option (List PyData)
  | [] => some []
  | d :: ds => match toL f d, toLs f ds with
    | some p, some ps => some (p :: ps)
    | _, _ => none
end
def toD (st : AS) : Nat → D → Option PyData
  | 0, _ => none
  | n + 1, d => toL (fun
    | .non => some .none
    | .bl b => some (.bool b)
    | .int i => some (.int i)
    | .str x => some (.str x)
    | .ref l => match st[l]? with
      | some (.lst xs) => (toLs (toD st n) xs).map .list
      | _ => none
    | _ => none) d
/-- x == y: none where it is not told -/
def eqD (st : AS) (x y : D) : Option Bool := match x, y with
  | .int i, .int j => some (i == j)
  | .str i, .str j => some (i == j)
  | .bl i, .bl j => some (i == j)
  | .non, .non => some true
  | .int _, .str _ => some false
  | .str _, .int _ => some false
  | .non, .int _ => some false
  | .int _, .non => some false
  | .non, .str _ => some false
  | .str _, .non => some false
  | .non, .bl _ => some false
  | .bl _, .non => some false
  | x, y => match toD st 8 x, toD st 8 y with
    | some p, some q => if SeqAt.shaped p && SeqAt.shaped q then some (PyData.eqv p q) else none
    | _, _ => none
/-- flat values -/
@[simp] def D.flatB : D → Bool
  | .non => true
  | .bl _ => true
  | .int _ => true
  | .str _ => true
  | _ => false
def eqF : D → D → Bool
  | .non, .non => true
  | .bl a, .bl b => a == b
  | .bl a, .int b => (if a then 1 else 0) == b
  | .int a, .bl b => a == (if b then 1 else 0)
  | .int a, .int b => a == b
  | .str a, .str b => a == b
  | _, _ => false
def inF (x : D) (xs : List D) : Bool := xs.any fun y => eqF y x
/-- x in y -/
def inD (st : AS) (x y : D) : Option Bool :=
  let go (xs : List D) (isL : Bool) : Option Bool :=
    if x.flatB && xs.all D.flatB then some (inF x xs)
    else match toD st 8 x, toLs (toD st 8) xs with
      | some p, some ps => if SeqAt.shaped p && SeqAt.shaped (.list ps) then some (ps.any fun z => PyData.eqv z p) else none
      | _, _ => none
  match y with
  | .tup xs => go xs false
  | .ref l => match st[l]? with
    | some (.lst xs) => go xs true
    | _ => none
  | .str z => match x with
    | .str w => some (!(Builtin.Str.occurrences z w 0 z.length 1).isEmpty)
    | _ => none
  | _ => none
def cmpI (f : Int → Int → Bool) (x y : D) : Option Bool := match x, y with
  | .int i, .int j => some (f i j)
  | _, _ => none
@[simp] def cmpD (st : AS) (op : COp) (x y : D) : Option Bool := match op with
  | .eq => eqD st x y
  | .ne => (eqD st x y).map (!·)
  | .lt => cmpI (fun i j => decide (i < j)) x y
  | .le => cmpI (fun i j => decide (i ≤ j)) x y
  | .gt => cmpI (fun i j => decide (j < i)) x y
  | .ge => cmpI (fun i j => decide (j ≤ i)) x y
  | .inn => inD st x y
  | .nin => (inD st x y).map (!·)
def ofB (st : AS) : Option Bool → Res D
  | some b => .ok (.bl b) st
  | none => .bad
def ofBT (st : AS) : Option Bool → Res Bool
  | some b => .ok b st
  | none => .bad
@[simp] def isNon : D → Bool
  | .non => true
  | _ => false
def szMax : Nat := 16777216
@[simp] def newL (st : AS) (xs : List D) : Res D := .ok (.ref st.length) (st ++ [.lst xs])
def binD (op : BOp) (x y : D) (st : AS) : Res D := match op, x, y with
  | .add, .int i, .int j => .ok (.int (i + j)) st
  | .sub, .int i, .int j => .ok (.int (i - j)) st
  | .mul, .int i, .int j => @ite _ ((-(2 ^ 64) < i ∧ i < 2 ^ 64) ∨ (-(2 ^ 64) < j ∧ j < 2 ^ 64)) (Classical.propDecidable _) (.ok (.int (i * j)) st) .bad
  | .fdiv, .int i, .int j => @ite _ (0 < j ∧ j < 1073741824) (Classical.propDecidable _) (.ok (.int (i / j)) st) .bad
  | .mod, .int i, .int j => @ite _ (0 < j) (Classical.propDecidable _) (.ok (.int (i % j)) st) .bad
  | .pow, .int i, .int j => @ite _ (0 ≤ j ∧ j ≤ 1000000 ∧ i.natAbs < 2 ^ 64) (Classical.propDecidable _) (.ok (.int (i ^ j.toNat)) st) .bad
  | .add, .str i, .str j => @ite _ (i.length + j.length ≤ szMax) (Classical.propDecidable _) (.ok (.str (i ++ j)) st) .bad
  | .add, .tup a, .tup b => @ite _ (a ≠ [] ∧ a.length + b.length ≤ szMax) (Classical.propDecidable _) (.ok (.tup (a ++ b)) st) .bad
  | .add, .ref a, .ref b => match st[a]?, st[b]? with
    | some (.lst xs), some (.lst ys) => @ite _ (xs.length + ys.length ≤ szMax) (Classical.propDecidable _) (newL st (xs ++ ys)) .bad
    | _, _ => .bad
  | _, _, _ => .bad
def augD (op : BOp) (x y : D) (st : AS) : Res D := match op, x, y with
  | .add, .int i, .int j => .ok (.int (i + j)) st
  | .sub, .int i, .int j => .ok (.int (i - j)) st
  | _, _, _ => .bad
@[simp] def negD (x : D) (st : AS) : Res D := match x with
  | .int i => .ok (.int (-i)) st
  | _ => .bad
def truD (st : AS) : D → Option Bool
  | .non => some false
  | .bl b => some b
  | .int i => some (i != 0)
  | .str y => if y.length ≤ szMax then some ((y.length : Int) != 0) else none
  | .tup ds => some (!ds.isEmpty)
  | .ref l => match st[l]? with
    | some (.lst xs) => some (!xs.isEmpty)
    | some (.dic kvs false) => some (!kvs.isEmpty)
    | _ => none
  | .clo _ _ => none
  | .kls _ => none
def sIx (n d : Nat) : Option Int → Nat
  | none => d
  | some v => if v < 0 then (v + (n : Int)).toNat else min v.toNat n
def cutD {α : Type} (xs : List α) (lo hi : Option Int) : List α := (xs.drop (sIx xs.length 0 lo)).take (sIx xs.length xs.length hi - sIx xs.length 0 lo)
def ixN (n : Nat) (i : Int) : Option Nat := if 0 ≤ i then (if i < n then some i.toNat else none) else if -(n : Int) ≤ i then some (i + n).toNat else none
def atI {α : Type} (xs : List α) (i : Int) : Option α := (ixN xs.length i).bind fun j => xs[j]?
def lookK (kvs : List (L2.Key × D)) (k : L2.Key) : Option D := (kvs.find? fun kv => decide (kv.1 = k)).map (·.2)
def putK (kvs : List (L2.Key × D)) (k : L2.Key) (v : D) : List (L2.Key × D) :=
  if (kvs.any fun kv => decide (kv.1 = k)) = true then kvs.map (fun kv => if kv.1 = k then (kv.1, v) else kv) else kvs ++ [(k, v)]
@[simp] def keyD : D → Option L2.Key
  | .int i => some (.inl i)
  | .str x => some (.inr x)
  | _ => none
def ixD (st : AS) (x y : D) : Option D := match x with
  | .tup xs => match y with
    | .int i => atI xs i
    | _ => none
  | .ref l => match st[l]? with
    | some (.lst xs) => match y with
      | .int i => atI xs i
      | _ => none
    | some (.frz xs) => match y with
      | .int i => atI xs i
      | _ => none
    | _ => none
  | .str z => match y with
    | .int i => if z.length ≤ szMax then (atI z.cps.toList i).map fun c => .str ⟨#[c]⟩ else none
    | _ => none
  | _ => none
def ixK (st : AS) (x y : D) : Option D := match x with
  | .ref l => match st[l]? with
    | some (.dic kvs false) => match keyD y with
      | some k => lookK kvs k
      | none => none
    | _ => none
  | _ => none
def ofD (st : AS) : Option D → Res D
  | some d => .ok d st
  | none => .bad
def slD (st : AS) (x : D) (lo hi : Option Int) : Res D := match x with
  | .tup xs => .ok (.tup (cutD xs lo hi)) st
  | .str z => if z.length ≤ szMax then .ok (.str ⟨(cutD z.cps.toList lo hi).toArray⟩) st else .bad
  | .ref l => match st[l]? with
    | some (.lst xs) => newL st (cutD xs lo hi)
    | _ => .bad
  | _ => .bad
/-- the table of the module's own, text keys -/
@[simp] def ginK (kvs : List (Str × D)) (x : D) : Option Bool := match x with
  | .str z => some (kvs.any fun p => decide (p.1 = z))
  | _ => none
@[simp] def gixK (kvs : List (Str × D)) (x : D) : Option D := match x with
  | .str z => kvs.lookup z
  | _ => none
def slrD (st : AS) (x : D) : Res D := match x with
  | .ref l => match st[l]? with
    | some (.lst xs) => newL st xs.reverse
    | _ => .bad
  | _ => .bad
/-- the field of an own exception -/
def exF (c : Nat) : Str := if c = 13 then "index" else "line"
/-- intsD out of values -/
@[simp] def intsD : List D → Option (List Int)
  | [] => some []
  | .int i :: r => (intsD r).map (i :: ·)
  | _ => none
@[simp] def boolsD : List D → Option (List Bool)
  | [] => some []
  | .bl i :: r => (boolsD r).map (i :: ·)
  | _ => none
@[simp] def strsD : List D → Option (List Str)
  | [] => some []
  | .str i :: r => (strsD r).map (i :: ·)
  | _ => none
def minL : Int → List Int → Int
  | a, [] => a
  | a, b :: r => minL (if b < a then b else a) r
def insS (i : Int) : List Int → List Int
  | [] => [i]
  | j :: r => if i ≤ j then i :: j :: r else j :: insS i r
def sortS : List Int → List Int
  | [] => []
  | i :: r => insS i (sortS r)
def dedS : List Int → List Int
  | [] => []
  | i :: r => if i ∈ r then dedS r else i :: dedS r
def kD : L2.Key → D
  | .inl i => .int i
  | .inr x => .str x
/-- what a value yields when walked: its items; the place that must stay as it is -/
def itemsD (st : AS) : D → Option (List D)
  | .tup xs => some xs
  | .ref l => match st[l]? with
    | some (.lst xs) => some xs
    | some (.frz xs) => some xs
    | _ => none
  | _ => none
def listD (st : AS) : D → Option (List D)
  | .kls xs => some xs
  | d => itemsD st d
def rangeD (a : Int) (n : Nat) : List D := (List.range n).map fun i => .int (a + (i : Nat))
def rangeC (a c : Int) (n : Nat) : List D := (List.range n).map fun i => .int (a + (i : Nat) * c)
def small (i : Int) : Bool := @decide (-(2 ^ 62) ≤ i ∧ i < 2 ^ 62) (Classical.propDecidable _)
def biD (st : AS) (b : Bi) (ds : List D) : Res D := match b, ds with
  | .len, [.str y] => if y.length ≤ szMax then .ok (.int y.length) st else .bad
  | .len, [.tup xs] => .ok (.int xs.length) st
  | .len, [.ref l] => match st[l]? with
    | some (.lst xs) => .ok (.int xs.length) st
    | some (.frz xs) => .ok (.int xs.length) st
    | _ => .bad
  | .all, [.ref l] => match st[l]? with
    | some (.lst xs) => match boolsD xs with
      | some bs => .ok (.bl (bs.all id)) st
      | none => .bad
    | _ => .bad
  | .any, [.ref l] => match st[l]? with
    | some (.lst xs) => match boolsD xs with
      | some bs => .ok (.bl (bs.any id)) st
      | none => .bad
    | _ => .bad
  | .sum, [.ref l] => match st[l]? with
    | some (.lst xs) => match intsD xs with
      | some bs => .ok (.int bs.sum) st
      | none => .bad
    | _ => .bad
  | .min, [.int i, .int j] => .ok (.int (if j < i then j else i)) st
  | .max, [.int i, .int j] => .ok (.int (if j > i then j else i)) st
  | .min, [.ref l] => match st[l]? with
    | some (.lst xs) => match intsD xs with
      | some (a :: r) => .ok (.int (minL a r)) st
      | _ => .bad
    | _ => .bad
  | .sorted, [.ref l] => match st[l]? with
    | some (.lst xs) => match intsD xs with
      | some bs => newL st ((sortS bs).map .int)
      | _ => .bad
    | some (.iset xs) => if xs.length < 64 then newL st ((sortS (dedS xs)).map .int) else .bad
    | _ => .bad
  | .set, [.ref l] => match st[l]? with
    | some (.lst xs) => match intsD xs with
      | some bs => if bs.length ≤ 1000 then .ok (.ref st.length) (st ++ [.iset bs]) else .bad
      | _ => .bad
    | _ => .bad
  | .list, [d] => match listD st d with
    | some xs => newL st xs
    | none => .bad
  | .tuple, [.tup xs] => .ok (.tup xs) st
  | .tuple, [.ref l] => match st[l]? with
    | some (.lst xs) => .ok (.tup xs) st
    | _ => .bad
  | .int, [.int i] => .ok (.int i) st
  | .int, [.bl b] => .ok (.int (if b then 1 else 0)) st
  | _, _ => .bad
/-- a built-in method: the receiver, the arguments -/
def bmD (st : AS) (m : Bm) (x : D) (ds : List D) : Res D := match m, x, ds with
  | .append, .ref l, [d] => match st[l]? with
    | some (.lst xs) => if xs.length < szMax then .ok .non (st.set l (.lst (xs ++ [d]))) else .bad
    | _ => .bad
  | .pop, .ref l, [] => match st[l]? with
    | some (.lst xs) => match xs[xs.length - 1]? with
      | some d => .ok d (st.set l (.lst xs.dropLast))
      | none => .bad
    | _ => .bad
  | _, _, _ => .bad
def isiD (st : AS) (T : String) (d : D) : Option Bool := match d with
  | .non => some (T == "NoneType")
  | .bl _ => some (T == "bool" || T == "int")
  | .int _ => some (T == "int")
  | .str _ => some (T == "str")
  | .tup _ => some (T == "tuple")
  | .ref l => match st[l]? with
    | some (.lst _) => some (T == "list")
    | some (.dic _ _) => some (T == "dict")
    | _ => none
  | .clo _ _ => none
  | .kls _ => none
/-- the names of fields -/
def FLDS : List Str := ["rooms", "order", "deeds"]
def putF (f : Str) (v : D) : List (Str × D) → List (Str × D)
  | [] => [(f, v)]
  | (g, x) :: r => if g = f then (g, v) :: r else (g, x) :: putF f v r

def fldD (st : AS) (x : Str) (d : D) : Option D := match d with
  | .ref l => match st[l]? with
    | some (.ins _ fs) => fs.lookup x
    | _ => none
  | _ => none
def chR {α : Type} (o : Option Bool) (x y : Res α) : Res α := match o with
  | some true => x
  | some false => y
  | none => .bad
/-! ### the interpreter -/
abbrev Call := Nat → List D → AS → Res D
mutual
def assign : Tg → D → Env → Option Env
  | .name i, d, env => some (env.set i (some d))
  | .tup ts, .tup ds, env => assigns ts ds env
  | .tup _, _, _ => none
def assigns : Tgs → List D → Env → Option Env
  | .nil, [], env => some env
  | .cons t r, d :: ds, env => match assign t d env with
    | some env' => assigns r ds env'
    | none => none
  | _, _, _ => none
end
@[simp] def wipeE (env : Env) : List Nat → Env
  | [] => env
  | v :: vs => (wipeE env vs).set v none
open Classical in
/-- the walked list stands -/
def watchOk (w : Option (Nat × List D)) (st : AS) : Prop := match w with
  | none => True
  | some p => itemsD st (.ref p.1) = some p.2
/-- no error leaves a comprehension here -/
def noX {α : Type} : Res α → Res α
  | .ok a st => .ok a st
  | _ => .bad
@[simp] theorem noX_ok {α : Type} (a : α) (st : AS) : noX (Res.ok a st) = .ok a st := rfl
open Classical in
def lcLoop (w : Option (Nat × List D)) (asg : D → Option Env) (tst : Env → AS → Res Bool) (elt : Env → AS → Res D) : List D → AS → Res (List D)
  | [], st => if watchOk w st then .ok [] st else .bad
  | x :: xs, st => if watchOk w st then (match asg x with
    | some env => (noX (tst env st)).bind fun b st1 => if b = true then (noX (elt env st1)).bind fun d st2 => (lcLoop w asg tst elt xs st2).bind fun ds st3 => .ok (d :: ds) st3 else lcLoop w asg tst elt xs st1
    | none => .bad) else .bad
/- two clauses: the inner loop gives a list -/
open Classical in
def lc2Loop (w : Option (Nat × List D)) (asg : D → Option Env) (inner : Env → AS → Res (List D)) : List D → AS → Res (List D)
  | [], st => if watchOk w st then .ok [] st else .bad
  | x :: xs, st => if watchOk w st then (match asg x with
    | some env => (inner env st).bind fun ds st1 => (lc2Loop w asg inner xs st1).bind fun es st2 => .ok (ds ++ es) st2
    | none => .bad) else .bad
def truR (r : Res D) : Res Bool := r.bind fun d st => match truD st d with
  | some b => .ok b st
  | none => .bad
def boolR (r : Res D) : Res Bool := r.bind fun d st => match d with
  | .bl b => .ok b st
  | _ => .bad
def sized (xs : List D) (w : Option (Nat × List D)) (st : AS) : Res (List D × Option (Nat × List D)) := @ite _ (xs.length ≤ szMax) (Classical.propDecidable _) (.ok (xs, w) st) .bad
section
variable (cl : Call)
mutual
@[simp] def evE : E → Env → AS → Res D
  | .var i, env, st => match env[i]? with
    | some (some d) => .ok d st
    | _ => .bad
  | .lit d, _, st => .ok d st
  | .bad, _, _ => .bad
  | .glo _ d, _, st => .ok d st
  | .tup es, env, st => (evEs es env st).bind fun ds st => .ok (.tup ds) st
  | .lst es, env, st => (evEs es env st).bind fun ds st => newL st ds
  | .dic0, _, st => .ok (.ref st.length) (st ++ [.dic [] false])
  | .dic1 k v, env, st => (evE k env st).bind fun x st => (evE v env st).bind fun y st => match keyD x with
    | some k => .ok (.ref st.length) (st ++ [.dic [(k, y)] false])
    | none => .bad
  | .bin op a b, env, st => (evE a env st).bind fun x st => (evE b env st).bind fun y st => binD op x y st
  | .neg a, env, st => (evE a env st).bind fun x st => negD x st
  | .nt a, env, st => (boolR (evE a env st)).bind fun b st => .ok (.bl (!b)) st
  | .and a b, env, st => (boolR (evE a env st)).bind fun c st => if c = true then evE b env st else .ok (.bl false) st
  | .or a b, env, st => (boolR (evE a env st)).bind fun c st => if c = true then .ok (.bl true) st else evE b env st
  | .cmp op a b, env, st => (evE a env st).bind fun x st => (evE b env st).bind fun y st => ofB st (cmpD st op x y)
  | .chain p q a b c, env, st => (evE a env st).bind fun x st => (evE b env st).bind fun y st => chR (cmpD st p x y) ((evE c env st).bind fun z st => ofB st (cmpD st q y z)) (.ok (.bl false) st)
  | .isN a, env, st => (evE a env st).bind fun x st => .ok (.bl (isNon x)) st
  | .notN a, env, st => (evE a env st).bind fun x st => .ok (.bl (!isNon x)) st
  | .ite t a b, env, st => (evT t env st).bind fun c st => if c = true then evE a env st else evE b env st
  | .call f es, env, st => (evEs es env st).bind fun ds st => cl f ds st
  | .make C f es, env, st => (evEs es env st).bind fun ds st => (cl f (.ref st.length :: ds) (st ++ [.ins C []])).bind fun d st' => match d with
    | .non => .ok (.ref st.length) st'
    | _ => .bad
  | .meth C f o es, env, st => (evE o env st).bind fun x st => match x with
    | .ref l => match st[l]? with
      | some (.ins C' _) => if C' = C then (evEs es env st).bind fun ds st => cl f (.ref l :: ds) st else .bad
      | _ => .bad
    | _ => .bad
  | .prop C f o, env, st => (evE o env st).bind fun x st => match x with
    | .ref l => match st[l]? with
      | some (.ins C' _) => if C' = C then noX (cl f [.ref l] st) else .bad
      | _ => .bad
    | _ => .bad
  | .bi b es, env, st => (evEs es env st).bind fun ds st => biD st b ds
  | .isi T e, env, st => (evE e env st).bind fun d st => ofB st (isiD st T d)
  | .bm m o es, env, st => (evE o env st).bind fun x st => (evEs es env st).bind fun ds st => bmD st m x ds
  | .fld x o, env, st => (evE o env st).bind fun d st => ofD st (fldD st x d)
  | .ix a b, env, st => (evE a env st).bind fun x st => (evE b env st).bind fun y st => ofD st (ixD st x y)
  | .ixd a b, env, st => (evE a env st).bind fun x st => (evE b env st).bind fun y st => ofD st (ixK st x y)
  | .sl a lo hi, env, st => (evE a env st).bind fun x st => (evEo lo env st).bind fun l st => (evEo hi env st).bind fun h st => slD st x l h
  | .slr a, env, st => (evE a env st).bind fun x st => slrD st x
  | .ginD neg e _ kvs, env, st => (evE e env st).bind fun x st => ofB st ((ginK kvs x).map fun b => if neg = true then !b else b)
  | .gixD _ kvs e, env, st => (evE e env st).bind fun x st => ofD st (gixK kvs x)
  | .lc own elt tg src c, env, st => (evSrc src env st).bind fun xs st =>
      (lcLoop xs.2 (fun d => assign tg d (wipeE env (own.map (·.2)))) (fun env st => evC c env st) (fun env st => evE elt env st) xs.1 st).bind fun ds st => newL st ds
  | .lcd own elt tg e c, env, st => (evE e env st).bind fun d st => match d with
    | .ref l => match st[l]? with
      | some (.dic kvs false) => (lcLoop none (fun d => assign tg d (wipeE env (own.map (·.2)))) (fun env st => evC c env st) (fun env st => evE elt env st) (kvs.map fun p => kD p.1) (st.set l (.dic kvs true))).bind fun ds st2 => match st2[l]? with
        | some (.dic kvs' true) => newL (st2.set l (.dic kvs' false)) ds
        | _ => .bad
      | _ => .bad
    | _ => .bad
  | .lc2 own elt tg src tg2 src2 c, env, st => (evSrc src env st).bind fun xs st =>
      (lc2Loop xs.2 (fun d => assign tg d (wipeE env (own.map (·.2)))) (fun env st => (noX (evSrc src2 env st)).bind fun ys st => lcLoop ys.2 (fun d => assign tg2 d env) (fun env st => evC c env st) (fun env st => evE elt env st) ys.1 st) xs.1 st).bind fun ds st => newL st ds
  | .dc2 own k v tg src tg2 src2, env, st => .bad
  | .fstr _, _, _ => .bad
  | .lzip a b, env, st => (evE a env st).bind fun x st => (evE b env st).bind fun y st => match x, y with
    | .ref i, .ref j => match st[i]?, st[j]? with
      | some (.lst xs), some (.lst ys) => newL st (List.zipWith (fun x y => .tup [x, y]) xs ys)
      | _, _ => .bad
    | _, _ => .bad
  | .lrng1 a, env, st => (evE a env st).bind fun x st => match x with
    | .int n => if small n = true then (sized (rangeD 0 n.toNat) none st).bind fun xs st => newL st xs.1 else .bad
    | _ => .bad
  | .lrng3 a b c, env, st => .bad
  | .clo _ _, _, _ => .bad
  | .callc _ _, _, _ => .bad
  | .lenI C f o, env, st => (evE o env st).bind fun x st => match x with
    | .ref l => match st[l]? with
      | some (.ins C' _) => if C' = C then (noX (cl f [.ref l] st)).bind fun d st => match d with
        | .int n => if 0 ≤ n ∧ n < 1000000000 then .ok (.int n) st else .bad
        | _ => .bad else .bad
      | _ => .bad
    | _ => .bad
/-- as a test -/
@[simp] def evT : T → Env → AS → Res Bool
  | .bad, _, _ => .bad
  | .ginD neg e _ kvs, env, st => (evE e env st).bind fun x st => ofBT st ((ginK kvs x).map fun b => if neg = true then !b else b)
  | .nt a, env, st => (evT a env st).bind fun b st => .ok (!b) st
  | .and a b, env, st => (evT a env st).bind fun c st => if c = true then evT b env st else .ok false st
  | .or a b, env, st => (evT a env st).bind fun c st => if c = true then .ok true st else evT b env st
  | .cmp op a b, env, st => (evE a env st).bind fun x st => (evE b env st).bind fun y st => ofBT st (cmpD st op x y)
  | .chain p q a b c, env, st => (evE a env st).bind fun x st => (evE b env st).bind fun y st => chR (cmpD st p x y) ((evE c env st).bind fun z st => ofBT st (cmpD st q y z)) (.ok false st)
  | .isN a, env, st => (evE a env st).bind fun x st => .ok (isNon x) st
  | .notN a, env, st => (evE a env st).bind fun x st => .ok (!isNon x) st
  | .of e, env, st => truR (evE e env st)
@[simp] def evC : To → Env → AS → Res Bool
  | .no, _, st => .ok true st
  | .of e, env, st => evT e env st
@[simp] def evEo : Eo → Env → AS → Res (Option Int)
  | .no, _, st => .ok none st
  | .of e, env, st => (evE e env st).bind fun d st => match d with
    | .int i => .ok (some i) st
    | _ => .bad
@[simp] def evEs : Es → Env → AS → Res (List D)
  | .nil, _, st => .ok [] st
  | .cons e r, env, st => (evE e env st).bind fun d st => (evEs r env st).bind fun ds st => .ok (d :: ds) st
@[simp] def evSrc : Src → Env → AS → Res (List D × Option (Nat × List D))
  | .of e, env, st => (evE e env st).bind fun d st => match itemsD st d with
    | some xs => .ok (xs, match d with
      | .ref l => some (l, xs)
      | _ => none) st
    | none => .bad
  | .rng1 a, env, st => (evE a env st).bind fun x st => match x with
    | .int n => if small n = true then sized (rangeD 0 n.toNat) none st else .bad
    | _ => .bad
  | .rng2 a b, env, st => (evE a env st).bind fun x st => (evE b env st).bind fun y st => match x, y with
    | .int i, .int j => if small i = true ∧ small j = true then sized (rangeD i (j - i).toNat) none st else .bad
    | _, _ => .bad
  | .rng3 a b c, env, st => (evE a env st).bind fun x st => (evE b env st).bind fun y st => (evE c env st).bind fun z st => match x, y, z with
    | .int i, .int j, .int k => if small i = true ∧ small j = true ∧ k = -1 then sized (rangeC i (-1) (i - j).toNat) none st else .bad
    | _, _, _ => .bad
  | .enum a, env, st => (evE a env st).bind fun d st => match d with
    | .ref l => match st[l]? with
      | some (.lst xs) => .ok (xs.zipIdx.map fun p => .tup [.int p.2, p.1], some (l, xs)) st
      | _ => .bad
    | _ => .bad
  | .zip a b, env, st => (evE a env st).bind fun x st => (evE b env st).bind fun y st => match x, y with
    | .tup xs, .tup ys => .ok (List.zipWith (fun x y => .tup [x, y]) xs ys, none) st
    | _, _ => .bad
end
end
inductive RS where
  | next (env : Env) (st : AS) | ret (d : D) (st : AS) | brk (env : Env) (st : AS) | cont (env : Env) (st : AS)
  | exn (c : Nat) (p : D) (env : Env) (st : AS) | bad
def Res.stm {α : Type} (r : Res α) (env : Env) (k : α → AS → RS) : RS := match r with
  | .ok a st => k a st
  | .exn c p st => .exn c p env st
  | .bad => .bad
@[simp] theorem stm_ok {α : Type} (a : α) (st : AS) (env : Env) (k : α → AS → RS) : (Res.ok a st).stm env k = k a st := rfl
@[simp] theorem stm_exn {α : Type} (c : Nat) (p : D) (st : AS) (env : Env) (k : α → AS → RS) : (Res.exn (α := α) c p st).stm env k = .exn c p env st := rfl
@[simp] theorem stm_bad {α : Type} (env : Env) (k : α → AS → RS) : (Res.bad (α := α)).stm env k = .bad := rfl
def RS.seq (r : RS) (k : Env → AS → RS) : RS := match r with
  | .next env st => k env st
  | r => r
@[simp] theorem seq_next (env : Env) (st : AS) (k : Env → AS → RS) : (RS.next env st).seq k = k env st := rfl
@[simp] theorem seq_ret (d : D) (st : AS) (k : Env → AS → RS) : (RS.ret d st).seq k = .ret d st := rfl
@[simp] theorem seq_brk (env : Env) (st : AS) (k : Env → AS → RS) : (RS.brk env st).seq k = .brk env st := rfl
@[simp] theorem seq_cont (env : Env) (st : AS) (k : Env → AS → RS) : (RS.cont env st).seq k = .cont env st := rfl
@[simp] theorem seq_exn (c : Nat) (p : D) (env : Env) (st : AS) (k : Env → AS → RS) : (RS.exn c p env st).seq k = .exn c p env st := rfl
@[simp] theorem seq_bad (k : Env → AS → RS) : (RS.bad).seq k = .bad := rfl
open Classical in
def forL (w : Option (Nat × List D)) (asg : D → Env → Option Env) (tmp : List Nat) (body : Env → AS → RS) : List D → Env → AS → RS
  | [], env, st => if watchOk w st then .next (wipeE env tmp) st else .bad
  | x :: xs, env, st => if watchOk w st then (match asg x (wipeE env tmp) with
    | some env1 => match body env1 st with
      | .next e s => forL w asg tmp body xs e s
      | .cont e s => forL w asg tmp body xs e s
      | .brk e s => .next (wipeE e tmp) s
      | r => r
    | none => .bad) else .bad
def whileL (t : Env → AS → Res Bool) (tmp : List Nat) (body : Env → AS → RS) : Nat → Env → AS → RS
  | 0, _, _ => .bad
  | n + 1, env, st => (t (wipeE env tmp) st).stm (wipeE env tmp) fun b st1 => if b = true then (match body (wipeE env tmp) st1 with
      | .next e s => whileL t tmp body n e s
      | .cont e s => whileL t tmp body n e s
      | .brk e s => .next (wipeE e tmp) s
      | r => r) else .next (wipeE env tmp) st1
/-- x[y] = v -/
def setD (v x y : D) (env : Env) (st : AS) : RS := match x with
  | .ref l => match st[l]? with
    | some (.lst xs) => match y with
      | .int k => match ixN xs.length k with
        | some j => .next env (st.set l (.lst (xs.set j v)))
        | none => .bad
      | _ => .bad
    | some (.dic kvs false) => match keyD y with
      | some k => if kvs.length < szMax then .next env (st.set l (.dic (putK kvs k v) false)) else .bad
      | none => .bad
    | _ => .bad
  | _ => .bad
/-- the turns that a while may take -/
def WF : Nat := 1000000
/-- class 0 is the base of all -/
def subX (c h : Nat) : Bool := h == 0 || c == h
@[simp] def runH (c : Nat) : List H1 → D → Env → AS → RS
  | [], _, env, st => .next env st
  | .lit i d :: r, p, env, st => runH c r p (env.set i (some d)) st
  | .sub i k d :: r, p, env, st => match env[i]? with
    | some (some (.ref l)) => match st[l]? with
      | some (.lst xs) => match ixN xs.length k with
        | some j => runH c r p env (st.set l (.lst (xs.set j d)))
        | none => .bad
      | _ => .bad
    | _ => .bad
  | .pay i f :: r, p, env, st => if isNon p = false ∧ exF c = f then runH c r p (env.set i (some p)) st else .bad
  | .payT i d f :: r, p, env, st => if isNon p = false ∧ exF c = f then runH c r p (env.set i (some (.tup [d, p]))) st else .bad
@[simp] def pickH (c : Nat) : List (Nat × List H1) → Option (List H1)
  | [] => none
  | (h, s) :: r => if subX c h = true then some s else pickH c r
section
variable (cl : Call)
mutual
@[simp] def exS : S → Env → AS → RS
  | .bad, _, _ => .bad
  | .asg tg e, env, st => (evE cl e env st).stm env fun d st => match assign tg d env with
    | some env' => .next env' st
    | none => .bad
  | .par i j a b, env, st => (evE cl a env st).stm env fun x st => (evE cl b env st).stm env fun y st => .next ((env.set i (some x)).set j (some y)) st
  | .setIx o i e, env, st => (evE cl e env st).stm env fun v st => (evE cl o env st).stm env fun x st => (evE cl i env st).stm env fun y st => setD v x y env st
  | .setFld x o e, env, st => (evE cl e env st).stm env fun v st => (evE cl o env st).stm env fun d st => match d with
    | .ref l => match st[l]? with
      | some (.ins C fs) => if fs.length < 100 then .next env (st.set l (.ins C (putF x v fs))) else .bad
      | _ => .bad
    | _ => .bad
  | .aug i op e, env, st => match env[i]? with
    | some (some x) => (evE cl e env st).stm env fun y st => (augD op x y st).stm env fun z st => .next (env.set i (some z)) st
    | _ => .bad
  | .expr e, env, st => (evE cl e env st).stm env fun _ st => .next env st
  | .pass, env, st => .next env st
  | .ite t a b, env, st => (evT cl t env st).stm env fun c st => if c = true then exSs a env st else exSs b env st
  | .forr tg src tmp body, env, st => (evSrc cl src env st).stm env fun xs st => forL xs.2 (assign tg) tmp (fun env st => exSs body env st) xs.1 env st
  | .whil t tmp body, env, st => whileL (fun env st => evT cl t env st) tmp (fun env st => exSs body env st) WF env st
  | .ret e, env, st => (evE cl e env st).stm env fun d st => .ret d st
  | .retN, env, st => .ret .non st
  | .raise c f e, env, st => match f, e with
    | none, .no => .exn c .non env st
    | some _, .of e => (evE cl e env st).stm env fun d st => .exn c d env st
    | _, _ => .bad
  | .tryx body hs, env, st => match exSs body env st with
    | .exn c p e s => match pickH c hs with
      | some h => runH c h p e s
      | none => .exn c p e s
    | r => r
  | .tryAs body c0 n h, env, st => match exSs body env st with
    | .exn c p e s => if subX c c0 = true then (match runH c h p (e.set n none) s with
      | .next e s => .next (e.set n none) s
      | _ => .bad) else .exn c p e s
    | r => r
@[simp] def exSs : Ss → Env → AS → RS
  | .nil, env, st => .next env st
  | .cons s r, env, st => (exS s env st).seq fun env st => exSs r env st
end
end
@[simp] def startE (ns : Nat) (ds : List D) : Env := ds.map some ++ List.replicate (ns - ds.length) none
def RS.res : RS → Res D
  | .next _ st => .ok .non st
  | .ret d st => .ok d st
  | .exn c p _ st => .exn c p st
  | _ => .bad
/-- the old objects are as they were, or hold no new place -/
def GcOk (st st' : AS) : Prop := ∀ i, i < st.length → st'[i]? = st[i]? ∨ ∃ o, st'[i]? = some o ∧ o.lowB st.length = true
open Classical in
/-- what was made and is not handed out is forgotten -/
def gcR (st : AS) : Res D → Res D
  | .ok d st' => if GcOk st st' then
      (if d.refless = true then .ok d (st'.take st.length) else match d with
        | .ref r => if st.length ≤ r then (match st'[r]? with
            | some o => if o.flat = true then .ok (.ref st.length) (st'.take st.length ++ [o]) else .ok d st'
            | none => .ok d st') else .ok d st'
        | _ => .ok d st')
    else .ok d st'
  | .exn c p st' => if GcOk st st' then (if p.refless = true then .exn c p (st'.take st.length) else .exn c p st') else .exn c p st'
  | .bad => .bad
def callF (P : Nat → Option FDef) : Nat → Call
  | 0, _, _, _ => .bad
  | n + 1, f, ds, st => match P f with
    | some fd => if ds.length = fd.np then gcR st (exSs (callF P n) fd.body (startE fd.ns ds) st).res else .bad
    | none => .bad
end Ws
end
end

section
set_option Elab.async false
set_option linter.all false
set_option maxRecDepth 100000
set_option maxHeartbeats 4000000
/-! WsB: how values and objects stand in the layer's heap. -/
noncomputable section
namespace Ws
open PySem PySem.Spec PyProof.Rows L2

structure Gam where
  K : PySem.W.Frag
  w : World
  mg : Str → Option Value
  cA : Nat → Addr
  xA : Nat → Addr
  fA : Nat → Addr
  fD : Nat → FuncData
  fP : Nat → List Str
theorem szLine : szMax = sizeLine := by rw [sizeLine_eq]; rfl

section
variable (G : Gam) (μ : Nat → Addr) (n : Nat) (H : Hp)
def KLst (a : Addr) (xs : List V) : Prop :=
  ∃ (o : Obj) (its : Array Value) (n : Nat), G.K.lookup a = some o ∧ o.cls = .type "list" ∧ o.dict = none ∧ o.data = .seq its n ∧ its.size ≤ sizeLine ∧ Vals xs its.toList
def TupAt (a : Addr) (xs : List V) : Prop :=
  H a = some (.tup xs) ∨ ∃ (o : Obj) (its : Array Value) (n : Nat), G.K.lookup a = some o ∧ o.cls = .type "tuple" ∧ o.data = .seq its n ∧ its.size ≤ sizeLine ∧ Vals xs its.toList
mutual
def Rep : D → V → Prop
  | .non, v => v = .non
  | .bl b, v => v = .bl b
  | .int i, v => v = .int i
  | .str x, v => v = .str x
  | .tup ds, v => ds.length ≤ szMax ∧ ∃ a vs, v = .ref a ∧ TupAt G H a vs ∧ Reps ds vs
  | .ref l, v => l < n ∧ v = .ref (μ l)
  | .clo _ _, _ => False
  | .kls ds, v => ds.length ≤ szMax ∧ ∃ a vs, v = .ref a ∧ KLst G a vs ∧ Reps ds vs
def Reps : List D → List V → Prop
  | [], vs => vs = []
  | d :: ds, vs => ∃ v r, vs = v :: r ∧ Rep d v ∧ Reps ds r
end
def KReps : List (Key × D) → List (Key × V) → Prop
  | [], vs => vs = []
  | p :: ds, vs => ∃ v r, vs = (p.1, v) :: r ∧ Rep G μ n H p.2 v ∧ KReps ds r
def FReps : List (Str × D) → List (Str × V) → Prop
  | [], vs => vs = []
  | p :: ds, vs => ∃ v r, vs = (p.1, v) :: r ∧ Rep G μ n H p.2 v ∧ FReps ds r
def RepO : O → Addr → Prop
  | .lst ds, a => ds.length ≤ szMax ∧ ∃ vs, H a = some (.lst vs) ∧ Reps G μ n H ds vs
  | .dic kvs false, a => kvs.length ≤ szMax ∧ ∃ kws, H a = some (.dK kws) ∧ KReps G μ n H kvs kws
  | .dic kvs true, a => kvs.length ≤ szMax ∧ ∃ ob kws, H a = some (.frz ob (.dK kws)) ∧ KReps G μ n H kvs kws
  | .ins C fs, a => (∀ p ∈ fs, p.1 ∈ FLDS) ∧ fs.length ≤ 100 ∧ ∃ dx fs', H a = some (.ins (G.cA C) dx fs') ∧ FReps G μ n H fs fs'
  | .iset xs, a => ∃ c, c ≤ xs.length ∧ H a = some (SetO G.w a (fun k => decide (k ∈ xs)) c)
  | .frz ds, a => ds.length ≤ szMax ∧ ∃ ob vs, H a = some (.frz ob (.lst vs)) ∧ Reps G μ n H ds vs
end
theorem TupAt.sq {G : Gam} {H : Hp} {a : Addr} {xs : List V} (h : TupAt G H a xs) : SqT G.K H a xs := by
  rcases h with h | h
  · exact .inl (.inl h)
  · exact .inr h

section
variable {G : Gam} {μ : Nat → Addr} {n : Nat} {H : Hp}
theorem Reps.length : ∀ {ds : List D} {vs : List V}, Reps G μ n H ds vs → ds.length = vs.length
  | [], _, h => by
    have e : _ = [] := h
    subst e; rfl
  | d :: ds, _, ⟨v, r, e, _, t⟩ => by rw [e, List.length_cons, List.length_cons, Reps.length t]
theorem Reps.get : ∀ {ds : List D} {vs : List V} {i : Nat} {d : D}, Reps G μ n H ds vs → ds[i]? = some d → ∃ v, vs[i]? = some v ∧ Rep G μ n H d v
  | [], _, i, d, h, e => by simp at e
  | x :: ds, _, 0, d, ⟨v, r, rfl, q, t⟩, e => by simp at e; subst e; exact ⟨v, rfl, q⟩
  | x :: ds, _, i + 1, d, ⟨v, r, rfl, q, t⟩, e => by
    obtain ⟨u, h1, h2⟩ := Reps.get (i := i) (d := d) t (by simpa using e)
    exact ⟨u, by simpa using h1, h2⟩
theorem Reps.get' {ds : List D} {vs : List V} {i : Nat} {v : V} (h : Reps G μ n H ds vs) (e : vs[i]? = some v) : ∃ d, ds[i]? = some d ∧ Rep G μ n H d v := by
  have hl := h.length
  obtain ⟨hi, _⟩ := List.getElem?_eq_some_iff.mp e
  have hi' : i < ds.length := by omega
  obtain ⟨u, h1, h2⟩ := h.get (List.getElem?_eq_getElem hi')
  rw [e] at h1; cases h1
  exact ⟨_, List.getElem?_eq_getElem hi', h2⟩
theorem Reps.append : ∀ {ds es : List D} {vs us : List V}, Reps G μ n H ds vs → Reps G μ n H es us → Reps G μ n H (ds ++ es) (vs ++ us)
  | [], _, _, _, h, q => by rw [show _ = [] from h]; exact q
  | d :: ds, _, _, _, ⟨v, r, rfl, h, t⟩, q => ⟨v, _, rfl, h, Reps.append t q⟩
theorem Reps.take : ∀ {ds : List D} {vs : List V} (k : Nat), Reps G μ n H ds vs → Reps G μ n H (ds.take k) (vs.take k)
  | [], _, _, h => by rw [show _ = [] from h]; simp [Reps]
  | d :: ds, _, 0, ⟨v, r, rfl, h, t⟩ => by simp [Reps]
  | d :: ds, _, k + 1, ⟨v, r, rfl, h, t⟩ => ⟨v, _, rfl, h, Reps.take k t⟩
theorem Reps.drop : ∀ {ds : List D} {vs : List V} (k : Nat), Reps G μ n H ds vs → Reps G μ n H (ds.drop k) (vs.drop k)
  | [], _, _, h => by rw [show _ = [] from h]; simp [Reps]
  | d :: ds, _, 0, h => h
  | d :: ds, _, k + 1, ⟨v, r, rfl, h, t⟩ => Reps.drop k t
theorem Reps.set : ∀ {ds : List D} {vs : List V} {d : D} {v : V} (k : Nat), Reps G μ n H ds vs → Rep G μ n H d v → Reps G μ n H (ds.set k d) (vs.set k v)
  | [], _, _, _, _, h, _ => by rw [show _ = [] from h]; simp [Reps]
  | x :: ds, _, d, v, 0, ⟨u, r, rfl, h, t⟩, q => ⟨v, r, rfl, q, t⟩
  | x :: ds, _, d, v, k + 1, ⟨u, r, rfl, h, t⟩, q => ⟨u, _, rfl, h, Reps.set k t q⟩
theorem Reps.dropLast {ds : List D} {vs : List V} (h : Reps G μ n H ds vs) : Reps G μ n H ds.dropLast vs.dropLast := by
  rw [List.dropLast_eq_take, List.dropLast_eq_take, h.length]
  exact h.take _
theorem Reps.one {d : D} {v : V} (h : Rep G μ n H d v) : Reps G μ n H [d] [v] := ⟨v, [], rfl, h, rfl⟩
theorem Reps.nil : Reps G μ n H [] [] := rfl
theorem Reps.cons {d : D} {v : V} {ds : List D} {vs : List V} (h : Rep G μ n H d v) (t : Reps G μ n H ds vs) : Reps G μ n H (d :: ds) (v :: vs) := ⟨v, vs, rfl, h, t⟩
theorem Reps.ints : ∀ {ns : List Int} {vs : List V}, Reps G μ n H (ns.map D.int) vs → vs = ns.map V.int
  | [], _, h => h
  | k :: ns, _, ⟨v, r, rfl, h, t⟩ => by rw [show v = .int k from h, Reps.ints t]; rfl
theorem Reps.ofInts : ∀ (ns : List Int), Reps G μ n H (ns.map D.int) (ns.map V.int)
  | [] => rfl
  | k :: ns => ⟨.int k, _, rfl, rfl, Reps.ofInts ns⟩
theorem intsD_eq : ∀ {ds : List D} {ns : List Int}, intsD ds = some ns → ds = ns.map D.int
  | [], _, h => by simp [intsD] at h; subst h; rfl
  | .int i :: r, ns, h => by
    simp only [intsD, Option.map_eq_some_iff] at h
    obtain ⟨ms, h1, rfl⟩ := h
    rw [intsD_eq h1]; rfl
  | .non :: _, _, h => by simp [intsD] at h
  | .bl _ :: _, _, h => by simp [intsD] at h
  | .str _ :: _, _, h => by simp [intsD] at h
  | .tup _ :: _, _, h => by simp [intsD] at h
  | .ref _ :: _, _, h => by simp [intsD] at h
  | .clo _ _ :: _, _, h => by simp [intsD] at h
  | .kls _ :: _, _, h => by simp [intsD] at h
theorem boolsD_eq : ∀ {ds : List D} {ns : List Bool}, boolsD ds = some ns → ds = ns.map D.bl
  | [], _, h => by simp [boolsD] at h; subst h; rfl
  | .bl i :: r, ns, h => by
    simp only [boolsD, Option.map_eq_some_iff] at h
    obtain ⟨ms, h1, rfl⟩ := h
    rw [boolsD_eq h1]; rfl
  | .non :: _, _, h => by simp [boolsD] at h
  | .int _ :: _, _, h => by simp [boolsD] at h
  | .str _ :: _, _, h => by simp [boolsD] at h
  | .tup _ :: _, _, h => by simp [boolsD] at h
  | .ref _ :: _, _, h => by simp [boolsD] at h
  | .clo _ _ :: _, _, h => by simp [boolsD] at h
  | .kls _ :: _, _, h => by simp [boolsD] at h
theorem Reps.bools : ∀ {ns : List Bool} {vs : List V}, Reps G μ n H (ns.map D.bl) vs → vs = ns.map V.bl
  | [], _, h => h
  | k :: ns, _, ⟨v, r, rfl, h, t⟩ => by rw [show v = .bl k from h, Reps.bools t]; rfl
end

/-! ### what goes on -/
/-- values are as they were -/
structure Nx0 (μ : Nat → Addr) (n : Nat) (H : Hp) (μ' : Nat → Addr) (n' : Nat) (H' : Hp) : Prop where
  le : n ≤ n'
  ext : ∀ i, i < n → μ' i = μ i
  tup : ∀ a xs, H a = some (.tup xs) → H' a = some (.tup xs)
/-- .. and what is tracked and not ours is not touched -/
structure Nx (μ : Nat → Addr) (n : Nat) (H : Hp) (μ' : Nat → Addr) (n' : Nat) (H' : Hp) : Prop extends Nx0 μ n H μ' n' H' where
  frm : ∀ a o, H a = some o → (∀ i, i < n → μ i ≠ a) → H' a = some o
  new : ∀ i, n ≤ i → i < n' → H (μ' i) = none
  keep : ∀ a, H a ≠ none → H' a ≠ none
theorem Nx.refl {μ : Nat → Addr} {n : Nat} {H : Hp} : Nx μ n H μ n H := ⟨⟨Nat.le_refl _, fun _ _ => rfl, fun _ _ h => h⟩, fun _ _ h _ => h, fun i h1 h2 => absurd (Nat.lt_of_lt_of_le h2 h1) (Nat.lt_irrefl _), fun _ h => h⟩
theorem Nx0.trans {μ μ1 μ2 : Nat → Addr} {n n1 n2 : Nat} {H H1 H2 : Hp} (a : Nx0 μ n H μ1 n1 H1) (b : Nx0 μ1 n1 H1 μ2 n2 H2) : Nx0 μ n H μ2 n2 H2 :=
  ⟨Nat.le_trans a.le b.le, fun i hi => (b.ext i (Nat.lt_of_lt_of_le hi a.le)).trans (a.ext i hi), fun c xs h => b.tup c xs (a.tup c xs h)⟩
theorem Nx.trans {μ μ1 μ2 : Nat → Addr} {n n1 n2 : Nat} {H H1 H2 : Hp} (a : Nx μ n H μ1 n1 H1) (b : Nx μ1 n1 H1 μ2 n2 H2) : Nx μ n H μ2 n2 H2 := by
  refine ⟨a.toNx0.trans b.toNx0, fun c o h hi => b.frm c o (a.frm c o h hi) fun i h1 e => ?_, fun i h1 h2 => ?_, fun c h => b.keep c (a.keep c h)⟩
  · by_cases hn : i < n
    · rw [a.ext i hn] at e
      exact hi i hn e
    · have z := a.new i (Nat.le_of_not_lt hn) h1
      rw [e, h] at z; cases z
  · by_cases hn : i < n1
    · rw [b.ext i hn]
      exact a.new i h1 hn
    · have z := b.new i (Nat.le_of_not_lt hn) h2
      cases e : H (μ2 i) with
      | none => rfl
      | some o => exact absurd z (a.keep _ (by rw [e]; exact fun y => by cases y))
section
variable {G : Gam} {μ μ' : Nat → Addr} {n n' : Nat} {H H' : Hp}
theorem TupAt.mono (x : Nx0 μ n H μ' n' H') {a : Addr} {xs : List V} (h : TupAt G H a xs) : TupAt G H' a xs := by
  rcases h with h | h
  · exact .inl (x.tup a xs h)
  · exact .inr h
mutual
theorem Rep.mono (x : Nx0 μ n H μ' n' H') : ∀ (d : D) (v : V), Rep G μ n H d v → Rep G μ' n' H' d v
  | .non, _, h => h
  | .bl _, _, h => h
  | .int _, _, h => h
  | .str _, _, h => h
  | .tup ds, _, ⟨z, a, vs, e, t, r⟩ => ⟨z, a, vs, e, t.mono x, Reps.mono x ds vs r⟩
  | .ref l, _, ⟨h, e⟩ => ⟨Nat.lt_of_lt_of_le h x.le, by rw [x.ext l h]; exact e⟩
  | .clo _ _, _, h => h
  | .kls ds, _, ⟨z, a, vs, e, t, r⟩ => ⟨z, a, vs, e, t, Reps.mono x ds vs r⟩
theorem Reps.mono (x : Nx0 μ n H μ' n' H') : ∀ (ds : List D) (vs : List V), Reps G μ n H ds vs → Reps G μ' n' H' ds vs
  | [], _, h => h
  | d :: ds, _, ⟨v, r, e, h, t⟩ => ⟨v, r, e, Rep.mono x d v h, Reps.mono x ds r t⟩
end
theorem KReps.mono (x : Nx0 μ n H μ' n' H') : ∀ {ds : List (Key × D)} {vs : List (Key × V)}, KReps G μ n H ds vs → KReps G μ' n' H' ds vs
  | [], _, h => h
  | d :: ds, _, ⟨v, r, e, h, t⟩ => ⟨v, r, e, Rep.mono x _ v h, KReps.mono x t⟩
theorem FReps.mono (x : Nx0 μ n H μ' n' H') : ∀ {ds : List (Str × D)} {vs : List (Str × V)}, FReps G μ n H ds vs → FReps G μ' n' H' ds vs
  | [], _, h => h
  | d :: ds, _, ⟨v, r, e, h, t⟩ => ⟨v, r, e, Rep.mono x _ v h, FReps.mono x t⟩
theorem RepO.mono (x : Nx0 μ n H μ' n' H') {o : O} {a : Addr} (e : H' a = H a) (h : RepO G μ n H o a) : RepO G μ' n' H' o a := by
  cases o with
  | lst ds => obtain ⟨z, vs, q, r⟩ := h; exact ⟨z, vs, by rw [e]; exact q, Reps.mono x _ _ r⟩
  | dic kvs lock =>
    cases lock with
    | false => obtain ⟨z, vs, q, r⟩ := h; exact ⟨z, vs, by rw [e]; exact q, r.mono x⟩
    | true => obtain ⟨z, ob, vs, q, r⟩ := h; exact ⟨z, ob, vs, by rw [e]; exact q, r.mono x⟩
  | ins C fs => obtain ⟨k1, k2, dx, vs, q, r⟩ := h; exact ⟨k1, k2, dx, vs, by rw [e]; exact q, r.mono x⟩
  | iset xs => obtain ⟨c, z, q⟩ := h; exact ⟨c, z, by rw [e]; exact q⟩
  | frz ds => obtain ⟨z, ob, vs, q, r⟩ := h; exact ⟨z, ob, vs, by rw [e]; exact q, Reps.mono x _ _ r⟩
/-- something that is no tuple stands there -/
theorem RepO.there {o : O} {a : Addr} (h : RepO G μ n H o a) : ∃ u, H a = some u ∧ ∀ xs, u ≠ .tup xs := by
  cases o with
  | lst ds => obtain ⟨z, vs, q, r⟩ := h; exact ⟨_, q, fun _ e => by cases e⟩
  | dic kvs lock =>
    cases lock with
    | false => obtain ⟨z, vs, q, r⟩ := h; exact ⟨_, q, fun _ e => by cases e⟩
    | true => obtain ⟨z, ob, vs, q, r⟩ := h; exact ⟨_, q, fun _ e => by cases e⟩
  | ins C fs => obtain ⟨k1, k2, dx, vs, q, r⟩ := h; exact ⟨_, q, fun _ e => by cases e⟩
  | iset xs => obtain ⟨c, z, q⟩ := h; exact ⟨_, q, fun _ e => by unfold SetO at e; cases e⟩
  | frz ds => obtain ⟨z, ob, vs, q, r⟩ := h; exact ⟨_, q, fun _ e => by cases e⟩
end

/-- the state stands in the heap -/
structure Rl (G : Gam) (μ : Nat → Addr) (st : AS) (H : Hp) : Prop where
  inj : ∀ i j, i < st.length → j < st.length → μ i = μ j → i = j
  obj : ∀ i o, st[i]? = some o → RepO G μ st.length H o (μ i)
section
variable {G : Gam} {μ : Nat → Addr} {st : AS} {H H' : Hp}
theorem Rl.there (R : Rl G μ st H) {i : Nat} (hi : i < st.length) : ∃ u, H (μ i) = some u ∧ ∀ xs, u ≠ .tup xs := (R.obj i _ (List.getElem?_eq_getElem hi)).there
theorem Rl.fresh (R : Rl G μ st H) {p : Addr} (h : H p = none) {i : Nat} (hi : i < st.length) : μ i ≠ p := fun e => by
  obtain ⟨u, q, _⟩ := R.there hi
  rw [e, h] at q; cases q
/-- other things are laid -/
theorem Rl.frame (R : Rl G μ st H) (t : ∀ a xs, H a = some (.tup xs) → H' a = some (.tup xs)) (k : ∀ i, i < st.length → H' (μ i) = H (μ i)) : Rl G μ st H' :=
  ⟨R.inj, fun i o e => (R.obj i o e).mono ⟨Nat.le_refl _, fun _ _ => rfl, t⟩ (k i (List.getElem?_eq_some_iff.mp e).1)⟩
theorem keep_upd {H : Hp} {p : Addr} {o : HO} (a : Addr) (h : H a ≠ none) : upd H p o a ≠ none := by
  by_cases e : a = p
  · rw [e, upd_same]; exact fun y => by cases y
  · rw [upd_ne e]; exact h
theorem nx_upd {n : Nat} {p : Addr} {o : HO} (h : H p = none) : Nx μ n H μ n (upd H p o) :=
  ⟨⟨Nat.le_refl _, fun _ _ => rfl, fun a xs e => by rw [upd_ne (ne_of_none e h)]; exact e⟩, fun a u e _ => by rw [upd_ne (ne_of_none e h)]; exact e, fun i h1 h2 => absurd (Nat.lt_of_lt_of_le h2 h1) (Nat.lt_irrefl _), keep_upd⟩
theorem Rl.side (R : Rl G μ st H) {p : Addr} {o : HO} (h : H p = none) : Rl G μ st (upd H p o) :=
  R.frame (nx_upd (μ := μ) (n := st.length) h).tup fun i hi => upd_ne (R.fresh h hi)
def extM (μ : Nat → Addr) (n : Nat) (p : Addr) : Nat → Addr := fun i => if i = n then p else μ i
theorem extM_at {μ : Nat → Addr} {n : Nat} {p : Addr} : extM μ n p n = p := if_pos rfl
theorem extM_lt {μ : Nat → Addr} {n : Nat} {p : Addr} {i : Nat} (h : i < n) : extM μ n p i = μ i := if_neg (Nat.ne_of_lt h)
theorem nx_new {p : Addr} {o : HO} {ob : O} (h : H p = none) : Nx μ st.length H (extM μ st.length p) (st ++ [ob]).length (upd H p o) :=
  ⟨⟨by simp, fun i hi => extM_lt hi, (nx_upd (μ := μ) (n := st.length) h).tup⟩, (nx_upd (μ := μ) (n := st.length) h).frm, fun i h1 h2 => by
    rw [List.length_append, List.length_singleton] at h2
    have e : i = st.length := by omega
    rw [e, extM_at]; exact h, keep_upd⟩
/-- a new object of ours -/
theorem Rl.new (R : Rl G μ st H) {p : Addr} {ho : HO} {o : O} (h : H p = none) (q : RepO G (extM μ st.length p) (st ++ [o]).length (upd H p ho) o p) : Rl G (extM μ st.length p) (st ++ [o]) (upd H p ho) := by
  have nx := nx_new (μ := μ) (st := st) (o := ho) (ob := o) h
  refine ⟨fun i j hi hj e => ?_, fun i u e => ?_⟩
  · rw [List.length_append, List.length_singleton] at hi hj
    by_cases h1 : i = st.length <;> by_cases h2 : j = st.length
    · rw [h1, h2]
    · have hj' : j < st.length := by omega
      rw [h1, extM_at, extM_lt hj'] at e
      exact absurd e.symm (R.fresh h hj')
    · have hi' : i < st.length := by omega
      rw [h2, extM_at, extM_lt hi'] at e
      exact absurd e (R.fresh h hi')
    · rw [extM_lt (by omega), extM_lt (by omega)] at e
      exact R.inj i j (by omega) (by omega) e
  · by_cases h1 : i < st.length
    · rw [List.getElem?_append_left h1] at e
      rw [extM_lt h1]
      exact (R.obj i u e).mono nx.toNx0 (upd_ne (R.fresh h h1))
    · obtain ⟨hl, _⟩ := List.getElem?_eq_some_iff.mp e
      rw [List.length_append, List.length_singleton] at hl
      have e1 : i = st.length := by omega
      subst e1
      rw [List.getElem?_append_right (Nat.le_refl _)] at e
      simp at e
      subst e
      rw [extM_at]
      exact q
/-- a tracked thing that is not ours becomes ours -/
theorem Rl.adopt (R : Rl G μ st H) {p : Addr} {o : O} (h : ∀ i, i < st.length → μ i ≠ p) (q : RepO G (extM μ st.length p) (st ++ [o]).length H o p) : Rl G (extM μ st.length p) (st ++ [o]) H := by
  have nx : Nx0 μ st.length H (extM μ st.length p) (st ++ [o]).length H := ⟨by simp, fun i hi => extM_lt hi, fun _ _ e => e⟩
  refine ⟨fun i j hi hj e => ?_, fun i u e => ?_⟩
  · rw [List.length_append, List.length_singleton] at hi hj
    by_cases h1 : i = st.length <;> by_cases h2 : j = st.length
    · rw [h1, h2]
    · have hj' : j < st.length := by omega
      rw [h1, extM_at, extM_lt hj'] at e
      exact absurd e.symm (h j hj')
    · have hi' : i < st.length := by omega
      rw [h2, extM_at, extM_lt hi'] at e
      exact absurd e (h i hi')
    · rw [extM_lt (by omega), extM_lt (by omega)] at e
      exact R.inj i j (by omega) (by omega) e
  · by_cases h1 : i < st.length
    · rw [List.getElem?_append_left h1] at e
      rw [extM_lt h1]
      exact (R.obj i u e).mono nx rfl
    · obtain ⟨hl, _⟩ := List.getElem?_eq_some_iff.mp e
      rw [List.length_append, List.length_singleton] at hl
      have e1 : i = st.length := by omega
      subst e1
      rw [List.getElem?_append_right (Nat.le_refl _)] at e
      simp at e
      subst e
      rw [extM_at]
      exact q
/-- an object of ours is written -/
theorem nx_write (R : Rl G μ st H) {l : Nat} {ho : HO} (hl : l < st.length) {k : Nat} (hk : st.length = k) : Nx μ st.length H μ k (upd H (μ l) ho) :=
  ⟨⟨Nat.le_of_eq hk, fun _ _ => rfl, fun a xs e => by
    obtain ⟨u, q, z⟩ := R.there hl
    rw [upd_ne (fun y => by rw [y, q] at e; exact z xs (Option.some.inj e))]
    exact e⟩, fun a u e hi => by rw [upd_ne (fun y => hi l hl y.symm)]; exact e, fun i h1 h2 => absurd (Nat.lt_of_lt_of_le h2 (by omega)) (Nat.lt_irrefl _), keep_upd⟩
theorem Rl.write (R : Rl G μ st H) {l : Nat} {ho : HO} {o : O} (hl : l < st.length) (q : RepO G μ st.length (upd H (μ l) ho) o (μ l)) : Rl G μ (st.set l o) (upd H (μ l) ho) := by
  have nx := nx_write R (ho := ho) hl (k := (st.set l o).length) (by simp)
  refine ⟨fun i j hi hj => R.inj i j (by simpa using hi) (by simpa using hj), fun i u e => ?_⟩
  by_cases h1 : i = l
  · subst h1
    rw [List.getElem?_set_self hl] at e
    cases e
    rw [List.length_set]
    exact q
  · rw [List.getElem?_set_ne (Ne.symm h1)] at e
    have hi := (List.getElem?_eq_some_iff.mp e).1
    exact (R.obj i u e).mono nx.toNx0 (upd_ne fun y => h1 (R.inj i l hi hl y))
end

/-! ### the names -/
structure ER (G : Gam) (μ : Nat → Addr) (n : Nat) (H : Hp) (env : Env) (σ : L2.St) : Prop where
  len : env.length = σ.length
  val : ∀ (i : Nat) (d : D), env[i]? = some (some d) → ∃ v, σ[i]? = some (some v) ∧ Rep G μ n H d v
section
variable {G : Gam} {μ μ' : Nat → Addr} {n n' : Nat} {H H' : Hp} {env : Env} {σ : L2.St}
theorem ER.mono (x : Nx0 μ n H μ' n' H') (e : ER G μ n H env σ) : ER G μ' n' H' env σ :=
  ⟨e.len, fun i d h => let ⟨v, h1, h2⟩ := e.val i d h; ⟨v, h1, Rep.mono x d v h2⟩⟩
theorem ER.set (e : ER G μ n H env σ) {i : Nat} {d : D} {v : V} (r : Rep G μ n H d v) : ER G μ n H (env.set i (some d)) (σ.set i (some v)) := by
  refine ⟨by simp [e.len], fun j x h => ?_⟩
  by_cases hj : i = j
  · subst hj
    by_cases hi : i < env.length
    · rw [List.getElem?_set_self hi] at h
      cases h
      exact ⟨v, by rw [List.getElem?_set_self (by rw [← e.len]; exact hi)], r⟩
    · rw [List.getElem?_eq_none (by simpa using hi)] at h; cases h
  · rw [List.getElem?_set_ne hj] at h
    obtain ⟨u, h1, h2⟩ := e.val j x h
    exact ⟨u, by rw [List.getElem?_set_ne hj]; exact h1, h2⟩
/-- a name is forgotten, on either side -/
theorem ER.unset (e : ER G μ n H env σ) {i : Nat} : ER G μ n H (env.set i none) (σ.set i none) := by
  refine ⟨by simp [e.len], fun j x h => ?_⟩
  by_cases hj : i = j
  · subst hj
    by_cases hi : i < env.length
    · rw [List.getElem?_set_self hi] at h; cases h
    · rw [List.getElem?_eq_none (by simpa using hi)] at h; cases h
  · rw [List.getElem?_set_ne hj] at h
    obtain ⟨u, h1, h2⟩ := e.val j x h
    exact ⟨u, by rw [List.getElem?_set_ne hj]; exact h1, h2⟩
theorem ER.unset1 (e : ER G μ n H env σ) {i : Nat} : ER G μ n H (env.set i none) σ := by
  refine ⟨by simp [e.len], fun j x h => ?_⟩
  by_cases hj : i = j
  · subst hj
    by_cases hi : i < env.length
    · rw [List.getElem?_set_self hi] at h; cases h
    · rw [List.getElem?_eq_none (by simpa using hi)] at h; cases h
  · rw [List.getElem?_set_ne hj] at h
    exact e.val j x h
theorem ER.unset2 (e : ER G μ n H env σ) {i : Nat} {o : Option V} : ER G μ n H (env.set i none) (σ.set i o) := by
  refine ⟨by simp [e.len], fun j x h => ?_⟩
  by_cases hj : i = j
  · subst hj
    by_cases hi : i < env.length
    · rw [List.getElem?_set_self hi] at h; cases h
    · rw [List.getElem?_eq_none (by simpa using hi)] at h; cases h
  · rw [List.getElem?_set_ne hj] at h
    obtain ⟨u, h1, h2⟩ := e.val j x h
    exact ⟨u, by rw [List.getElem?_set_ne hj]; exact h1, h2⟩
theorem ER.wipe1 (e : ER G μ n H env σ) : ∀ vs : List Nat, ER G μ n H (wipeE env vs) σ
  | [] => e
  | v :: vs => (ER.wipe1 e vs).unset1
theorem ER.wipe (e : ER G μ n H env σ) : ∀ vs : List Nat, ER G μ n H (wipeE env vs) (wipe σ vs)
  | [] => e
  | v :: vs => (ER.wipe e vs).unset
theorem wipeE_length (env : Env) : ∀ vs : List Nat, (wipeE env vs).length = env.length
  | [] => rfl
  | v :: vs => by unfold wipeE; rw [List.length_set, wipeE_length env vs]
end
end Ws
end
end

section
set_option Elab.async false
set_option linter.all false
set_option maxRecDepth 100000
set_option maxHeartbeats 4000000
/-! WsC: the rules for values, tests, arguments, operators. -/
noncomputable section
namespace Ws
open PySem PySem.Spec PyProof.Rows L2
abbrev MV := Env → AS → Res D
section
variable (G : Gam) (W : WX) (σ : L2.St)
/-- what an exception carries: nothing, or a field of its own dict -/
def Pay (μ : Nat → Addr) (n : Nat) (H : Hp) (c : Nat) (p : D) (dx : Option Addr) : Prop := match p with
  | .non => True
  | p => ∃ d v, dx = some d ∧ H d = some (.xd [(exF c, v)]) ∧ Rep G μ n H p v
def PostR {α : Type} (μ : Nat → Addr) (n : Nat) (H : Hp) (P : α → AS → (Nat → Addr) → Hp → Prop) : Res α → Prop
  | .ok a st' => ∀ μ' H', Nx μ n H μ' st'.length H' → Rl G μ' st' H' → P a st' μ' H'
  | .exn c p st' => ∀ μ' dx H', Nx μ n H μ' st'.length H' → Rl G μ' st' H' → Pay G μ' st'.length H' c p dx → W (.ref (G.xA c)) dx σ H'
  | .bad => False
def PV (Q : VK) : D → AS → (Nat → Addr) → Hp → Prop := fun d st' μ' H' => ∀ v, Rep G μ' st'.length H' d v → Q v H'
def PA' (Q : List V → Hp → Prop) : List D → AS → (Nat → Addr) → Hp → Prop := fun ds st' μ' H' => ∀ vs, Reps G μ' st'.length H' ds vs → Q vs H'
def PB (Q : Bool → Hp → Prop) : Bool → AS → (Nat → Addr) → Hp → Prop := fun b _ _ H' => Q b H'
end
section
variable {G : Gam} {W : WX} {σ : L2.St} {α β : Type} {μ μ1 : Nat → Addr} {n n1 : Nat} {H H1 : Hp} {P P' : α → AS → (Nat → Addr) → Hp → Prop}
theorem PostR.trans {r : Res α} (x : Nx μ n H μ1 n1 H1) (h : PostR G W σ μ n H P r) : PostR G W σ μ1 n1 H1 P r := by
  cases r with
  | ok a st => exact fun μ' H' y rl => h μ' H' (x.trans y) rl
  | exn c p st => exact fun μ' dx H' y rl q => h μ' dx H' (x.trans y) rl q
  | bad => exact h
theorem PostR.mono {r : Res α} (h : PostR G W σ μ n H P r) (k : ∀ a st' μ' H', Nx μ n H μ' st'.length H' → Rl G μ' st' H' → P a st' μ' H' → P' a st' μ' H') : PostR G W σ μ n H P' r := by
  cases r with
  | ok a st => exact fun μ' H' y rl => k _ _ _ _ y rl (h μ' H' y rl)
  | exn c p st => exact h
  | bad => exact h
theorem PostR.bind {P : β → AS → (Nat → Addr) → Hp → Prop} {r : Res α} {k : α → AS → Res β} (h : PostR G W σ μ n H P (r.bind k)) :
    PostR G W σ μ n H (fun a st1 μ1 H1 => PostR G W σ μ1 st1.length H1 P (k a st1)) r := by
  cases r with
  | ok a st => exact fun μ' H' y rl => PostR.trans y h
  | exn c p st => exact h
  | bad => exact h
/-- at the place itself -/
theorem PostR.here {st : AS} {a : α} (h : PostR G W σ μ st.length H P (.ok a st)) (R : Rl G μ st H) : P a st μ H := h μ H Nx.refl R
end
section
variable (G : Gam) (W : WX)
def tV (m : MV) : TE := fun σ H Q => ∃ μ env st, Rl G μ st H ∧ ER G μ st.length H env σ ∧ PostR G W σ μ st.length H (PV G Q) (m env st)
def tT (m : Env → AS → Res Bool) : TT := fun σ H Q => ∃ μ env st, Rl G μ st H ∧ ER G μ st.length H env σ ∧ PostR G W σ μ st.length H (PB Q) (m env st)
def tAs (m : Env → AS → Res (List D)) : TA := fun σ H Q => ∃ μ env st, Rl G μ st H ∧ ER G μ st.length H env σ ∧ PostR G W σ μ st.length H (PA' G Q) (m env st)
end

/-! ### weaker readings -/
theorem _root_.L2.PE.imp {X : Cx} {e : Expr} {t t' : TE} (h : PE X e t) (i : ∀ σ H Q, t' σ H Q → t σ H Q) : PE X e t' := ⟨fun pins s σ H Q I q => h.run pins s σ H Q I (i σ H Q q)⟩
theorem _root_.L2.PT.imp {X : Cx} {e : Expr} {t t' : TT} (h : PT X e t) (i : ∀ σ H Q, t' σ H Q → t σ H Q) : PT X e t' := ⟨fun pins s σ H Q I q => h.run pins s σ H Q I (i σ H Q q)⟩
theorem _root_.L2.PW.imp {X : Cx} {e : Expr} {t t' : TT} (h : PW X e t) (i : ∀ σ H Q, t' σ H Q → t σ H Q) : PW X e t' := ⟨fun wh pins s σ H Q I q => h.run wh pins s σ H Q I (i σ H Q q)⟩
theorem _root_.L2.PA.imp {X : Cx} {e : List Expr} {t t' : TA} (h : PA X e t) (i : ∀ σ H Q, t' σ H Q → t σ H Q) : PA X e t' := ⟨fun pos pins s σ H Q I q => h.run pos pins s σ H Q I (i σ H Q q)⟩
theorem _root_.L2.PS.imp {X : Cx} {e : Stmt} {t t' : TS} (h : PS X e t) (i : ∀ D σ H, t' D σ H → t D σ H) : PS X e t' := ⟨fun pins s σ H D I q => h.run pins s σ H D I (i D σ H q)⟩
theorem _root_.L2.PSs.imp {X : Cx} {e : List Stmt} {t t' : TS} (h : PSs X e t) (i : ∀ D σ H, t' D σ H → t D σ H) : PSs X e t' := ⟨fun pins s σ H D I q => h.run pins s σ H D I (i D σ H q)⟩
theorem _root_.L2.PG.imp {X : Cx} {e : Expr} {t t' : TG} (h : PG X e t) (i : ∀ v σ H Q, t' v σ H Q → t v σ H Q) : PG X e t' := ⟨fun pins s σ H v u Q I r q => h.run pins s σ H v u Q I r (i v σ H Q q)⟩
theorem _root_.L2.PI.imp {X : Cx} {tg e : Expr} {t t' : TI} (h : PI X tg e t) (i : ∀ σ H Q, t' σ H Q → t σ H Q) : PI X tg e t' := ⟨fun pins s σ H Q I q => h.run pins s σ H Q I (i σ H Q q)⟩
theorem _root_.L2.PI.or {X : Cx} {tg e : Expr} {t t' : TI} (h : PI X tg e t) (h' : PI X tg e t') : PI X tg e (fun σ H Q => t σ H Q ∨ t' σ H Q) := ⟨fun pins s σ H Q I q => q.elim (h.run pins s σ H Q I) (h'.run pins s σ H Q I)⟩
theorem _root_.L2.PO.imp {X : Cx} {e : Option Expr} {t t' : TO} (h : PO X e t) (i : ∀ σ H Q, t' σ H Q → t σ H Q) : PO X e t' := ⟨fun pins s σ H Q I q => h.run pins s σ H Q I (i σ H Q q)⟩
theorem _root_.L2.PSet.or {X : Cx} {t t' : TSet} (h : PSet X t) (h' : PSet X t') : PSet X (fun o i v H Q => t o i v H Q ∨ t' o i v H Q) :=
  fun pins s σ H o i v ov iv u Q I r1 r2 r3 q => q.elim (h pins s σ H o i v ov iv u Q I r1 r2 r3) (h' pins s σ H o i v ov iv u Q I r1 r2 r3)

section
variable {G : Gam} {W : WX} {σ : L2.St} {H : Hp}
theorem tV_mono {m : MV} {Q Q' : VK} (h : tV G W m σ H Q) (k : ∀ v H, Q v H → Q' v H) : tV G W m σ H Q' := by
  obtain ⟨μ, env, st, R, e, p⟩ := h
  exact ⟨μ, env, st, R, e, p.mono fun a st' μ' H' _ _ q v r => k _ _ (q v r)⟩
theorem tAs_mono {m : Env → AS → Res (List D)} {Q Q' : List V → Hp → Prop} (h : tAs G W m σ H Q) (k : ∀ v H, Q v H → Q' v H) : tAs G W m σ H Q' := by
  obtain ⟨μ, env, st, R, e, p⟩ := h
  exact ⟨μ, env, st, R, e, p.mono fun a st' μ' H' _ _ q v r => k _ _ (q v r)⟩
theorem tT_mono {m : Env → AS → Res Bool} {Q Q' : Bool → Hp → Prop} (h : tT G W m σ H Q) (k : ∀ v H, Q v H → Q' v H) : tT G W m σ H Q' := by
  obtain ⟨μ, env, st, R, e, p⟩ := h
  exact ⟨μ, env, st, R, e, p.mono fun a st' μ' H' _ _ q => k _ _ q⟩
/-- first this value, then the rest -/
theorem tV_bind {α : Type} {P : α → AS → (Nat → Addr) → Hp → Prop} {m : MV} {k : Env → D → AS → Res α} {env : Env} {st : AS} {μ : Nat → Addr} (R : Rl G μ st H) (e : ER G μ st.length H env σ)
    (h : PostR G W σ μ st.length H P ((m env st).bind (k env))) :
    tV G W m σ H fun v H1 => ∃ μ1 st1 x, Rl G μ1 st1 H1 ∧ ER G μ1 st1.length H1 env σ ∧ Nx μ st.length H μ1 st1.length H1 ∧ Rep G μ1 st1.length H1 x v ∧ PostR G W σ μ1 st1.length H1 P (k env x st1) :=
  ⟨μ, env, st, R, e, h.bind.mono fun a st' μ' H' x rl q v r => ⟨μ', st', a, rl, e.mono x.toNx0, x, r, q⟩⟩
theorem tAs_bind {α : Type} {P : α → AS → (Nat → Addr) → Hp → Prop} {m : Env → AS → Res (List D)} {k : Env → List D → AS → Res α} {env : Env} {st : AS} {μ : Nat → Addr} (R : Rl G μ st H) (e : ER G μ st.length H env σ)
    (h : PostR G W σ μ st.length H P ((m env st).bind (k env))) :
    tAs G W m σ H fun v H1 => ∃ μ1 st1 x, Rl G μ1 st1 H1 ∧ ER G μ1 st1.length H1 env σ ∧ Nx μ st.length H μ1 st1.length H1 ∧ Reps G μ1 st1.length H1 x v ∧ PostR G W σ μ1 st1.length H1 P (k env x st1) :=
  ⟨μ, env, st, R, e, h.bind.mono fun a st' μ' H' x rl q v r => ⟨μ', st', a, rl, e.mono x.toNx0, x, r, q⟩⟩
theorem tT_bind {α : Type} {P : α → AS → (Nat → Addr) → Hp → Prop} {m : Env → AS → Res Bool} {k : Env → Bool → AS → Res α} {env : Env} {st : AS} {μ : Nat → Addr} (R : Rl G μ st H) (e : ER G μ st.length H env σ)
    (h : PostR G W σ μ st.length H P ((m env st).bind (k env))) :
    tT G W m σ H fun b H1 => ∃ μ1 st1, Rl G μ1 st1 H1 ∧ ER G μ1 st1.length H1 env σ ∧ Nx μ st.length H μ1 st1.length H1 ∧ PostR G W σ μ1 st1.length H1 P (k env b st1) :=
  ⟨μ, env, st, R, e, h.bind.mono fun a st' μ' H' x rl q => ⟨μ', st', rl, e.mono x.toNx0, x, q⟩⟩
/-- two values, one after the other -/
theorem tV_two {α : Type} {P : α → AS → (Nat → Addr) → Hp → Prop} {ma mb : MV} {g : Env → D → D → AS → Res α} {env : Env} {st : AS} {μ : Nat → Addr} (R : Rl G μ st H) (e : ER G μ st.length H env σ)
    (h : PostR G W σ μ st.length H P ((ma env st).bind fun x st => (mb env st).bind fun y st => g env x y st)) :
    tV G W ma σ H fun v H1 => tV G W mb σ H1 fun u H2 => ∃ μ2 st2 x y, Rl G μ2 st2 H2 ∧ ER G μ2 st2.length H2 env σ ∧ Nx μ st.length H μ2 st2.length H2 ∧ Rep G μ2 st2.length H2 x v ∧ Rep G μ2 st2.length H2 y u ∧ PostR G W σ μ2 st2.length H2 P (g env x y st2) :=
  tV_mono (tV_bind (k := fun env x st => (mb env st).bind fun y st => g env x y st) R e h) fun v H1 ⟨μ1, st1, x, R1, e1, x1, r1, q1⟩ =>
    tV_mono (tV_bind (k := fun env y st => g env x y st) R1 e1 q1) fun u H2 ⟨μ2, st2, y, R2, e2, x2, r2, q2⟩ => ⟨μ2, st2, x, y, R2, e2, x1.trans x2, r1.mono x2.toNx0, r2, q2⟩
end

/-! ### the simple expressions -/
section
variable {G : Gam} {W : WX} {X : Cx}
theorem w_var {i : Nat} {x : Str} {pos : Pos} (hN : X.N[i]? = some x) (hv : Vis X.env.scope x) (hd : (x == ("__debug__" : Str)) = false) (hcd : (x == ("__classdict__" : Str)) = false) :
    PE X (.Name x pos) (tV G W fun env st => match env[i]? with
      | some (some d) => .ok d st
      | _ => .bad) := by
  refine (pe_var hN hv hd hcd).imp fun σ H Q h => ?_
  obtain ⟨μ, env, st, R, e, p⟩ := h
  dsimp only at p
  split at p
  · rename_i d hd
    obtain ⟨v, h1, h2⟩ := e.val i d hd
    exact ⟨v, h1, p.here R v h2⟩
  · exact p.elim
theorem w_const {e : Expr} {v : V} {d : D} (h : PE X e (tC v)) (hd : ∀ μ n H, Rep G μ n H d v) : PE X e (tV G W fun _ st => .ok d st) := by
  refine h.imp fun σ H Q h => ?_
  obtain ⟨μ, env, st, R, e, p⟩ := h
  exact p.here R v (hd _ _ _)
theorem w_aNil : PA X [] (tAs G W fun _ st => .ok [] st) := by
  refine pa_nil.imp fun σ H Q h => ?_
  obtain ⟨μ, env, st, R, e, p⟩ := h
  exact p.here R [] rfl
theorem w_aCons {e : Expr} {es : List Expr} {m : MV} {ms : Env → AS → Res (List D)} (h1 : PE X e (tV G W m)) (h2 : PA X es (tAs G W ms)) (hs : starEach (e :: es) X.env = (false, eval e X.env) :: starEach es X.env) :
    PA X (e :: es) (tAs G W fun env st => (m env st).bind fun d st => (ms env st).bind fun ds st => .ok (d :: ds) st) := by
  refine (pa_cons h1 h2 hs).imp fun σ H Q h => ?_
  obtain ⟨μ, env, st, R, e, p⟩ := h
  refine tV_mono (tV_bind (k := fun env d st => (ms env st).bind fun ds st => .ok (d :: ds) st) R e p) fun v H1 ⟨μ1, st1, x, R1, e1, x1, r1, q1⟩ => ?_
  refine tAs_mono (tAs_bind (k := fun env ds st => .ok (x :: ds) st) R1 e1 q1) fun vs H2 ⟨μ2, st2, xs, R2, e2, x2, r2, q2⟩ => ?_
  exact q2.here R2 _ ((Rep.mono x2.toNx0 _ _ r1 : Rep _ _ _ _ _ _) |> fun z => Reps.cons z r2)
/-- a tuple of written items -/
theorem w_tup {es : List Expr} {k : Nat} {pos : Pos} {ms : Env → AS → Res (List D)} (h : PA X es (tAs G W ms)) (hl : ∀ env st ds st', ms env st = .ok ds st' → ds.length ≤ szMax) :
    PE X (.Tuple es k pos) (tV G W fun env st => (ms env st).bind fun ds st => .ok (.tup ds) st) := by
  refine (pe_tup h).imp fun σ H Q h => ?_
  obtain ⟨μ, env, st, R, e, p⟩ := h
  have hz : ∀ ds st', ms env st = .ok ds st' → ds.length ≤ szMax := hl env st
  dsimp only at p
  refine ⟨μ, env, st, R, e, ?_⟩
  cases hr : ms env st with
  | ok ds st' =>
    rw [hr] at p
    have z := hz _ _ hr
    intro μ1 H1 x1 R1 vs rs
    have lz : vs.length ≤ sizeLine := by rw [← rs.length, ← szLine]; exact z
    refine ⟨lz, fun a ha => ?_⟩
    have nx : Nx μ1 st'.length H1 μ1 st'.length (upd H1 a (.tup vs)) := nx_upd ha
    exact p μ1 _ (x1.trans nx) (R1.side ha) _ ⟨z, a, vs, rfl, .inl upd_same, Reps.mono nx.toNx0 _ _ rs⟩
  | exn c q st' => rw [hr] at p; exact p
  | bad => rw [hr] at p; exact p.elim
theorem newL_ok {μ : Nat → Addr} {st : AS} {H : Hp} {σ : L2.St} {Q : VK} {ds : List D} {vs : List V} (R : Rl G μ st H) (rs : Reps G μ st.length H ds vs) (z : ds.length ≤ szMax)
    (p : PostR G W σ μ st.length H (PV G Q) (newL st ds)) (a : Addr) (ha : H a = none) : Q (.ref a) (upd H a (.lst vs)) := by
  have nx := nx_new (μ := μ) (st := st) (o := .lst vs) (ob := .lst ds) ha
  have R2 : Rl G (extM μ st.length a) (st ++ [.lst ds]) (upd H a (.lst vs)) := R.new ha ⟨z, vs, upd_same, Reps.mono nx.toNx0 _ _ rs⟩
  exact p _ _ nx R2 _ ⟨by simp, by rw [extM_at]⟩
theorem w_lst {es : List Expr} {pos : Pos} {ms : Env → AS → Res (List D)} (h : PA X es (tAs G W ms)) (hl : ∀ env st ds st', ms env st = .ok ds st' → ds.length ≤ szMax) :
    PE X (.List es pos) (tV G W fun env st => (ms env st).bind fun ds st => newL st ds) := by
  refine (pe_lst h).imp fun σ H Q h => ?_
  obtain ⟨μ, env, st, R, e, p⟩ := h
  have hz : ∀ ds st', ms env st = .ok ds st' → ds.length ≤ szMax := hl env st
  dsimp only at p
  refine ⟨μ, env, st, R, e, ?_⟩
  cases hr : ms env st with
  | ok ds st' =>
    rw [hr] at p
    have z := hz _ _ hr
    intro μ1 H1 x1 R1 vs rs
    have lz : vs.length ≤ sizeLine := by rw [← rs.length, ← szLine]; exact z
    exact ⟨lz, fun a ha => newL_ok R1 rs z (PostR.trans x1 p) a ha⟩
  | exn c q st' => rw [hr] at p; exact p
  | bad => rw [hr] at p; exact p.elim

/-! ### operators by values -/
/-- the layer's rule r is met where g tells the outcome -/
def RC2 (G : Gam) (r : R2) (g : D → D → AS → Res D) : Prop := ∀ (W : WX) (σ : L2.St) (μ : Nat → Addr) (st : AS) (H : Hp) (x y : D) (v u : V) (Q : VK), Rl G μ st H → Rep G μ st.length H x v → Rep G μ st.length H y u →
  PostR G W σ μ st.length H (PV G Q) (g x y st) → r v u H Q
theorem w_op {op : Operator} {r : R2} {g : D → D → AS → Res D} {a b : Expr} {ma mb : MV} {pos : Pos} (ho : OpR X (binaryOp op) r) (c : RC2 G r g) (ha : PE X a (tV G W ma)) (hb : PE X b (tV G W mb)) :
    PE X (.BinOp a op b pos) (tV G W fun env st => (ma env st).bind fun x st => (mb env st).bind fun y st => g x y st) := by
  refine (pe_op ho ha hb).imp fun σ H Q h => ?_
  obtain ⟨μ, env, st, R, e, p⟩ := h
  exact tV_mono (tV_two (g := fun _ x y st => g x y st) R e p) fun v H1 h1 => tV_mono h1 fun u H2 ⟨μ2, st2, x, y, R2, e2, x2, r1, r2, q⟩ => c W σ μ2 st2 H2 x y v u Q R2 r1 r2 q
theorem w_cmp {op : CmpOp} {r : R2} {g : D → D → AS → Res D} {a b : Expr} {ma mb : MV} {pos : Pos} (ho : OpR X (compareOp op) r) (c : RC2 G r g) (ha : PE X a (tV G W ma)) (hb : PE X b (tV G W mb)) (hm : behindInMarks op b = false) :
    PE X (.Compare a [op] [b] pos) (tV G W fun env st => (ma env st).bind fun x st => (mb env st).bind fun y st => g x y st) := by
  refine (pe_cmpR ho ha hb hm).imp fun σ H Q h => ?_
  obtain ⟨μ, env, st, R, e, p⟩ := h
  exact tV_mono (tV_two (g := fun _ x y st => g x y st) R e p) fun v H1 h1 => tV_mono h1 fun u H2 ⟨μ2, st2, x, y, R2, e2, x2, r1, r2, q⟩ => c W σ μ2 st2 H2 x y v u Q R2 r1 r2 q
theorem w_ix {r : R2} {g : D → D → AS → Res D} {a b : Expr} {ma mb : MV} {pos : Pos} (ho : IxR X r) (c : RC2 G r g) (ha : PE X a (tV G W ma)) (hb : PE X b (tV G W mb)) (hs : PlainIx b) :
    PE X (.Subscript a b pos) (tV G W fun env st => (ma env st).bind fun x st => (mb env st).bind fun y st => g x y st) := by
  refine (pe_ix ho ha hb hs).imp fun σ H Q h => ?_
  obtain ⟨μ, env, st, R, e, p⟩ := h
  exact tV_mono (tV_two (g := fun _ x y st => g x y st) R e p) fun v H1 h1 => tV_mono h1 fun u H2 ⟨μ2, st2, x, y, R2, e2, x2, r1, r2, q⟩ => c W σ μ2 st2 H2 x y v u Q R2 r1 r2 q
theorem RC2.or1 {r r' : R2} {g : D → D → AS → Res D} (h : RC2 G r g) : RC2 G (fun x y H Q => r x y H Q ∨ r' x y H Q) g := fun W σ μ st H x y v u Q R r1 r2 p => .inl (h W σ μ st H x y v u Q R r1 r2 p)
end
end Ws
end
end

section
set_option Elab.async false
set_option linter.all false
set_option maxRecDepth 100000
set_option maxHeartbeats 4000000
/-! WsD: operators, comparisons, subscripts by values. -/
noncomputable section
namespace Ws
open PySem PySem.Spec PyProof.Rows L2
theorem PostR.no {G : Gam} {W : WX} {σ : L2.St} {α : Type} {μ : Nat → Addr} {n : Nat} {H : Hp} {P : α → AS → (Nat → Addr) → Hp → Prop} {C : Prop} (h : PostR G W σ μ n H P .bad) : C := h.elim
theorem RC2.or2 {G : Gam} {r r' : R2} {g : D → D → AS → Res D} (h : RC2 G r' g) : RC2 G (fun x y H Q => r x y H Q ∨ r' x y H Q) g := fun W σ μ st H x y v u Q R r1 r2 p => .inr (h W σ μ st H x y v u Q R r1 r2 p)

/-! ### what a place of ours holds -/
section
variable {G : Gam} {μ : Nat → Addr} {st : AS} {H : Hp} {l : Nat}
theorem Rl.lt (R : Rl G μ st H) {o : O} (e : st[l]? = some o) : l < st.length := (List.getElem?_eq_some_iff.mp e).1
theorem Rl.lst (R : Rl G μ st H) {xs : List D} (e : st[l]? = some (.lst xs)) : xs.length ≤ szMax ∧ ∃ vs, H (μ l) = some (.lst vs) ∧ Reps G μ st.length H xs vs := R.obj l _ e
theorem Rl.frz (R : Rl G μ st H) {xs : List D} (e : st[l]? = some (.frz xs)) : xs.length ≤ szMax ∧ ∃ ob vs, H (μ l) = some (.frz ob (.lst vs)) ∧ Reps G μ st.length H xs vs := R.obj l _ e
theorem Rl.dic (R : Rl G μ st H) {xs : List (Key × D)} (e : st[l]? = some (.dic xs false)) : xs.length ≤ szMax ∧ ∃ vs, H (μ l) = some (.dK vs) ∧ KReps G μ st.length H xs vs := R.obj l _ e
/-- what is walked: a list or a tuple that is read -/
theorem itemsD_sq (R : Rl G μ st H) {d : D} {v : V} {xs : List D} (e : itemsD st d = some xs) (r : Rep G μ st.length H d v) :
    ∃ a vs, v = .ref a ∧ (SqL G.K H a vs ∨ SqT G.K H a vs) ∧ Reps G μ st.length H xs vs ∧ xs.length ≤ szMax := by
  cases d with
  | tup ds =>
    simp only [itemsD, Option.some.injEq] at e
    subst e
    obtain ⟨z, a, vs, e1, t, rs⟩ := r
    exact ⟨a, vs, e1, .inr t.sq, rs, z⟩
  | kls ds => simp [itemsD] at e
  | ref l =>
    obtain ⟨hl, e1⟩ := r
    simp only [itemsD] at e
    split at e
    · rename_i ys hy
      cases e
      obtain ⟨z, vs, h1, h2⟩ := R.lst hy
      exact ⟨_, vs, e1, .inl (.inl (.inl h1)), h2, z⟩
    · rename_i ys hy
      cases e
      obtain ⟨z, ob, vs, h1, h2⟩ := R.frz hy
      exact ⟨_, vs, e1, .inl (.inl (.inr ⟨ob, h1⟩)), h2, z⟩
    · cases e
  | non => simp [itemsD] at e
  | bl _ => simp [itemsD] at e
  | int _ => simp [itemsD] at e
  | str _ => simp [itemsD] at e
  | clo _ _ => simp [itemsD] at e

theorem listD_sq (R : Rl G μ st H) {d : D} {v : V} {xs : List D} (e : listD st d = some xs) (r : Rep G μ st.length H d v) :
    ∃ a vs, v = .ref a ∧ (SqL G.K H a vs ∨ SqT G.K H a vs) ∧ Reps G μ st.length H xs vs ∧ xs.length ≤ szMax := by
  cases d with
  | kls ds =>
    simp only [listD, Option.some.injEq] at e
    subst e
    obtain ⟨z, a, vs, e1, t, rs⟩ := r
    exact ⟨a, vs, e1, .inl (.inr t), rs, z⟩
  | _ => unfold listD at e; exact itemsD_sq R e r
/-! ### data -/
mutual
theorem toL_dp {f : D → Option PyData} {n : Nat} (hf : ∀ d p v, f d = some p → Rep G μ n H d v → Dp G.K H v p) : ∀ (d : D) (p : PyData) (v : V), toL f d = some p → Rep G μ n H d v → Dp G.K H v p
  | .tup ds, p, v, h, ⟨z, a, vs, e, t, r⟩ => by
    simp only [toL, Option.map_eq_some_iff] at h
    obtain ⟨ps, h1, rfl⟩ := h
    subst e
    exact .tup t.sq (toLs_dp hf ds ps vs h1 r)
  | .non, p, v, h, r => hf _ p v h r
  | .bl _, p, v, h, r => hf _ p v h r
  | .int _, p, v, h, r => hf _ p v h r
  | .str _, p, v, h, r => hf _ p v h r
  | .ref _, p, v, h, r => hf _ p v h r
  | .clo _ _, p, v, h, r => hf _ p v h r
  | .kls _, p, v, h, r => hf _ p v h r
theorem toLs_dp {f : D → Option PyData} {n : Nat} (hf : ∀ d p v, f d = some p → Rep G μ n H d v → Dp G.K H v p) : ∀ (ds : List D) (ps : List PyData) (vs : List V), toLs f ds = some ps → Reps G μ n H ds vs → DpAll G.K H vs ps
  | [], ps, vs, h, r => by
    have e : vs = [] := r
    subst e
    simp only [toLs, Option.some.injEq] at h
    subst h
    exact .nil
  | d :: ds, ps, vs, h, ⟨v, r, e, h1, t⟩ => by
    subst e
    simp only [toLs] at h
    split at h
    · rename_i p qs e1 e2
      cases h
      exact .cons (toL_dp hf d p v e1 h1) (toLs_dp hf ds qs r e2 t)
    · cases h
end
theorem toD_dp (R : Rl G μ st H) : ∀ (k : Nat) (d : D) (p : PyData) (v : V), toD st k d = some p → Rep G μ st.length H d v → Dp G.K H v p
  | 0, _, _, _, h, _ => by simp [toD] at h
  | k + 1, d, p, v, h, r => by
    unfold toD at h
    refine toL_dp (f := _) (fun d p v h r => ?_) d p v h r
    cases d with
    | non => cases h; cases r; exact .non
    | bl b => cases h; cases r; exact .bl b
    | int b => cases h; cases r; exact .int b
    | str b => cases h; cases r; exact .str b
    | tup ds => cases h
    | clo _ _ => cases h
    | kls _ => cases h
    | ref l =>
      obtain ⟨hl, rfl⟩ := r
      dsimp only at h
      split at h
      · rename_i xs hx
        rw [Option.map_eq_some_iff] at h
        obtain ⟨ps, h1, rfl⟩ := h
        obtain ⟨z, vs, h2, h3⟩ := R.lst hx
        exact .lst (.inl (.inl h2)) (toLs_dp (fun d p v h r => toD_dp R k d p v h r) xs ps vs h1 h3)
      · cases h
end

/-! ### arithmetic -/
def bOp : BOp → Operator
  | .add => .Add
  | .sub => .Sub
  | .mul => .Mult
  | .fdiv => .FloorDiv
  | .mod => .Mod
  | .pow => .Pow
def rAddS : R2 := fun x y H Q => ∃ i j, x = .str i ∧ y = .str j ∧ i.length + j.length ≤ sizeLine ∧ Q (.str (i ++ j)) H
def rBin (K : PySem.W.Frag) : BOp → R2
  | .add => fun x y H Q => rI0 (fun i j => .int (i + j)) x y H Q ∨ rAddS x y H Q ∨ rCatA K x y H Q ∨ rCat x y H Q
  | .sub => rI0 fun i j => .int (i - j)
  | .mul => rI CMul fun i j => .int (i * j)
  | .fdiv => rI CDiv fun i j => .int (i / j)
  | .mod => rI (fun _ j => 0 < j) fun i j => .int (i % j)
  | .pow => rI CPow fun i j => .int (i ^ j.toNat)
theorem opBin {X : Cx} (op : BOp) : OpR X (binaryOp (bOp op)) (rBin X.K op) := by
  cases op with
  | add => exact OpR.or op_add (OpR.or op_add_str (OpR.or op_catA op_cat))
  | sub => exact op_sub
  | mul => exact op_mul
  | fdiv => exact op_fdiv
  | mod => exact op_mod
  | pow => exact op_pow
theorem ip_opI {X : Cx} : ∀ (op : BOp), op = .add ∨ op = .sub → OpR X (inplaceOp (bOp op)) (rI0 fun i j => .int (if op = .add then i + j else i - j))
  | .add, _ => iop_add
  | .sub, _ => iop_sub
  | .mul, h => by simp at h
  | .fdiv, h => by simp at h
  | .mod, h => by simp at h
  | .pow, h => by simp at h
theorem rcBin {G : Gam} (op : BOp) : RC2 G (rBin G.K op) (fun x y st => binD op x y st) := by
  intro W σ μ st H x y v u Q R r1 r2 p
  cases op with
  | add =>
    cases x with
    | int i =>
      cases y with
      | int j => exact .inl ⟨i, j, r1, r2, p.here R _ rfl⟩
      | _ => exact PostR.no p
    | str i =>
      cases y with
      | str j =>
        unfold binD at p
        dsimp only at p
        split at p
        · rename_i hz
          exact .inr (.inl ⟨i, j, r1, r2, by rw [← szLine]; exact hz, p.here R _ rfl⟩)
        · exact PostR.no p
      | _ => exact PostR.no p
    | tup xs =>
      cases y with
      | tup ys =>
        unfold binD at p
        dsimp only at p
        split at p
        · rename_i hz
          obtain ⟨z1, a, vs, rfl, t1, q1⟩ := r1
          obtain ⟨z2, b, us, rfl, t2, q2⟩ := r2
          have e1 := q1.length
          have e2 := q2.length
          refine .inr (.inr (.inl ⟨a, b, vs, us, rfl, rfl, t1.sq, t2.sq, by rw [← e1, ← e2, ← szLine]; exact hz.2, fun e => ?_, fun _ e => ?_, fun n1 n2 c hc => ?_⟩))
          · subst e
            exact absurd (List.length_eq_zero_iff.mp e1) hz.1
          · subst e
            have e3 : ys = [] := List.length_eq_zero_iff.mp e2
            subst e3
            rw [List.append_nil] at p
            exact p.here R _ ⟨z1, a, vs, rfl, t1, q1⟩
          · have nx : Nx μ st.length H μ st.length (upd H c (.tup (vs ++ us))) := nx_upd hc
            exact p μ _ nx (R.side hc) _ ⟨by rw [List.length_append]; exact hz.2, c, _, rfl, .inl upd_same, (Reps.mono nx.toNx0 _ _ q1).append (Reps.mono nx.toNx0 _ _ q2)⟩
        · exact PostR.no p
      | _ => exact PostR.no p
    | ref l =>
      cases y with
      | ref k =>
        unfold binD at p
        dsimp only at p
        split at p
        · rename_i xs ys hx hy
          split at p
          · rename_i hz
            obtain ⟨h1, rfl⟩ := r1
            obtain ⟨h2, rfl⟩ := r2
            obtain ⟨z1, vs, e1, q1⟩ := R.lst hx
            obtain ⟨z2, us, e2, q2⟩ := R.lst hy
            exact .inr (.inr (.inr ⟨_, _, vs, us, rfl, rfl, e1, e2, by rw [← q1.length, ← q2.length, ← szLine]; exact hz, fun a ha => newL_ok R (q1.append q2) (by rw [List.length_append]; exact hz) p a ha⟩))
          · exact PostR.no p
        · exact PostR.no p
      | _ => exact PostR.no p
    | _ => exact PostR.no p
  | sub =>
    cases x with
    | int i =>
      cases y with
      | int j => exact ⟨i, j, r1, r2, p.here R _ rfl⟩
      | _ => exact PostR.no p
    | _ => exact PostR.no p
  | mul =>
    cases x with
    | int i =>
      cases y with
      | int j =>
        unfold binD at p
        dsimp only at p
        split at p
        · rename_i hz
          exact ⟨i, j, r1, r2, hz, p.here R _ rfl⟩
        · exact PostR.no p
      | _ => exact PostR.no p
    | _ => exact PostR.no p
  | fdiv =>
    cases x with
    | int i =>
      cases y with
      | int j =>
        unfold binD at p
        dsimp only at p
        split at p
        · rename_i hz
          exact ⟨i, j, r1, r2, hz, p.here R _ rfl⟩
        · exact PostR.no p
      | _ => exact PostR.no p
    | _ => exact PostR.no p
  | mod =>
    cases x with
    | int i =>
      cases y with
      | int j =>
        unfold binD at p
        dsimp only at p
        split at p
        · rename_i hz
          exact ⟨i, j, r1, r2, hz, p.here R _ rfl⟩
        · exact PostR.no p
      | _ => exact PostR.no p
    | _ => exact PostR.no p
  | pow =>
    cases x with
    | int i =>
      cases y with
      | int j =>
        unfold binD at p
        dsimp only at p
        split at p
        · rename_i hz
          exact ⟨i, j, r1, r2, hz, p.here R _ rfl⟩
        · exact PostR.no p
      | _ => exact PostR.no p
    | _ => exact PostR.no p

/-! ### comparisons -/
def cOp : COp → CmpOp
  | .eq => .Eq
  | .ne => .NotEq
  | .lt => .Lt
  | .le => .LtE
  | .gt => .Gt
  | .ge => .GtE
  | .inn => .In
  | .nin => .NotIn
def rInT (K : PySem.W.Frag) (neg : Bool) : R2 := fun x y H Q => ∃ d ds, Dp K H x d ∧ Dp K H y (.tuple ds) ∧ SeqAt.shaped d = true ∧ SeqAt.shaped (.list ds) = true ∧ Q (.bl (if neg then !ds.any (fun z => PyData.eqv z d) else ds.any fun z => PyData.eqv z d)) H
theorem op_inT {X : Cx} (hu : X.A.units + 65 < cLine) : OpR X (compareOp .In) (rInT X.K false) := by
  intro pins s σ H x y v u Q I rx ry h
  obtain ⟨d, ds, hd, he, sd, se, q⟩ := h
  obtain ⟨as, r1⟩ := Dp.reads I d x v hd rx
  obtain ⟨bs, r2⟩ := Dp.reads I (.tuple ds) y u he ry
  exact SeqAt.in_tuple_reads r2 r1 (SeqAt.canLay_of_shaped se) (SeqAt.canLay_of_shaped sd) (room_in_shaped sd hu) ⟨.bl _, H, I, rfl, q⟩
theorem op_ninT {X : Cx} (hu : X.A.units + 65 < cLine) : OpR X (compareOp .NotIn) (rInT X.K true) := by
  intro pins s σ H x y v u Q I rx ry h
  obtain ⟨d, ds, hd, he, sd, se, q⟩ := h
  obtain ⟨as, r1⟩ := Dp.reads I d x v hd rx
  obtain ⟨bs, r2⟩ := Dp.reads I (.tuple ds) y u he ry
  exact SeqAt.notIn_tuple_reads r2 r1 (SeqAt.canLay_of_shaped se) (SeqAt.canLay_of_shaped sd) (room_in_shaped sd hu) ⟨.bl _, H, I, rfl, q⟩
def rInS (neg : Bool) : R2 := fun x y H Q => ∃ i j, x = .str i ∧ y = .str j ∧ Q (.bl (if neg then !(!(Builtin.Str.occurrences j i 0 j.length 1).isEmpty) else !(Builtin.Str.occurrences j i 0 j.length 1).isEmpty)) H
def rCmp (K : PySem.W.Frag) : COp → R2
  | .eq => fun x y H Q => rEq x y H Q ∨ rEqD K x y H Q
  | .ne => fun x y H Q => rNe x y H Q ∨ rNeD K x y H Q
  | .lt => rI0 fun i j => .bl (decide (i < j))
  | .le => rI0 fun i j => .bl (decide (i ≤ j))
  | .gt => rI0 fun i j => .bl (decide (j < i))
  | .ge => rI0 fun i j => .bl (decide (j ≤ i))
  | .inn => fun x y H Q => rIn K false x y H Q ∨ rInD K x y H Q ∨ rInT K false x y H Q ∨ rInS false x y H Q
  | .nin => fun x y H Q => rIn K true x y H Q ∨ rNotInD K x y H Q ∨ rInT K true x y H Q ∨ rInS true x y H Q
theorem opCmp {X : Cx} (hu : X.A.units + 65 < cLine) (op : COp) : OpR X (compareOp (cOp op)) (rCmp X.K op) := by
  cases op with
  | eq => exact OpR.or op_eq (op_eqD (by omega))
  | ne => exact OpR.or op_ne (op_neD (by omega))
  | lt => exact op_lt
  | le => exact op_le
  | gt => exact op_gt
  | ge => exact op_ge
  | inn => exact OpR.or op_in_seq (OpR.or (op_inD hu) (OpR.or (op_inT hu) op_in_str))
  | nin => exact OpR.or op_notIn_seq (OpR.or (op_notInD hu) (OpR.or (op_ninT hu) op_notin_str))
theorem ofB_ok {G : Gam} {W : WX} {σ : L2.St} {μ : Nat → Addr} {st : AS} {H : Hp} {Q : VK} {o : Option Bool} (R : Rl G μ st H) (p : PostR G W σ μ st.length H (PV G Q) (ofB st o)) : ∃ b, o = some b ∧ Q (.bl b) H := by
  cases o with
  | none => exact p.elim
  | some b => exact ⟨b, rfl, p.here R _ rfl⟩
/-- two values told apart or not -/
theorem eqD_ok {G : Gam} {μ : Nat → Addr} {st : AS} {H : Hp} {x y : D} {v u : V} {b : Bool} (R : Rl G μ st H) (e : eqD st x y = some b) (r1 : Rep G μ st.length H x v) (r2 : Rep G μ st.length H y u) :
    (scal v u = true ∧ b = decide (v = u)) ∨ ∃ d e, Dp G.K H v d ∧ Dp G.K H u e ∧ SeqAt.shaped d = true ∧ SeqAt.shaped e = true ∧ b = PyData.eqv d e := by
  have gen : (match toD st 8 x, toD st 8 y with
    | some p, some q => if SeqAt.shaped p && SeqAt.shaped q then some (PyData.eqv p q) else none
    | _, _ => none) = some b → ∃ d e, Dp G.K H v d ∧ Dp G.K H u e ∧ SeqAt.shaped d = true ∧ SeqAt.shaped e = true ∧ b = PyData.eqv d e := fun h => by
    split at h
    · rename_i p q e1 e2
      split at h
      · rename_i hs
        cases h
        rw [Bool.and_eq_true] at hs
        exact ⟨p, q, toD_dp R 8 x p v e1 r1, toD_dp R 8 y q u e2 r2, hs.1, hs.2, rfl⟩
      · cases h
    · cases h
  have li : ∀ i j : Int, decide (V.int i = V.int j) = (i == j) := fun i j => dec_int
  have ls : ∀ i j : Str, decide (V.str i = V.str j) = (i == j) := fun i j => dec_str
  have lb : ∀ i j : Bool, decide (V.bl i = V.bl j) = (i == j) := fun i j => dec_bl
  cases x with
  | int i =>
    cases y with
    | int j => cases e; cases r1; cases r2; exact .inl ⟨rfl, (li i j).symm⟩
    | str j => cases e; cases r1; cases r2; exact .inl ⟨rfl, rfl⟩
    | non => cases e; cases r1; cases r2; exact .inl ⟨rfl, rfl⟩
    | _ => exact .inr (gen e)
  | str i =>
    cases y with
    | int j => cases e; cases r1; cases r2; exact .inl ⟨rfl, rfl⟩
    | str j => cases e; cases r1; cases r2; exact .inl ⟨rfl, (ls i j).symm⟩
    | non => cases e; cases r1; cases r2; exact .inl ⟨rfl, rfl⟩
    | _ => exact .inr (gen e)
  | bl i =>
    cases y with
    | bl j => cases e; cases r1; cases r2; exact .inl ⟨rfl, (lb i j).symm⟩
    | non => cases e; cases r1; cases r2; exact .inl ⟨rfl, rfl⟩
    | _ => exact .inr (gen e)
  | non =>
    cases y with
    | int j => cases e; cases r1; cases r2; exact .inl ⟨rfl, rfl⟩
    | str j => cases e; cases r1; cases r2; exact .inl ⟨rfl, rfl⟩
    | bl j => cases e; cases r1; cases r2; exact .inl ⟨rfl, rfl⟩
    | non => cases e; cases r1; cases r2; exact .inl ⟨rfl, rfl⟩
    | _ => exact .inr (gen e)
  | tup _ => exact .inr (gen e)
  | ref _ => exact .inr (gen e)
  | clo _ _ => exact .inr (gen e)
  | kls _ => exact .inr (gen e)
section
variable {G : Gam} {μ : Nat → Addr} {n : Nat} {H : Hp}
theorem flat_rep {d : D} {v : V} (f : d.flatB = true) (r : Rep G μ n H d v) : flatV v = true := by
  cases d with
  | non => cases r; rfl
  | bl _ => cases r; rfl
  | int _ => cases r; rfl
  | str _ => cases r; rfl
  | _ => cases f
theorem eqF_rep {d e : D} {v u : V} (f : d.flatB = true) (g : e.flatB = true) (r : Rep G μ n H d v) (q : Rep G μ n H e u) : eqV v u = eqF d e := by
  cases d with
  | non =>
    cases r
    cases e with
    | non => cases q; rfl
    | bl _ => cases q; rfl
    | int _ => cases q; rfl
    | str _ => cases q; rfl
    | _ => cases g
  | bl _ =>
    cases r
    cases e with
    | non => cases q; rfl
    | bl _ => cases q; rfl
    | int _ => cases q; rfl
    | str _ => cases q; rfl
    | _ => cases g
  | int _ =>
    cases r
    cases e with
    | non => cases q; rfl
    | bl _ => cases q; rfl
    | int _ => cases q; rfl
    | str _ => cases q; rfl
    | _ => cases g
  | str _ =>
    cases r
    cases e with
    | non => cases q; rfl
    | bl _ => cases q; rfl
    | int _ => cases q; rfl
    | str _ => cases q; rfl
    | _ => cases g
  | _ => cases f
theorem inF_rep {d : D} {v : V} (f : d.flatB = true) (r : Rep G μ n H d v) : ∀ {ds : List D} {vs : List V}, ds.all D.flatB = true → Reps G μ n H ds vs → vs.all flatV = true ∧ inV v vs = inF d ds
  | [], vs, _, q => by
    have e : vs = [] := q
    subst e
    exact ⟨rfl, rfl⟩
  | x :: ds, _, g, ⟨u, t, rfl, h1, h2⟩ => by
    rw [List.all_cons, Bool.and_eq_true] at g
    obtain ⟨i1, i2⟩ := inF_rep f r g.2 h2
    refine ⟨by rw [List.all_cons, flat_rep g.1 h1, i1]; rfl, ?_⟩
    show (List.any (u :: t) fun y => eqV y v) = List.any (x :: ds) fun y => eqF y d
    rw [List.any_cons, List.any_cons, eqF_rep g.1 f h1 r]
    exact congrArg _ i2
end
theorem inD_ok {G : Gam} {μ : Nat → Addr} {st : AS} {H : Hp} {x y : D} {v u : V} {b : Bool} (R : Rl G μ st H) (e : inD st x y = some b) (r1 : Rep G μ st.length H x v) (r2 : Rep G μ st.length H y u) :
    (∃ p xs, u = .ref p ∧ (SqL G.K H p xs ∨ SqT G.K H p xs) ∧ flatV v = true ∧ xs.all flatV = true ∧ b = inV v xs) ∨
    (∃ d ds, Dp G.K H v d ∧ (Dp G.K H u (.list ds) ∨ Dp G.K H u (.tuple ds)) ∧ SeqAt.shaped d = true ∧ SeqAt.shaped (.list ds) = true ∧ b = ds.any fun z => PyData.eqv z d) ∨
    ∃ i j, v = .str i ∧ u = .str j ∧ b = !(Builtin.Str.occurrences j i 0 j.length 1).isEmpty := by
  have go : ∀ (xs : List D) (vs : List V) (a : Addr), u = .ref a → (SqL G.K H a vs ∨ SqT G.K H a vs) → Reps G μ st.length H xs vs →
      (if x.flatB && xs.all D.flatB then some (inF x xs)
        else match toD st 8 x, toLs (toD st 8) xs with
          | some p, some ps => if SeqAt.shaped p && SeqAt.shaped (.list ps) then some (ps.any fun z => PyData.eqv z p) else none
          | _, _ => none) = some b →
      (∃ p xs, u = .ref p ∧ (SqL G.K H p xs ∨ SqT G.K H p xs) ∧ flatV v = true ∧ xs.all flatV = true ∧ b = inV v xs) ∨
      (∃ d ds, Dp G.K H v d ∧ (Dp G.K H u (.list ds) ∨ Dp G.K H u (.tuple ds)) ∧ SeqAt.shaped d = true ∧ SeqAt.shaped (.list ds) = true ∧ b = ds.any fun z => PyData.eqv z d) := by
    intro xs vs a ea sq rs h
    split at h
    · rename_i hf
      rw [Bool.and_eq_true] at hf
      cases h
      obtain ⟨i1, i2⟩ := inF_rep hf.1 r1 hf.2 rs
      exact .inl ⟨a, vs, ea, sq, flat_rep hf.1 r1, i1, i2.symm⟩
    · split at h
      · rename_i p ps e1 e2
        split at h
        · rename_i hs
          rw [Bool.and_eq_true] at hs
          cases h
          have dall := toLs_dp (fun d p v h r => toD_dp R 8 d p v h r) xs ps vs e2 rs
          refine .inr ⟨p, ps, toD_dp R 8 x p v e1 r1, ?_, hs.1, hs.2, rfl⟩
          subst ea
          rcases sq with sq | sq
          · exact .inl (.lst sq dall)
          · exact .inr (.tup sq dall)
        · cases h
      · cases h
  cases y with
  | tup ys =>
    obtain ⟨z, a, vs, e1, t, rs⟩ := r2
    rcases go ys vs a e1 (.inr t.sq) rs e with h | h
    · exact .inl h
    · exact .inr (.inl h)
  | ref l =>
    obtain ⟨hl, e1⟩ := r2
    simp only [inD] at e
    split at e
    · rename_i ys hy
      obtain ⟨z, vs, h1, h2⟩ := R.lst hy
      rcases go ys vs _ e1 (.inl (.inl (.inl h1))) h2 e with h | h
      · exact .inl h
      · exact .inr (.inl h)
    · cases e
  | str z =>
    cases x with
    | str w =>
      simp only [inD, Option.some.injEq] at e
      exact .inr (.inr ⟨w, z, r1, r2, e.symm⟩)
    | _ => simp [inD] at e
  | _ => simp [inD] at e
theorem rcCmp {G : Gam} (op : COp) : RC2 G (rCmp G.K op) (fun x y st => ofB st (cmpD st op x y)) := by
  intro W σ μ st H x y v u Q R r1 r2 p
  obtain ⟨b, e, q⟩ := ofB_ok R p
  have ci : ∀ {f : Int → Int → Bool}, cmpI f x y = some b → ∃ i j, v = .int i ∧ u = .int j ∧ b = f i j := fun {f} h => by
    cases x with
    | int i =>
      cases y with
      | int j => cases h; exact ⟨i, j, r1, r2, rfl⟩
      | _ => cases h
    | _ => cases h
  cases op with
  | eq =>
    rcases eqD_ok R e r1 r2 with ⟨h1, h2⟩ | ⟨d, e', h1, h2, h3, h4, h5⟩
    · exact .inl ⟨h1, by rw [← h2]; exact q⟩
    · exact .inr ⟨d, e', h1, h2, h3, h4, by rw [← h5]; exact q⟩
  | ne =>
    simp only [cmpD, Option.map_eq_some_iff] at e
    obtain ⟨c, e, rfl⟩ := e
    rcases eqD_ok R e r1 r2 with ⟨h1, h2⟩ | ⟨d, e', h1, h2, h3, h4, h5⟩
    · exact .inl ⟨h1, by rw [← h2]; exact q⟩
    · exact .inr ⟨d, e', h1, h2, h3, h4, by rw [← h5]; exact q⟩
  | lt => obtain ⟨i, j, e1, e2, rfl⟩ := ci e; exact ⟨i, j, e1, e2, q⟩
  | le => obtain ⟨i, j, e1, e2, rfl⟩ := ci e; exact ⟨i, j, e1, e2, q⟩
  | gt => obtain ⟨i, j, e1, e2, rfl⟩ := ci e; exact ⟨i, j, e1, e2, q⟩
  | ge => obtain ⟨i, j, e1, e2, rfl⟩ := ci e; exact ⟨i, j, e1, e2, q⟩
  | inn =>
    rcases inD_ok R e r1 r2 with ⟨a, xs, h1, h2, h3, h4, h5⟩ | ⟨d, ds, h1, h2 | h2, h3, h4, h5⟩ | ⟨i, j, h1, h2, h5⟩
    · exact .inl ⟨a, xs, h1, h2, h3, h4, by rw [if_neg (by decide), ← h5]; exact q⟩
    · exact .inr (.inl ⟨d, ds, h1, h2, h3, h4, by rw [← h5]; exact q⟩)
    · exact .inr (.inr (.inl ⟨d, ds, h1, h2, h3, h4, by rw [if_neg (by decide), ← h5]; exact q⟩))
    · exact .inr (.inr (.inr ⟨i, j, h1, h2, by rw [if_neg (by decide), ← h5]; exact q⟩))
  | nin =>
    simp only [cmpD, Option.map_eq_some_iff] at e
    obtain ⟨c, e, rfl⟩ := e
    rcases inD_ok R e r1 r2 with ⟨a, xs, h1, h2, h3, h4, h5⟩ | ⟨d, ds, h1, h2 | h2, h3, h4, h5⟩ | ⟨i, j, h1, h2, h5⟩
    · exact .inl ⟨a, xs, h1, h2, h3, h4, by rw [if_pos rfl, ← h5]; exact q⟩
    · exact .inr (.inl ⟨d, ds, h1, h2, h3, h4, by rw [← h5]; exact q⟩)
    · exact .inr (.inr (.inl ⟨d, ds, h1, h2, h3, h4, by rw [if_pos rfl, ← h5]; exact q⟩))
    · exact .inr (.inr (.inr ⟨i, j, h1, h2, by rw [if_pos rfl, ← h5]; exact q⟩))

/-! ### subscripts -/
theorem sIx_eq (n d : Nat) (o : Option Int) : HT.sIx n d o = sIx n d o := by cases o <;> rfl
theorem cutV_len {xs : List D} {vs : List V} (h : xs.length = vs.length) (lo hi : Option Int) : cutV vs lo hi = (vs.drop (sIx xs.length 0 lo)).take (sIx xs.length xs.length hi - sIx xs.length 0 lo) := by
  unfold cutV
  rw [sIx_eq, sIx_eq, h]
theorem cut_reps {G : Gam} {μ : Nat → Addr} {n : Nat} {H : Hp} {xs : List D} {vs : List V} (h : Reps G μ n H xs vs) (lo hi : Option Int) : Reps G μ n H (cutD xs lo hi) (cutV vs lo hi) := by
  rw [cutV_len h.length]
  exact (h.drop _).take _
theorem cutD_le {α : Type} (xs : List α) (lo hi : Option Int) : (cutD xs lo hi).length ≤ xs.length := by
  unfold cutD
  rw [List.length_take, List.length_drop]
  omega
theorem ixN_eq (n : Nat) (i : Int) : L2.ixN n i = ixN n i := rfl
theorem atI_rep {G : Gam} {μ : Nat → Addr} {n : Nat} {H : Hp} {xs : List D} {vs : List V} {i : Int} {d : D} (h : Reps G μ n H xs vs) (e : atI xs i = some d) : ∃ v, L2.atI vs i = some v ∧ Rep G μ n H d v := by
  unfold atI at e
  rw [Option.bind_eq_some_iff] at e
  obtain ⟨j, e1, e2⟩ := e
  obtain ⟨v, h1, h2⟩ := h.get e2
  refine ⟨v, ?_, h2⟩
  unfold L2.atI
  rw [ixN_eq, ← h.length, e1]
  exact h1
end Ws
end
end

section
set_option Elab.async false
set_option linter.all false
set_option maxRecDepth 100000
set_option maxHeartbeats 4000000
/-! WsE: subscripts, slices, tests, and | or | not, built-ins by values. -/
noncomputable section
namespace Ws
open PySem PySem.Spec PyProof.Rows L2
theorem ofD_ok {G : Gam} {W : WX} {σ : L2.St} {μ : Nat → Addr} {st : AS} {H : Hp} {Q : VK} {o : Option D} (R : Rl G μ st H) (p : PostR G W σ μ st.length H (PV G Q) (ofD st o)) : ∃ d, o = some d ∧ ∀ v, Rep G μ st.length H d v → Q v H := by
  cases o with
  | none => exact p.elim
  | some b => exact ⟨b, rfl, p.here R⟩
theorem rcIx {G : Gam} : RC2 G (rIx G.K) (fun x y st => ofD st (ixD st x y)) := by
  intro W σ μ st H x y v u Q R r1 r2 p
  obtain ⟨d, e, q⟩ := ofD_ok R p
  cases x with
  | tup xs =>
    cases y with
    | int i =>
      obtain ⟨z, a, vs, rfl, t, rs⟩ := r1
      obtain ⟨w, h1, h2⟩ := atI_rep rs e
      exact .inr (.inl ⟨a, vs, i, w, rfl, r2, t.sq, h1, q w h2⟩)
    | _ => cases e
  | ref l =>
    obtain ⟨hl, rfl⟩ := r1
    simp only [ixD] at e
    split at e
    · rename_i xs hx
      split at e
      · rename_i i
        obtain ⟨z, vs, h1, rs⟩ := R.lst hx
        obtain ⟨w, h3, h4⟩ := atI_rep rs e
        exact .inl ⟨_, vs, i, w, rfl, r2, .inl (.inl h1), h3, q w h4⟩
      · cases e
    · rename_i xs hx
      split at e
      · rename_i i
        obtain ⟨z, ob, vs, h1, rs⟩ := R.frz hx
        obtain ⟨w, h3, h4⟩ := atI_rep rs e
        exact .inl ⟨_, vs, i, w, rfl, r2, .inl (.inr ⟨ob, h1⟩), h3, q w h4⟩
      · cases e
    · cases e
  | str z =>
    cases y with
    | int i =>
      simp only [ixD] at e
      split at e
      · rename_i hz
        rw [Option.map_eq_some_iff] at e
        obtain ⟨c, e1, rfl⟩ := e
        exact .inr (.inr ⟨z, i, c, r1, r2, by rw [← szLine]; exact hz, e1, q _ rfl⟩)
      · cases e
    | _ => cases e
  | _ => cases e
/-! ### dicts -/
section
variable {G : Gam} {μ : Nat → Addr} {n : Nat} {H : Hp}
theorem KReps.length : ∀ {ds : List (Key × D)} {vs : List (Key × V)}, KReps G μ n H ds vs → ds.length = vs.length
  | [], _, h => by
    have e : _ = [] := h
    subst e; rfl
  | d :: ds, _, ⟨v, r, e, _, t⟩ => by rw [e, List.length_cons, List.length_cons, KReps.length t]
theorem KReps.look (k : Key) {d : D} : ∀ {ds : List (Key × D)} {vs : List (Key × V)}, KReps G μ n H ds vs → lookK ds k = some d → ∃ v, valV vs k = some v ∧ Rep G μ n H d v
  | [], _, h, e => by cases e
  | p :: ds, _, ⟨v, r, e, h, t⟩, q => by
    subst e
    unfold lookK at q
    by_cases hk : p.1 = k
    · rw [List.find?_cons_of_pos (by simpa using hk)] at q
      cases q
      exact ⟨v, valV_pos (p := (p.1, v)) hk, h⟩
    · rw [List.find?_cons_of_neg (by simpa using hk)] at q
      obtain ⟨w, h1, h2⟩ := KReps.look k t q
      exact ⟨w, by rw [valV_neg (p := (p.1, v)) hk]; exact h1, h2⟩
theorem KReps.any (k : Key) : ∀ {ds : List (Key × D)} {vs : List (Key × V)}, KReps G μ n H ds vs → (ds.any fun kv => decide (kv.1 = k)) = vs.any fun kv => decide (kv.1 = k)
  | [], _, h => by
    have e : _ = [] := h
    subst e; rfl
  | p :: ds, _, ⟨v, r, e, h, t⟩ => by
    subst e
    rw [List.any_cons, List.any_cons, KReps.any k t]
theorem KReps.repl (k : Key) {d : D} {w : V} (q : Rep G μ n H d w) : ∀ {ds : List (Key × D)} {vs : List (Key × V)}, KReps G μ n H ds vs → KReps G μ n H (ds.map fun kv => if kv.1 = k then (kv.1, d) else kv) (vs.map fun kv => if kv.1 = k then (kv.1, w) else kv)
  | [], _, h => by
    have e : _ = [] := h
    subst e; rfl
  | p :: ds, _, ⟨v, r, e, h, t⟩ => by
    subst e
    have ih := KReps.repl k q t
    by_cases hk : p.1 = k
    · refine ⟨w, _, ?_, ?_, ih⟩
      · simp only [List.map_cons, hk, if_true]
      · simp only [hk, if_true]; exact q
    · refine ⟨v, _, ?_, ?_, ih⟩
      · simp only [List.map_cons, hk, if_false]
      · simp only [hk, if_false]; exact h
theorem KReps.snoc (k : Key) {d : D} {w : V} (q : Rep G μ n H d w) : ∀ {ds : List (Key × D)} {vs : List (Key × V)}, KReps G μ n H ds vs → KReps G μ n H (ds ++ [(k, d)]) (vs ++ [(k, w)])
  | [], _, h => by
    have e : _ = [] := h
    subst e
    exact ⟨w, [], rfl, q, rfl⟩
  | p :: ds, _, ⟨v, r, e, h, t⟩ => by
    subst e
    exact ⟨v, _, rfl, h, KReps.snoc k q t⟩
theorem KReps.put {ds : List (Key × D)} {vs : List (Key × V)} (h : KReps G μ n H ds vs) (k : Key) {d : D} {w : V} (q : Rep G μ n H d w) : KReps G μ n H (putK ds k d) (L2.putK vs k w) := by
  unfold putK L2.putK
  rw [h.any k]
  split
  · exact h.repl k q
  · exact h.snoc k q
theorem keyD_rep {d : D} {v : V} {k : Key} (e : keyD d = some k) (r : Rep G μ n H d v) : v = kV k := by
  cases d with
  | int i => cases e; exact r
  | str i => cases e; exact r
  | _ => cases e
theorem putK_len (ds : List (Key × D)) (k : Key) (d : D) : (putK ds k d).length ≤ ds.length + 1 := by
  unfold putK
  split
  · rw [List.length_map]; omega
  · rw [List.length_append]; exact Nat.le_refl _
end
section
variable {G : Gam} {W : WX} {X : Cx}
theorem w_ixd {a b : Expr} {ma mb : MV} {pos : Pos} (hu : X.A.units + 1 < cLine) (ha : PE X a (tV G W ma)) (hb : PE X b (tV G W mb)) (hs : NoSl b) :
    PE X (.Subscript a b pos) (tV G W fun env st => (ma env st).bind fun x st => (mb env st).bind fun y st => ofD st (ixK st x y)) := by
  refine (pe_dget hu ha hb hs).imp fun σ H Q h => ?_
  obtain ⟨μ, env, st, R, e, p⟩ := h
  refine tV_mono (tV_two (g := fun _ x y st => ofD st (ixK st x y)) R e p) fun v H1 h1 => tV_mono h1 fun u H2 ⟨μ2, st2, x, y, R2, e2, x2, r1, r2, q⟩ => ?_
  obtain ⟨d, e, qd⟩ := ofD_ok R2 q
  cases x with
  | ref l =>
    obtain ⟨hl, rfl⟩ := r1
    simp only [ixK] at e
    split at e
    · rename_i kvs hk
      split at e
      · rename_i k hy
        obtain ⟨z, vs, h2, h3⟩ := R2.dic hk
        obtain ⟨w, z1, z2⟩ := h3.look k e
        refine ⟨_, w, rfl, ?_, qd w z2⟩
        rw [keyD_rep hy r2, ← z1]
        exact DGet.k h2
      · cases e
    · cases e
  | _ => cases e

/-! ### slices -/
def tO (G : Gam) (W : WX) (m : Env → AS → Res (Option Int)) : TO := fun σ H Q => ∃ μ env st, Rl G μ st H ∧ ER G μ st.length H env σ ∧ PostR G W σ μ st.length H (fun o _ _ H' => Q o H') (m env st)
theorem tO_mono {m : Env → AS → Res (Option Int)} {σ : L2.St} {H : Hp} {Q Q' : Option Int → Hp → Prop} (h : tO G W m σ H Q) (k : ∀ v H, Q v H → Q' v H) : tO G W m σ H Q' := by
  obtain ⟨μ, env, st, R, e, p⟩ := h
  exact ⟨μ, env, st, R, e, p.mono fun a st' μ' H' _ _ q => k _ _ q⟩
theorem w_oNo : PO X none (tO G W fun _ st => .ok none st) := by
  refine po_none.imp fun σ H Q h => ?_
  obtain ⟨μ, env, st, R, e, p⟩ := h
  exact p.here R
theorem w_oOf {e : Expr} {m : MV} (h : PE X e (tV G W m)) : PO X (some e) (tO G W fun env st => (m env st).bind fun d st => match d with
    | .int i => .ok (some i) st
    | _ => .bad) := by
  refine (po_some h).imp fun σ H Q h => ?_
  obtain ⟨μ, env, st, R, e, p⟩ := h
  refine tV_mono (tV_bind (k := fun _ d st => match d with
    | .int i => .ok (some i) st
    | _ => .bad) R e p) fun v H1 ⟨μ1, st1, x, R1, e1, x1, r1, q1⟩ => ?_
  cases x with
  | int i => exact ⟨i, r1, q1.here R1⟩
  | _ => exact PostR.no q1
def rSl (K : PySem.W.Frag) : V → Option Int → Option Int → Hp → VK → Prop := fun x lo hi H Q => rSlL K x lo hi H Q ∨ rSlA K x lo hi H Q ∨ ∃ z, x = .str z ∧ z.length ≤ sizeLine ∧ Q (.str (cutS z lo hi)) H
theorem slR : SlR X (rSl X.K) := SlR.or sl_list (SlR.or sl_tupA sl_str)
theorem cutS_eq (z : Str) (lo hi : Option Int) : cutS z lo hi = ⟨(cutD z.cps.toList lo hi).toArray⟩ := by
  unfold cutS cutD
  simp only [sIx_eq]
  rfl
theorem w_sl {a : Expr} {lo hi : Option Expr} {ma : MV} {ml mh : Env → AS → Res (Option Int)} {p2 pos : Pos} (hK : X.K = G.K) (ha : PE X a (tV G W ma)) (hl : PO X lo (tO G W ml)) (hh : PO X hi (tO G W mh)) :
    PE X (.Subscript a (.Slice lo hi none p2) pos) (tV G W fun env st => (ma env st).bind fun x st => (ml env st).bind fun l st => (mh env st).bind fun h st => slD st x l h) := by
  refine (pe_slice slR ha hl hh).imp fun σ H Q h => ?_
  obtain ⟨μ, env, st, R, e, p⟩ := h
  refine tV_mono (tV_bind (k := fun env x st => (ml env st).bind fun l st => (mh env st).bind fun h st => slD st x l h) R e p) fun v H1 ⟨μ1, st1, x, R1, e1, x1, r1, q1⟩ => ?_
  refine tO_mono (Q := fun l H2 => ∃ μ2 st2, Rl G μ2 st2 H2 ∧ ER G μ2 st2.length H2 env σ ∧ Nx μ1 st1.length H1 μ2 st2.length H2 ∧ PostR G W σ μ2 st2.length H2 (PV G Q) ((mh env st2).bind fun h st => slD st x l h))
    ⟨μ1, env, st1, R1, e1, q1.bind.mono fun o st2 μ2 H2 x2 R2 q2 => ⟨μ2, st2, R2, e1.mono x2.toNx0, x2, q2⟩⟩ fun l H2 ⟨μ2, st2, R2, e2, x2, q2⟩ => ?_
  refine tO_mono (Q := fun h H3 => ∃ μ3 st3, Rl G μ3 st3 H3 ∧ Nx μ2 st2.length H2 μ3 st3.length H3 ∧ PostR G W σ μ3 st3.length H3 (PV G Q) (slD st3 x l h))
    ⟨μ2, env, st2, R2, e2, q2.bind.mono fun o st3 μ3 H3 x3 R3 q3 => ⟨μ3, st3, R3, x3, q3⟩⟩ fun h H3 ⟨μ3, st3, R3, x3, q3⟩ => ?_
  have r3 := Rep.mono (x2.trans x3).toNx0 _ _ r1
  rw [hK]
  cases x with
  | tup xs =>
    obtain ⟨z, a, vs, rfl, t, rs⟩ := r3
    refine .inr (.inl ⟨a, vs, rfl, t.sq, fun hw => ?_, fun hw b hb => ?_⟩)
    · have ec : cutD xs l h = xs := by
        unfold cutD
        rw [sIx_eq, sIx_eq, ← rs.length] at hw
        rw [hw.1, hw.2, List.drop_zero, Nat.sub_zero, List.take_length]
      have q4 : PostR G W σ μ3 st3.length H3 (PV G Q) (.ok (.tup (cutD xs l h)) st3) := q3
      rw [ec] at q4
      exact q4.here R3 _ ⟨z, a, vs, rfl, t, rs⟩
    · have nx : Nx μ3 st3.length H3 μ3 st3.length (upd H3 b (.tup (cutV vs l h))) := nx_upd hb
      have q4 : PostR G W σ μ3 st3.length H3 (PV G Q) (.ok (.tup (cutD xs l h)) st3) := q3
      exact q4 μ3 _ nx (R3.side hb) _ ⟨Nat.le_trans (cutD_le xs l h) z, b, _, rfl, .inl upd_same, Reps.mono nx.toNx0 _ _ (cut_reps rs l h)⟩
  | str z =>
    simp only [slD] at q3
    split at q3
    · rename_i hz
      refine .inr (.inr ⟨z, r3, by rw [← szLine]; exact hz, ?_⟩)
      rw [cutS_eq]
      exact q3.here R3 _ rfl
    · exact PostR.no q3
  | ref k =>
    obtain ⟨hk, rfl⟩ := r3
    simp only [slD] at q3
    split at q3
    · rename_i xs hx
      obtain ⟨z, vs, h1, rs⟩ := R3.lst hx
      exact .inl ⟨_, vs, rfl, .inl (.inl h1), fun b hb => newL_ok R3 (cut_reps rs l h) (Nat.le_trans (cutD_le xs l h) z) q3 b hb⟩
    · exact PostR.no q3
  | _ => exact PostR.no q3

/-! ### tests -/
theorem truD_ok {μ : Nat → Addr} {st : AS} {H : Hp} {d : D} {v : V} {b : Bool} (R : Rl G μ st H) (e : truD st d = some b) (r : Rep G μ st.length H d v) : TruV G.K v H b := by
  cases d with
  | non => cases r; cases e; exact rfl
  | bl _ => cases r; cases e; exact rfl
  | int _ => cases r; cases e; exact rfl
  | str y =>
    cases r
    simp only [truD] at e
    split at e
    · rename_i hz
      cases e
      exact ⟨by rw [← szLine]; exact hz, rfl⟩
    · cases e
  | tup ds =>
    obtain ⟨z, a, vs, rfl, t, rs⟩ := r
    cases e
    refine .inr (.inl ⟨vs, t.sq, ?_⟩)
    have h := rs.length
    cases ds <;> cases vs <;> first | rfl | simp at h
  | ref l =>
    obtain ⟨hl, rfl⟩ := r
    simp only [truD] at e
    split at e
    · rename_i xs hx
      cases e
      obtain ⟨z, vs, h1, rs⟩ := R.lst hx
      refine .inl ⟨vs, .inl (.inl h1), ?_⟩
      have h := rs.length
      cases xs <;> cases vs <;> first | rfl | simp at h
    · rename_i kvs hk
      cases e
      obtain ⟨z, vs, h1, rs⟩ := R.dic hk
      refine .inr (.inr ⟨vs, h1, ?_⟩)
      have h := rs.length
      cases kvs <;> cases vs <;> first | rfl | simp at h
    · cases e
  | clo _ _ => cases e
  | kls _ => cases e
theorem w_truth {e : Expr} {m : MV} (hK : X.K = G.K) (h : PE X e (tV G W m)) (he : ∀ whole, isTrue e X.env whole = (do let v ← whole; standAt e.pos; holding [v] (truthy v))) :
    PT X e (tT G W fun env st => truR (m env st)) := by
  refine (pt_truth h he).imp fun σ H Q h => ?_
  obtain ⟨μ, env, st, R, e, p⟩ := h
  refine tV_mono (tV_bind (k := fun _ d st => match truD st d with
    | some b => .ok b st
    | none => .bad) R e p) fun v H1 ⟨μ1, st1, x, R1, e1, x1, r1, q1⟩ => ?_
  split at q1
  · rename_i b hb
    exact ⟨b, by rw [hK]; exact truD_ok R1 hb r1, q1.here R1⟩
  · exact PostR.no q1
theorem w_cmpT {op : CmpOp} {r : R2} {g : D → D → AS → Option Bool} {a b : Expr} {ma mb : MV} {pos : Pos} (ho : OpR X (compareOp op) r) (c : RC2 G r (fun x y st => ofB st (g x y st))) (ha : PE X a (tV G W ma)) (hb : PE X b (tV G W mb)) (hm : behindInMarks op b = false) :
    PT X (.Compare a [op] [b] pos) (tT G W fun env st => (ma env st).bind fun x st => (mb env st).bind fun y st => ofBT st (g x y st)) := by
  refine (pt_cmpR ho ha hb hm).imp fun σ H Q h => ?_
  obtain ⟨μ, env, st, R, e, p⟩ := h
  refine tV_mono (tV_two (g := fun _ x y st => ofBT st (g x y st)) R e p) fun v H1 h1 => tV_mono h1 fun u H2 ⟨μ2, st2, x, y, R2, e2, x2, r1, r2, q⟩ => ?_
  refine c W σ μ2 st2 H2 x y v u _ R2 r1 r2 ?_
  dsimp only at q ⊢
  cases hg : g x y st2 with
  | none => rw [hg] at q; exact PostR.no q
  | some b =>
    rw [hg] at q
    intro μ' H' nx R' v' rv
    exact ⟨b, rv, q μ' H' nx R'⟩
/-- a op1 b op2 c -/
theorem chain_ok {r r' : R2} {g g' : D → D → AS → Option Bool} {σ : L2.St} {ma mb mc : MV} {Q : VK} {H : Hp} (c1 : RC2 G r (fun x y st => ofB st (g x y st))) (c2 : RC2 G r' (fun x y st => ofB st (g' x y st)))
    (h : tV G W (fun env st => (ma env st).bind fun x st => (mb env st).bind fun y st => match g x y st with
      | some true => (mc env st).bind fun z st => ofB st (g' y z st)
      | some false => .ok (.bl false) st
      | none => .bad) σ H Q) : tChain r r' (tV G W ma) (tV G W mb) (tV G W mc) σ H Q := by
  obtain ⟨μ, env, st, R, e, p⟩ := h
  refine tV_mono (tV_two (g := fun env x y st => match g x y st with
      | some true => (mc env st).bind fun z st => ofB st (g' y z st)
      | some false => .ok (.bl false) st
      | none => .bad) R e p) fun v H1 h1 => tV_mono h1 fun u H2 ⟨μ2, st2, x, y, R2, e2, x2, r1, r2, q⟩ => ?_
  refine c1 W σ μ2 st2 H2 x y v u _ R2 r1 r2 ?_
  dsimp only at q ⊢
  cases hg : g x y st2 with
  | none => rw [hg] at q; exact PostR.no q
  | some b =>
    rw [hg] at q
    intro μ' H' nx R' v' rv
    refine ⟨b, rv, ?_⟩
    cases b with
    | false => exact iteF (q μ' H' nx R' _ rfl)
    | true =>
      refine iteT ?_
      have q2 := PostR.trans nx q
      refine tV_mono (tV_bind (k := fun env z st => ofB st (g' y z st)) R' (e2.mono nx.toNx0) q2) fun w H3 ⟨μ3, st3, z, R3, e3, x3, r3, q3⟩ => ?_
      exact c2 W σ μ3 st3 H3 y z u w Q R3 (Rep.mono (nx.trans x3).toNx0 _ _ r2) r3 q3
theorem w_chain {op op' : CmpOp} {r r' : R2} {g g' : D → D → AS → Option Bool} {a b c : Expr} {ma mb mc : MV} {pos : Pos} (ho : OpR X (compareOp op) r) (ho' : OpR X (compareOp op') r') (c1 : RC2 G r (fun x y st => ofB st (g x y st))) (c2 : RC2 G r' (fun x y st => ofB st (g' x y st)))
    (ha : PE X a (tV G W ma)) (hb : PE X b (tV G W mb)) (hc : PE X c (tV G W mc)) (hm : lastMarks [op, op'] [b, c] = false) :
    PE X (.Compare a [op, op'] [b, c] pos) (tV G W fun env st => (ma env st).bind fun x st => (mb env st).bind fun y st => match g x y st with
      | some true => (mc env st).bind fun z st => ofB st (g' y z st)
      | some false => .ok (.bl false) st
      | none => .bad) := (pe_chain ho ho' ha hb hc hm).imp fun σ H Q h => chain_ok c1 c2 h
theorem w_chainT {op op' : CmpOp} {r r' : R2} {g g' : D → D → AS → Option Bool} {a b c : Expr} {ma mb mc : MV} {pos : Pos} (ho : OpR X (compareOp op) r) (ho' : OpR X (compareOp op') r') (c1 : RC2 G r (fun x y st => ofB st (g x y st))) (c2 : RC2 G r' (fun x y st => ofB st (g' x y st)))
    (ha : PE X a (tV G W ma)) (hb : PE X b (tV G W mb)) (hc : PE X c (tV G W mc)) (hm : lastMarks [op, op'] [b, c] = false) :
    PT X (.Compare a [op, op'] [b, c] pos) (tT G W fun env st => (ma env st).bind fun x st => (mb env st).bind fun y st => match g x y st with
      | some true => (mc env st).bind fun z st => ofBT st (g' y z st)
      | some false => .ok false st
      | none => .bad) := by
  refine (pt_chain ho ho' ha hb hc hm).imp fun σ H Q h => ?_
  refine chain_ok (W := W) (mc := mc) c1 c2 ?_
  obtain ⟨μ, env, st, R, e, p⟩ := h
  refine ⟨μ, env, st, R, e, ?_⟩
  have key : ∀ (x y : D) (s : AS) (μ : Nat → Addr) (n : Nat) (H : Hp), PostR G W σ μ n H (PB Q) (match g x y s with
      | some true => (mc env s).bind fun z st => ofBT st (g' y z st)
      | some false => .ok false s
      | none => .bad) → PostR G W σ μ n H (PV G fun x H' => ∃ k, x = .bl k ∧ Q k H') (match g x y s with
      | some true => (mc env s).bind fun z st => ofB st (g' y z st)
      | some false => .ok (.bl false) s
      | none => .bad) := by
    intro x y s μ n H
    cases g x y s with
    | none => exact fun q => q
    | some b =>
      cases b with
      | false => exact fun q μ' H' nx R' v rv => ⟨false, rv, q μ' H' nx R'⟩
      | true =>
        dsimp only
        cases mc env s with
        | ok z s2 =>
          simp only [bind_ok]
          cases g' y z s2 with
          | none => exact fun q => q
          | some b => exact fun q μ' H' nx R' v rv => ⟨b, rv, q μ' H' nx R'⟩
        | exn c0 p0 s2 => exact fun q => q
        | bad => exact fun q => q
  dsimp only at p ⊢
  cases h1 : ma env st with
  | ok x s1 =>
    rw [h1] at p
    simp only [bind_ok] at p ⊢
    cases h2 : mb env s1 with
    | ok y s2 =>
      rw [h2] at p
      simp only [bind_ok] at p ⊢
      exact key x y s2 _ _ _ p
    | exn c0 p0 s2 => rw [h2] at p; exact p
    | bad => rw [h2] at p; exact p
  | exn c0 p0 s2 => rw [h1] at p; exact p
  | bad => rw [h1] at p; exact p
/-! ### and, or, not; if .. else -/
theorem w_nt {t : Expr} {m : Env → AS → Res Bool} {pos : Pos} (h : PT X t (tT G W m)) : PT X (.UnaryOp .Not t pos) (tT G W fun env st => (m env st).bind fun b st => .ok (!b) st) := by
  refine (pt_not h).imp fun σ H Q h => ?_
  obtain ⟨μ, env, st, R, e, p⟩ := h
  exact tT_mono (tT_bind (k := fun _ b st => .ok (!b) st) R e p) fun b H1 ⟨μ1, st1, R1, e1, x1, q1⟩ => q1.here R1
theorem and_ok {σ : L2.St} {ma mb : Env → AS → Res Bool} {Q : Bool → Hp → Prop} {H : Hp} (h : tT G W (fun env st => (ma env st).bind fun c st => if c = true then mb env st else .ok false st) σ H Q) : tAnd (tT G W ma) (tT G W mb) σ H Q := by
  obtain ⟨μ, env, st, R, e, p⟩ := h
  refine tT_mono (tT_bind (k := fun env c st => if c = true then mb env st else .ok false st) R e p) fun b H1 ⟨μ1, st1, R1, e1, x1, q1⟩ => ?_
  cases b with
  | true => exact iteT ⟨μ1, env, st1, R1, e1, q1⟩
  | false => exact iteF (PostR.here (a := false) q1 R1)
theorem or_ok {σ : L2.St} {ma mb : Env → AS → Res Bool} {Q : Bool → Hp → Prop} {H : Hp} (h : tT G W (fun env st => (ma env st).bind fun c st => if c = true then .ok true st else mb env st) σ H Q) : tOr (tT G W ma) (tT G W mb) σ H Q := by
  obtain ⟨μ, env, st, R, e, p⟩ := h
  refine tT_mono (tT_bind (k := fun env c st => if c = true then .ok true st else mb env st) R e p) fun b H1 ⟨μ1, st1, R1, e1, x1, q1⟩ => ?_
  cases b with
  | false => exact iteF ⟨μ1, env, st1, R1, e1, q1⟩
  | true => exact iteT (PostR.here (a := true) q1 R1)
theorem w_isN {a : Expr} {m : MV} {j : Nat} {p2 pos : Pos} (h : PE X a (tV G W m)) : PE X (.Compare a [.Is] [.Constant .none j p2] pos) (tV G W fun env st => (m env st).bind fun x st => .ok (.bl (isNon x)) st) := by
  refine (pe_cmp (pc_isN h) rfl).imp fun σ H Q h => ?_
  obtain ⟨μ, env, st, R, e, p⟩ := h
  refine tV_mono (tV_bind (k := fun _ x st => .ok (D.bl (isNon x)) st) R e p) fun v H1 ⟨μ1, st1, x, R1, e1, x1, r1, q1⟩ => ?_
  refine q1.here R1 _ ?_
  cases x with
  | non => cases r1; rfl
  | bl _ => cases r1; rfl
  | int _ => cases r1; rfl
  | str _ => cases r1; rfl
  | tup _ => obtain ⟨z, a, vs, rfl, _⟩ := r1; rfl
  | kls _ => obtain ⟨z, a, vs, rfl, _⟩ := r1; rfl
  | ref _ => obtain ⟨_, rfl⟩ := r1; rfl
  | clo _ _ => exact r1.elim
theorem w_notN {a : Expr} {m : MV} {j : Nat} {p2 pos : Pos} (h : PE X a (tV G W m)) : PE X (.Compare a [.IsNot] [.Constant .none j p2] pos) (tV G W fun env st => (m env st).bind fun x st => .ok (.bl (!isNon x)) st) := by
  refine (pe_cmp (pc_notN h) rfl).imp fun σ H Q h => ?_
  obtain ⟨μ, env, st, R, e, p⟩ := h
  refine tV_mono (tV_bind (k := fun _ x st => .ok (D.bl (!isNon x)) st) R e p) fun v H1 ⟨μ1, st1, x, R1, e1, x1, r1, q1⟩ => ?_
  refine q1.here R1 _ ?_
  cases x with
  | non => cases r1; rfl
  | bl _ => cases r1; rfl
  | int _ => cases r1; rfl
  | str _ => cases r1; rfl
  | tup _ => obtain ⟨z, a, vs, rfl, _⟩ := r1; rfl
  | kls _ => obtain ⟨z, a, vs, rfl, _⟩ := r1; rfl
  | ref _ => obtain ⟨_, rfl⟩ := r1; rfl
  | clo _ _ => exact r1.elim
/-- a value that is a bool, as a test -/
theorem w_val {e : Expr} {m : MV} {f : Env → AS → Res Bool} (h : PE X e (tV G W m)) (he : ∀ whole, isTrue e X.env whole = (do let v ← whole; standAt e.pos; holding [v] (truthy v)))
    (hf : ∀ env st, m env st = (f env st).bind fun b st => .ok (.bl b) st) : PT X e (tT G W f) := by
  refine (pt_val h he).imp fun σ H Q h => ?_
  obtain ⟨μ, env, st, R, e, p⟩ := h
  refine ⟨μ, env, st, R, e, ?_⟩
  rw [hf]
  cases hr : f env st with
  | ok b s => rw [hr] at p; exact fun μ' H' nx R' v rv => ⟨b, rv, p μ' H' nx R'⟩
  | exn c q s => rw [hr] at p; exact p
  | bad => rw [hr] at p; exact p
theorem w_isNT {a : Expr} {m : MV} {j : Nat} {p2 pos : Pos} (h : PE X a (tV G W m)) : PT X (.Compare a [.Is] [.Constant .none j p2] pos) (tT G W fun env st => (m env st).bind fun x st => .ok (isNon x) st) := by
  refine (pt_cmp (pc_isN h) rfl).imp fun σ H Q h => ?_
  obtain ⟨μ, env, st, R, e, p⟩ := h
  refine tV_mono (tV_bind (k := fun _ x st => .ok (isNon x) st) R e p) fun v H1 ⟨μ1, st1, x, R1, e1, x1, r1, q1⟩ => ?_
  refine ⟨_, rfl, ?_⟩
  have z := q1.here R1
  cases x with
  | non => cases r1; exact z
  | bl _ => cases r1; exact z
  | int _ => cases r1; exact z
  | str _ => cases r1; exact z
  | tup _ => obtain ⟨z', a, vs, rfl, _⟩ := r1; exact z
  | kls _ => obtain ⟨z', a, vs, rfl, _⟩ := r1; exact z
  | ref _ => obtain ⟨_, rfl⟩ := r1; exact z
  | clo _ _ => exact r1.elim
theorem w_notNT {a : Expr} {m : MV} {j : Nat} {p2 pos : Pos} (h : PE X a (tV G W m)) : PT X (.Compare a [.IsNot] [.Constant .none j p2] pos) (tT G W fun env st => (m env st).bind fun x st => .ok (!isNon x) st) := by
  refine (pt_cmp (pc_notN h) rfl).imp fun σ H Q h => ?_
  obtain ⟨μ, env, st, R, e, p⟩ := h
  refine tV_mono (tV_bind (k := fun _ x st => .ok (!isNon x) st) R e p) fun v H1 ⟨μ1, st1, x, R1, e1, x1, r1, q1⟩ => ?_
  refine ⟨_, rfl, ?_⟩
  have z := q1.here R1
  cases x with
  | non => cases r1; exact z
  | bl _ => cases r1; exact z
  | int _ => cases r1; exact z
  | str _ => cases r1; exact z
  | tup _ => obtain ⟨z', a, vs, rfl, _⟩ := r1; exact z
  | kls _ => obtain ⟨z', a, vs, rfl, _⟩ := r1; exact z
  | ref _ => obtain ⟨_, rfl⟩ := r1; exact z
  | clo _ _ => exact r1.elim
theorem boolR_bind {α : Type} {σ : L2.St} {P : α → AS → (Nat → Addr) → Hp → Prop} {m : MV} {k : Env → Bool → AS → Res α} {env : Env} {st : AS} {μ : Nat → Addr} {H : Hp} (R : Rl G μ st H) (e : ER G μ st.length H env σ)
    (h : PostR G W σ μ st.length H P ((boolR (m env st)).bind (k env))) :
    tV G W m σ H fun v H1 => ∃ b μ1 st1, v = .bl b ∧ Rl G μ1 st1 H1 ∧ ER G μ1 st1.length H1 env σ ∧ Nx μ st.length H μ1 st1.length H1 ∧ PostR G W σ μ1 st1.length H1 P (k env b st1) := by
  refine ⟨μ, env, st, R, e, ?_⟩
  cases hr : m env st with
  | ok d s =>
    rw [hr] at h
    cases d with
    | bl b => exact fun μ' H' nx R' v rv => ⟨b, μ', s, rv, R', e.mono nx.toNx0, nx, PostR.trans nx h⟩
    | _ => exact PostR.no h
  | exn c q s => rw [hr] at h; exact h
  | bad => rw [hr] at h; exact h.elim
theorem w_ntV {a : Expr} {m : MV} {pos : Pos} (h : PE X a (tV G W m)) : PE X (.UnaryOp .Not a pos) (tV G W fun env st => (boolR (m env st)).bind fun b st => .ok (.bl (!b)) st) := by
  refine (pe_not h).imp fun σ H Q h => ?_
  obtain ⟨μ, env, st, R, e, p⟩ := h
  exact tV_mono (boolR_bind (k := fun _ b st => .ok (D.bl (!b)) st) R e p) fun v H1 ⟨b, μ1, st1, ev, R1, e1, x1, q1⟩ => ⟨b, ev, q1.here R1 _ rfl⟩
theorem w_andV {a b : Expr} {rest : List Expr} {ma mb : MV} {pos : Pos} (ha : PE X a (tV G W ma)) (hb : PE X (.BoolOp .And (b :: rest) pos) (tV G W mb)) :
    PE X (.BoolOp .And (a :: b :: rest) pos) (tV G W fun env st => (boolR (ma env st)).bind fun c st => if c = true then mb env st else .ok (.bl false) st) := by
  refine (pe_and ha hb).imp fun σ H Q h => ?_
  obtain ⟨μ, env, st, R, e, p⟩ := h
  refine tV_mono (boolR_bind (k := fun env c st => if c = true then mb env st else .ok (.bl false) st) R e p) fun v H1 ⟨b, μ1, st1, ev, R1, e1, x1, q1⟩ => ⟨b, ev, ?_⟩
  cases b with
  | true => exact iteT ⟨μ1, env, st1, R1, e1, q1⟩
  | false => exact iteF (PostR.here (P := PV G Q) (a := D.bl false) q1 R1 _ rfl)
theorem w_orV {a b : Expr} {rest : List Expr} {ma mb : MV} {pos : Pos} (ha : PE X a (tV G W ma)) (hb : PE X (.BoolOp .Or (b :: rest) pos) (tV G W mb)) :
    PE X (.BoolOp .Or (a :: b :: rest) pos) (tV G W fun env st => (boolR (ma env st)).bind fun c st => if c = true then .ok (.bl true) st else mb env st) := by
  refine (pe_or ha hb).imp fun σ H Q h => ?_
  obtain ⟨μ, env, st, R, e, p⟩ := h
  refine tV_mono (boolR_bind (k := fun env c st => if c = true then .ok (.bl true) st else mb env st) R e p) fun v H1 ⟨b, μ1, st1, ev, R1, e1, x1, q1⟩ => ⟨b, ev, ?_⟩
  cases b with
  | false => exact iteF ⟨μ1, env, st1, R1, e1, q1⟩
  | true => exact iteT (PostR.here (P := PV G Q) (a := D.bl true) q1 R1 _ rfl)
theorem w_ite {t a b : Expr} {mt : Env → AS → Res Bool} {ma mb : MV} {pos : Pos} (ht : PT X t (tT G W mt)) (ha : PE X a (tV G W ma)) (hb : PE X b (tV G W mb)) :
    PE X (.IfExp t a b pos) (tV G W fun env st => (mt env st).bind fun c st => if c = true then ma env st else mb env st) := by
  refine (pe_ifExp ht ha hb).imp fun σ H Q h => ?_
  obtain ⟨μ, env, st, R, e, p⟩ := h
  refine tT_mono (tT_bind (k := fun env c st => if c = true then ma env st else mb env st) R e p) fun b H1 ⟨μ1, st1, R1, e1, x1, q1⟩ => ?_
  cases b with
  | true => exact iteT ⟨μ1, env, st1, R1, e1, q1⟩
  | false => exact iteF ⟨μ1, env, st1, R1, e1, q1⟩
theorem w_neg {a : Expr} {m : MV} {pos : Pos} (h : PE X a (tV G W m)) : PE X (.UnaryOp .USub a pos) (tV G W fun env st => (m env st).bind fun x st => negD x st) := by
  refine (pe_un un_neg h).imp fun σ H Q h => ?_
  obtain ⟨μ, env, st, R, e, p⟩ := h
  refine tV_mono (tV_bind (k := fun _ x st => negD x st) R e p) fun v H1 ⟨μ1, st1, x, R1, e1, x1, r1, q1⟩ => ?_
  cases x with
  | int i => exact ⟨i, r1, q1.here R1 _ rfl⟩
  | _ => exact PostR.no q1
end
end Ws
end
end

section
set_option Elab.async false
set_option linter.all false
set_option maxRecDepth 100000
set_option maxHeartbeats 8000000
/-! WsSet: set(xs) of a list of ints, with what sorted asks of it (after the layer's rule for tuples). -/
noncomputable section
namespace Ws
open PySem PySem.Spec PyProof.Rows L2
section
variable {P : Program} {w : World} {A : Around} {E0 : Value → Shared → Prop} {s : Shared}
/-- the empty set's object -/
abbrev sNil (w : World) : Obj := { cls := .type "set", dict := none, data := .set #[] 0 (.fresh 0 0 (!w.params.followText "set-order")) }
theorem set_of_list {l : Addr} {items : Array Value} (ns : List Int) {Q : Value → Shared → Prop} (hh : A.handled = none) (hl : s.heap.IsList l items) (hit : IntsAre items.toList ns) (hb : ns.length + 1 < scanBound)
    (h : ∀ (h2 : Heap) (tk c : Nat), SetR w h2 s.heap.objs.size (fun j => decide (j ∈ ns)) c → c ≤ ns.length → (∀ b o, s.heap.get? b = some o → h2.get? b = some o) → Q (.ref s.heap.objs.size) { s with heap := h2, toks := tk }) :
    wpAny (model P w) A (call (.type "set") [.ref l]) Q E0 s := by
  have size_is : items.size = ns.length := by
    have z := IntsAre.length hit
    rw [Array.length_toList] at z; exact z
  obtain ⟨cc, rest, hmro⟩ := F.called_set.mro
  have g1 := F.called_set.made; have g2 := F.called_set.sub
  refine wpAny_call (codeAny_of_tree ?_)
  show wpAny _ _ (callAny (.type "set") _) _ _ _
  refine wpAny_pure ⟨Code.quiet_builtin _ (by decide +kernel), codeAny_builtin F.entry_type_call ?_⟩
  rw [Around.under_plain (weight_type_call_type "set" [.ref l] []) rfl]
  have g3 := F.called_set.notType; have g4 := F.called_set.canCreate; have g5 := F.typeCall_set_1 (.ref l)
  repeat (any_goals (first | assumption | wp_step))
  refine codeAny_mono (code_set_led1 (.ref l) (E := E0) (Q₁ := fun ob s1 => ob = .ref s.heap.objs.size ∧ s1 = { s with heap := s.heap.push (sNil w) }) ⟨rfl, rfl⟩) fun r s1 hr => ?_
  cases r with
  | error e => exact hr
  | ok fl =>
    cases fl with
    | ret ob =>
      obtain ⟨rfl, rfl⟩ := hr
      have at_ : (s.heap.push (sNil w)).get? s.heap.objs.size = some (sNil w) := Heap.get?_push_size _ rfl
      have ty_ : Shared.TypeIs { s with heap := s.heap.push (sNil w) } (.ref s.heap.objs.size) "set" := ⟨_, at_, rfl⟩
      have g6 := F.called_set.init.lookup; have g7 := F.called_set.init.bind (.ref s.heap.objs.size)
      repeat (any_goals (first | assumption | wp_step))
      refine codeAny_mono (codeAny_call_builtin (R := wants (fun r s2 => r = .none ∧ ∃ h2 tk c, s2 = { s with heap := h2, toks := tk } ∧ SetR w h2 s.heap.objs.size (fun j => decide (j ∈ ns)) c ∧ c ≤ ns.length ∧
          (∀ b o, s.heap.get? b = some o → h2.get? b = some o)) E0) F.called_set.init.plain F.entry_set_init (check_set_init_1 ty_ ?_)) fun r2 s2 hr2 => ?_
      · obtain ⟨ol, hol, hcl, nl, hdl⟩ := hl
        obtain ⟨oc, od, odata, osl⟩ := ol
        simp only at hcl hdl
        subst hcl hdl
        have hol2 : (s.heap.push (sNil w)).get? l = some { cls := .type "list", dict := od, data := .seq items nl, slots := osl } := Heap.get?_push_of_some _ hol
        have k1 := F.sub_list_set; have k2 := F.sub_list_frozenset
        have k3 : (Value.type "list" == Value.type "dict") = false := by decide
        have lst1 : (s.heap.push (sNil w)).IsList l items := ⟨_, hol2, rfl, nl, rfl⟩
        unfold Builtin.«set.__init__» noKeywords Builtin.Frozenset.updateFrom
        generalize hPI : pyIter = PI
        wp_walk
        subst hPI
        refine wpAny_pyIter_list lst1 ?_
        refine wpAny_bind (wpAny_runValue ?_)
        have l_lt : l < s.heap.objs.size := Heap.lt_size hol
        have h3 : A.in1.in1.in1.handled = none := by simp [hh]
        have ne1 : l ≠ (s.heap.push (sNil w)).objs.size := by
          rw [Heap.size_push]; exact Nat.ne_of_lt (Nat.lt_succ_of_lt l_lt)
        have sf : s.heap.objs.size ∉ [(s.heap.push (sNil w)).objs.size, l] := by
          rw [Heap.size_push]; simp only [List.mem_cons, List.mem_singleton, List.not_mem_nil, or_false, not_or]
          exact ⟨Nat.ne_of_lt (Nat.lt_succ_self _), Nat.ne_of_gt l_lt⟩
        have vals : ∀ (i : Nat) (v : Value), items[i]? = some v → ∃ k t, ns[i]? = some k ∧ v = .int k t := fun i v hv => by
          have hi : i < ns.length := by rw [← size_is]; exact (Array.getElem?_eq_some_iff.mp hv).1
          obtain ⟨t, e⟩ := PyProof.Rows.IntsAre.int_at hit i v (by rw [Array.getElem?_toList]; exact hv)
          refine ⟨ns[i], t, List.getElem?_eq_getElem hi, ?_⟩
          rw [e, List.getD_eq_getElem?_getD, List.getElem?_eq_getElem hi] <;> rfl
        refine set_update_ints ((Walks.list h3 _ l ne1 items).toS) s.heap.objs.size sf ns size_is hb vals (items.size - 0) 0 _ (by omega) (Nat.zero_le _) ⟨⟨_, Heap.get?_push_size _ rfl, rfl, rfl⟩, (lst1.push _)⟩ ?first ?after
        case first =>
          have z : ((s.heap.push (sNil w)).push { cls := .type "list_iterator", data := .fields #[.ref l, .int 0 0] }).get? s.heap.objs.size = some (sNil w) := Heap.get?_push_of_some _ at_
          exact ⟨0, Nat.le_refl 0, setR_new_at z⟩
        case after =>
          intro s3 c3 hm hc3 hS3
          obtain ⟨h2, g2, d2, tk2, os2⟩ := s3
          have eg : g2 = s.gens := hm.gens
          have ed : d2 = s.drawn := hm.drawn
          have eo : os2 = s.os := hm.os
          subst eg ed eo
          show wpAny _ _ _ _ _ _
          refine wpAny_pure ?_
          show wpAny _ _ (ret Value.none) _ _ _
          rw [size_is] at hc3
          refine wpAny_pure ⟨rfl, h2, tk2, c3, rfl, hS3, hc3, fun b o e => ?_⟩
          have b0 : b < s.heap.objs.size := Heap.lt_size e
          have b2 : b ≠ (s.heap.push (sNil w)).objs.size := by
            rw [Heap.size_push]; exact Nat.ne_of_lt (Nat.lt_succ_of_lt b0)
          exact hm.heap b o (by simp only [List.mem_cons, List.mem_singleton, List.not_mem_nil, or_false, not_or]; exact ⟨Nat.ne_of_lt b0, b2⟩) (Heap.get?_push_of_some _ (Heap.get?_push_of_some _ e))
      · cases r2 with
        | error e => exact hr2
        | ok fl2 =>
          cases fl2 with
          | ret r =>
            obtain ⟨rfl, h2, tk, c2, rfl, hS2, hc2, hk2⟩ := hr2
            repeat (any_goals (first | assumption | wp_step))
            exact h _ _ _ hS2 hc2 hk2
          | _ => exact hr2.elim
    | _ => exact hr.elim
end
def rSetL' (K : PySem.W.Frag) (w : World) : List V → Hp → VK → Prop := fun vs H Q => ∃ (a : Addr) (ns : List Int), vs = [.ref a] ∧ SqL K H a (ns.map V.int) ∧ ns.length ≤ 1000 ∧
  ∀ p c, H p = none → c ≤ ns.length → Q (.ref p) (upd H p (SetO w p (fun k => decide (k ∈ ns)) c))
theorem cr_setL {X : Cx} (hc : X.calm = true) : CallR X (.type "set") (rSetL' X.K X.w) := by
  intro pins s σ H vs us Q I r h
  obtain ⟨a, ns, rfl, hs, hl, q⟩ := h
  rw [Vals.ref1 r]
  obtain ⟨its, rv, pl, hz⟩ := I.list hs
  refine set_of_list ns (I.ok.hd hc) pl.isList (intsAre_of rv) (by unfold scanBound; omega) fun h2 tk c R hc2 k => ?_
  have hn : H s.heap.objs.size = none := I.hok.fresh (Nat.le_refl _)
  have J := I.laid (t' := tk) k (Nat.le_refl _) (setO_new (P := X.prog) (H := upd H s.heap.objs.size (SetO X.w s.heap.objs.size (fun k => decide (k ∈ ns)) c)) R)
  exact ⟨.ref s.heap.objs.size, _, J, rfl, q _ c hn hc2⟩
end Ws
end
end

section
set_option Elab.async false
set_option linter.all false
set_option maxRecDepth 100000
set_option maxHeartbeats 4000000
/-! WsF: built-in functions by values; isinstance; calls of the text's own defs. -/
noncomputable section
namespace Ws
open PySem PySem.Spec PyProof.Rows L2
/-! ### sorting -/
theorem insS_perm (i : Int) : ∀ l : List Int, (insS i l).Perm (i :: l)
  | [] => .refl _
  | j :: r => by
    unfold insS
    split
    · exact .refl _
    · exact ((insS_perm i r).cons j).trans (.swap i j r)
theorem sortS_perm : ∀ l : List Int, (sortS l).Perm l
  | [] => .refl _
  | i :: r => (insS_perm i (sortS r)).trans ((sortS_perm r).cons i)
theorem insS_pw (i : Int) : ∀ l : List Int, l.Pairwise (· ≤ ·) → (insS i l).Pairwise (· ≤ ·)
  | [], _ => by simp [insS]
  | j :: r, h => by
    unfold insS
    split
    · rename_i hij
      refine List.pairwise_cons.mpr ⟨fun x hx => ?_, h⟩
      rcases List.mem_cons.mp hx with rfl | hx
      · exact hij
      · exact Int.le_trans hij ((List.pairwise_cons.mp h).1 x hx)
    · rename_i hij
      refine List.pairwise_cons.mpr ⟨fun x hx => ?_, insS_pw i r (List.pairwise_cons.mp h).2⟩
      rcases List.mem_cons.mp ((insS_perm i r).mem_iff.mp hx) with rfl | hx
      · omega
      · exact (List.pairwise_cons.mp h).1 x hx
theorem sortS_pw : ∀ l : List Int, (sortS l).Pairwise (· ≤ ·)
  | [] => .nil
  | i :: r => insS_pw i _ (sortS_pw r)
theorem sort_one {a b : List Int} (hp : a.Perm b) (ha : a.Pairwise (· ≤ ·)) : a = sortS b :=
  (hp.trans (sortS_perm b).symm).eq_of_pairwise (fun x y _ _ h1 h2 => Int.le_antisymm h1 h2) ha (sortS_pw b)
theorem dedS_mem (k : Int) : ∀ l : List Int, k ∈ dedS l ↔ k ∈ l
  | [] => Iff.rfl
  | i :: r => by
    unfold dedS
    have ih := dedS_mem k r
    split
    · rename_i hi
      rw [ih, List.mem_cons]
      exact ⟨.inr, fun h => h.elim (fun e => e ▸ hi) id⟩
    · rw [List.mem_cons, List.mem_cons, ih]
theorem dedS_nodup : ∀ l : List Int, (dedS l).Nodup
  | [] => .nil
  | i :: r => by
    unfold dedS
    split
    · exact dedS_nodup r
    · rename_i hi
      exact List.nodup_cons.mpr ⟨fun h => hi ((dedS_mem i r).mp h), dedS_nodup r⟩
theorem dedS_len : ∀ l : List Int, (dedS l).length ≤ l.length
  | [] => Nat.le_refl _
  | i :: r => by
    have ih := dedS_len r
    unfold dedS
    split
    · exact Nat.le_succ_of_le ih
    · exact Nat.succ_le_succ ih
theorem sorted_set_one {a b : List Int} (ha : a.Pairwise (· < ·)) (hm : ∀ k, k ∈ a ↔ k ∈ b) : a = sortS (dedS b) := by
  refine sort_one ?_ (ha.imp Int.le_of_lt)
  exact (List.perm_ext_iff_of_nodup (ha.imp fun h => Int.ne_of_lt h) (dedS_nodup b)).mpr fun k => (hm k).trans (dedS_mem k b).symm
theorem minL_mem : ∀ (a : Int) (r : List Int), minL a r ∈ a :: r
  | a, [] => List.mem_cons_self
  | a, b :: r => by
    have ih := minL_mem (if b < a then b else a) r
    unfold minL
    rcases List.mem_cons.mp ih with e | h
    · rw [e]
      split
      · exact List.mem_cons_of_mem _ List.mem_cons_self
      · exact List.mem_cons_self
    · exact List.mem_cons_of_mem _ (List.mem_cons_of_mem _ h)
theorem minL_le : ∀ (a : Int) (r : List Int), ∀ x ∈ a :: r, minL a r ≤ x
  | a, [], x, h => by
    rcases List.mem_cons.mp h with rfl | h
    · exact Int.le_refl _
    · cases h
  | a, b :: r, x, h => by
    unfold minL
    have ih := minL_le (if b < a then b else a) r
    have h0 := ih _ List.mem_cons_self
    rcases List.mem_cons.mp h with rfl | h
    · split at h0 <;> split <;> simp_all <;> omega
    · rcases List.mem_cons.mp h with rfl | h
      · split at h0 <;> split <;> simp_all <;> omega
      · exact ih x (List.mem_cons_of_mem _ h)
/-! ### the built-ins -/
def biV : Bi → Value
  | .len => .builtin "len"
  | .all => .builtin "all"
  | .any => .builtin "any"
  | .sum => .builtin "sum"
  | .min => .builtin "min"
  | .max => .builtin "max"
  | .sorted => .builtin "sorted"
  | .set => .type "set"
  | .list => .type "list"
  | .tuple => .type "tuple"
  | .int => .type "int"
  | .str => .type "str"
abbrev RL := List V → Hp → VK → Prop
def rLen (K : PySem.W.Frag) : RL := fun xs H Q => ∃ x n, xs = [x] ∧ LenV K x H n ∧ Q (.int n) H
def rMin2 : RL := fun xs H Q => ∃ i j, xs = [.int i, .int j] ∧ Q (.int (if j < i then j else i)) H
def rMax2 : RL := fun xs H Q => ∃ i j, xs = [.int i, .int j] ∧ Q (.int (if j > i then j else i)) H
def rLstOf (K : PySem.W.Frag) : RL := fun xs H Q => ∃ p ys, xs = [.ref p] ∧ (SqL K H p ys ∨ SqT K H p ys) ∧ ∀ l, H l = none → Q (.ref l) (upd H l (.lst ys))
def rTupOf (K : PySem.W.Frag) : RL := fun xs H Q => ∃ p ys, xs = [.ref p] ∧ ((SqL K H p ys ∧ ∀ l, H l = none → Q (.ref l) (upd H l (.tup ys))) ∨ (SqT K H p ys ∧ Q (.ref p) H))
def rInt1 : RL := fun xs H Q => (∃ i, xs = [.int i] ∧ Q (.int i) H) ∨ ∃ k, xs = [.bl k] ∧ Q (.int (if k then 1 else 0)) H
def rBi (K : PySem.W.Frag) (w : World) : Bi → RL
  | .len => rLen K
  | .all => rAll K
  | .any => rAny K
  | .sum => rSum K
  | .min => fun xs H Q => rMin2 xs H Q ∨ rMin K xs H Q
  | .max => rMax2
  | .sorted => fun xs H Q => rSortedI K xs H Q ∨ rSortedSet w xs H Q
  | .set => rSetL' K w
  | .list => rLstOf K
  | .tuple => rTupOf K
  | .int => rInt1
  | .str => fun _ _ _ => False
theorem crBi {X : Cx} (hc : X.calm = true) (b : Bi) : CallR X (biV b) (rBi X.K X.w b) := by
  cases b with
  | len => exact call_len
  | all => exact cr_all hc
  | any => exact cr_any hc
  | sum => exact cr_sum hc
  | min => exact CallR.or (call_min2 hc) (cr_min hc)
  | max => exact call_max2 hc
  | sorted => exact CallR.or cr_sortedI (cr_sortedSet hc)
  | set => exact cr_setL hc
  | list => exact call_list_of
  | tuple => exact call_tuple_of
  | int => exact call_int1
  | str => exact fun _ _ _ _ _ _ _ _ _ h => h.elim
theorem Reps.i1 {G : Gam} {μ : Nat → Addr} {n : Nat} {H : Hp} {d : D} {vs : List V} (h : Reps G μ n H [d] vs) : ∃ v, vs = [v] ∧ Rep G μ n H d v := by
  obtain ⟨v, r, rfl, q, t⟩ := h
  cases (show r = [] from t)
  exact ⟨v, rfl, q⟩
theorem Reps.i2 {G : Gam} {μ : Nat → Addr} {n : Nat} {H : Hp} {d e : D} {vs : List V} (h : Reps G μ n H [d, e] vs) : ∃ v u, vs = [v, u] ∧ Rep G μ n H d v ∧ Rep G μ n H e u := by
  obtain ⟨v, r, rfl, q, t⟩ := h
  obtain ⟨u, rfl, q2⟩ := Reps.i1 t
  exact ⟨v, u, rfl, q, q2⟩
theorem lst_ints {G : Gam} {μ : Nat → Addr} {st : AS} {H : Hp} {l : Nat} {xs : List D} {ns : List Int} (R : Rl G μ st H) (e : st[l]? = some (.lst xs)) (h : intsD xs = some ns) : H (μ l) = some (.lst (ns.map V.int)) ∧ ns.length ≤ szMax := by
  obtain ⟨z, vs, h1, rs⟩ := R.lst e
  rw [intsD_eq h] at rs z
  rw [h1, rs.ints]
  exact ⟨rfl, by simpa using z⟩
theorem rcBi {G : Gam} (b : Bi) {W : WX} {σ : L2.St} {μ : Nat → Addr} {st : AS} {H : Hp} {ds : List D} {vs : List V} {Q : VK} (R : Rl G μ st H) (r : Reps G μ st.length H ds vs)
    (p : PostR G W σ μ st.length H (PV G Q) (biD st b ds)) : rBi G.K G.w b vs H Q := by
  unfold biD at p
  split at p
  · -- len of a text
    rename_i y
    obtain ⟨v, rfl, rv⟩ := r.i1
    split at p
    · rename_i hz
      cases rv
      exact ⟨_, y.length, rfl, ⟨by rw [← szLine]; exact hz, rfl⟩, p.here R _ rfl⟩
    · exact PostR.no p
  · rename_i xs
    obtain ⟨v, rfl, rv⟩ := r.i1
    obtain ⟨z, a, us, rfl, t, rs⟩ := rv
    exact ⟨_, us.length, rfl, .inr ⟨us, t.sq, rfl⟩, by rw [← rs.length]; exact p.here R _ rfl⟩
  · rename_i l
    obtain ⟨v, rfl, rv⟩ := r.i1
    obtain ⟨hl, rfl⟩ := rv
    split at p
    · rename_i xs hx
      obtain ⟨z, us, h1, rs⟩ := R.lst hx
      exact ⟨_, us.length, rfl, .inl ⟨us, .inl (.inl h1), rfl⟩, by rw [← rs.length]; exact p.here R _ rfl⟩
    · rename_i xs hx
      obtain ⟨z, ob, us, h1, rs⟩ := R.frz hx
      exact ⟨_, us.length, rfl, .inl ⟨us, .inl (.inr ⟨ob, h1⟩), rfl⟩, by rw [← rs.length]; exact p.here R _ rfl⟩
    · exact PostR.no p
  · rename_i l
    obtain ⟨v, rfl, rv⟩ := r.i1
    obtain ⟨hl, rfl⟩ := rv
    split at p
    · rename_i xs hx
      split at p
      · rename_i bs hb
        obtain ⟨z, us, h1, rs⟩ := R.lst hx
        rw [boolsD_eq hb] at rs
        exact ⟨_, bs, rfl, .inl (.inl (by rw [h1, rs.bools])), p.here R _ rfl⟩
      · exact PostR.no p
    · exact PostR.no p
  · rename_i l
    obtain ⟨v, rfl, rv⟩ := r.i1
    obtain ⟨hl, rfl⟩ := rv
    split at p
    · rename_i xs hx
      split at p
      · rename_i bs hb
        obtain ⟨z, us, h1, rs⟩ := R.lst hx
        rw [boolsD_eq hb] at rs
        exact ⟨_, bs, rfl, .inl (.inl (by rw [h1, rs.bools])), p.here R _ rfl⟩
      · exact PostR.no p
    · exact PostR.no p
  · rename_i l
    obtain ⟨v, rfl, rv⟩ := r.i1
    obtain ⟨hl, rfl⟩ := rv
    split at p
    · rename_i xs hx
      split at p
      · rename_i bs hb
        exact ⟨_, bs, rfl, .inl (.inl (lst_ints R hx hb).1), p.here R _ rfl⟩
      · exact PostR.no p
    · exact PostR.no p
  · rename_i i j
    obtain ⟨v, u, rfl, rv, ru⟩ := r.i2
    cases rv; cases ru
    exact .inl ⟨i, j, rfl, p.here R _ rfl⟩
  · rename_i i j
    obtain ⟨v, u, rfl, rv, ru⟩ := r.i2
    cases rv; cases ru
    exact ⟨i, j, rfl, p.here R _ rfl⟩
  · rename_i l
    obtain ⟨v, rfl, rv⟩ := r.i1
    obtain ⟨hl, rfl⟩ := rv
    split at p
    · rename_i xs hx
      split at p
      · rename_i a t hb
        refine .inr ⟨_, a :: t, rfl, .inl (.inl (lst_ints R hx hb).1), Nat.succ_pos _, fun m hm hle => ?_⟩
        have e : m = minL a t := Int.le_antisymm (hle _ (minL_mem a t)) (minL_le a t m hm)
        rw [e]
        exact p.here R _ rfl
      · exact PostR.no p
    · exact PostR.no p
  · rename_i l
    obtain ⟨v, rfl, rv⟩ := r.i1
    obtain ⟨hl, rfl⟩ := rv
    split at p
    · rename_i xs hx
      split at p
      · rename_i bs hb
        obtain ⟨h1, h2⟩ := lst_ints R hx hb
        refine .inl ⟨_, bs, rfl, .inl (.inl h1), fun ns q hp hs hq => ?_⟩
        have e := sort_one hp hs
        subst e
        exact newL_ok R (Reps.ofInts _) (by rw [List.length_map, hp.length_eq]; exact h2) p q hq
      · exact PostR.no p
    · rename_i xs hx
      split at p
      · rename_i h64
        obtain ⟨c, hc, h1⟩ := R.obj l _ hx
        refine .inr ⟨_, _, c, rfl, h1, Nat.lt_of_le_of_lt hc h64, fun ns q hs hm _ hq => ?_⟩
        have e := sorted_set_one hs fun k => (hm k).trans decide_eq_true_iff
        subst e
        refine newL_ok R (Reps.ofInts _) ?_ p q hq
        rw [List.length_map, (sortS_perm _).length_eq]
        have := dedS_len xs
        unfold szMax
        omega
      · exact PostR.no p
    · exact PostR.no p
  · rename_i l
    obtain ⟨v, rfl, rv⟩ := r.i1
    obtain ⟨hl, rfl⟩ := rv
    split at p
    · rename_i xs hx
      split at p
      · rename_i bs hb
        split at p
        · rename_i h1000
          obtain ⟨h1, h2⟩ := lst_ints R hx hb
          refine ⟨_, bs, rfl, .inl (.inl h1), h1000, fun a c ha hc => ?_⟩
          have nx := nx_new (μ := μ) (st := st) (o := SetO G.w a (fun k => decide (k ∈ bs)) c) (ob := .iset bs) ha
          have R2 : Rl G (extM μ st.length a) (st ++ [.iset bs]) (upd H a (SetO G.w a (fun k => decide (k ∈ bs)) c)) := R.new ha ⟨c, hc, upd_same⟩
          exact p _ _ nx R2 _ ⟨by simp, by rw [extM_at]⟩
        · exact PostR.no p
      · exact PostR.no p
    · exact PostR.no p
  · rename_i d
    obtain ⟨v, rfl, rv⟩ := r.i1
    split at p
    · rename_i xs hx
      obtain ⟨a, us, rfl, sq, rs, z⟩ := listD_sq R hx rv
      exact ⟨a, us, rfl, sq, fun l hl => newL_ok R rs z p l hl⟩
    · exact PostR.no p
  · rename_i xs
    obtain ⟨v, rfl, rv⟩ := r.i1
    obtain ⟨z, a, us, rfl, t, rs⟩ := rv
    exact ⟨a, us, rfl, .inr ⟨t.sq, p.here R _ ⟨z, a, us, rfl, t, rs⟩⟩⟩
  · rename_i l
    obtain ⟨v, rfl, rv⟩ := r.i1
    obtain ⟨hl, rfl⟩ := rv
    split at p
    · rename_i xs hx
      obtain ⟨z, us, h1, rs⟩ := R.lst hx
      refine ⟨_, us, rfl, .inl ⟨.inl (.inl h1), fun b hb => ?_⟩⟩
      have nx : Nx μ st.length H μ st.length (upd H b (.tup us)) := nx_upd hb
      exact p μ _ nx (R.side hb) _ ⟨z, b, us, rfl, .inl upd_same, Reps.mono nx.toNx0 _ _ rs⟩
    · exact PostR.no p
  · rename_i i
    obtain ⟨v, rfl, rv⟩ := r.i1
    cases rv
    exact .inl ⟨i, rfl, p.here R _ rfl⟩
  · rename_i i
    obtain ⟨v, rfl, rv⟩ := r.i1
    cases rv
    exact .inr ⟨i, rfl, p.here R _ rfl⟩
  · exact PostR.no p
section
variable {G : Gam} {W : WX} {X : Cx}
theorem tCB_ok {σ : L2.St} {H : Hp} {Q : VK} {r : RL} {ms : Env → AS → Res (List D)} {k : List D → AS → Res D} (h : tV G W (fun env st => (ms env st).bind k) σ H Q)
    (c : ∀ μ st H ds vs, Rl G μ st H → Reps G μ st.length H ds vs → PostR G W σ μ st.length H (PV G Q) (k ds st) → r vs H Q) : tCB r (tAs G W ms) σ H Q := by
  obtain ⟨μ, env, st, R, e, p⟩ := h
  exact tAs_mono (tAs_bind (k := fun _ ds st => k ds st) R e p) fun vs H1 ⟨μ1, st1, ds, R1, e1, x1, r1, q1⟩ => c μ1 st1 H1 ds vs R1 r1 q1
theorem w_bi {b : Bi} {id : String} {x : Str} {e : Expr} {es : List Expr} {ms : Env → AS → Res (List D)} {p pos : Pos} (hb : biV b = .builtin id) (hK : X.K = G.K) (hw : X.w = G.w) (hc : X.calm = true) (hg : Gl X x) (hm : X.mg x = none) (hv : bootBuiltins x = some (.builtin id)) (ha : PA X (e :: es) (tAs G W ms)) (hn : x ≠ "__name__") (hdb : (x == ("__debug__" : Str)) = false)
    (he : starEach (e :: es) X.env = (false, eval e X.env) :: starEach es X.env) (hpl : (backTo pos (starEach es X.env)).any (·.1) = false) :
    PE X (.Call (.Name x p) (e :: es) [] pos) (tV G W fun env st => (ms env st).bind fun ds st => biD st b ds) := by
  have cr := crBi hc b
  rw [hb, hK, hw] at cr
  exact (pe_callB cr hg hm hv ha hn hdb he hpl).imp fun σ H Q h => tCB_ok h fun μ st H ds vs R r q => rcBi b R r q
theorem w_biTy {b : Bi} {T : String} {x : Str} {e : Expr} {es : List Expr} {ms : Env → AS → Res (List D)} {p pos : Pos} (hb : biV b = .type T) (hK : X.K = G.K) (hw : X.w = G.w) (hc : X.calm = true) (hg : Gl X x) (hm : X.mg x = none) (hv : bootBuiltins x = some (.type T)) (ha : PA X (e :: es) (tAs G W ms)) (hn : x ≠ "__name__") (hdb : (x == ("__debug__" : Str)) = false)
    (he : starEach (e :: es) X.env = (false, eval e X.env) :: starEach es X.env) (hpl : (backTo pos (starEach es X.env)).any (·.1) = false) :
    PE X (.Call (.Name x p) (e :: es) [] pos) (tV G W fun env st => (ms env st).bind fun ds st => biD st b ds) := by
  have cr := crBi hc b
  rw [hb, hK, hw] at cr
  exact (pe_callTy cr hg hm hv ha hn hdb he hpl).imp fun σ H Q h => tCB_ok h fun μ st H ds vs R r q => rcBi b R r q

/-! ### isinstance -/
def isiT : List String := ["int", "bool", "str", "tuple", "list"]
theorem kit_all {K : PySem.W.Frag} {a T : String} (ha : a ∈ ["NoneType", "bool", "int", "str", "tuple", "list", "dict"]) (hT : T ∈ isiT) :
    PySem.W.kitOne K (.type a) (.type T) = some (T == a || (a == "bool" && T == "int")) := by
  have h : (["NoneType", "bool", "int", "str", "tuple", "list", "dict"].all fun a => isiT.all fun T => decide (kitB a T = some (T == a || (a == "bool" && T == "int")))) = true := by decide +kernel
  exact kit_ty (of_decide_eq_true (List.all_eq_true.mp (List.all_eq_true.mp h a ha) T hT))
theorem isi_ty {μ : Nat → Addr} {st : AS} {H : Hp} {d : D} {v : V} {T : String} {b : Bool} (R : Rl G μ st H) (hT : T ∈ isiT) (r : Rep G μ st.length H d v) (e : isiD st T d = some b) :
    ∃ t, TyX G.K H v t ∧ PySem.W.kitOne G.K t (.type T) = some b := by
  cases d with
  | non =>
    cases r; cases e
    refine ⟨_, .base .non, ?_⟩
    have z := kit_all (K := G.K) (a := "NoneType") (by decide) hT
    rw [z]; simp
  | bl x =>
    cases r; cases e
    refine ⟨_, .base (.bl x), ?_⟩
    have z := kit_all (K := G.K) (a := "bool") (by decide) hT
    rw [z]; simp
  | int x =>
    cases r; cases e
    refine ⟨_, .base (.int x), ?_⟩
    have z := kit_all (K := G.K) (a := "int") (by decide) hT
    rw [z]; simp
  | str x =>
    cases r; cases e
    refine ⟨_, .base (.str x), ?_⟩
    have z := kit_all (K := G.K) (a := "str") (by decide) hT
    rw [z]; simp
  | tup ds =>
    obtain ⟨z, a, vs, rfl, t, rs⟩ := r
    cases e
    have z := kit_all (K := G.K) (a := "tuple") (by decide) hT
    rcases t with t | ⟨o, its, n, h1, h2, h3⟩
    · exact ⟨_, .base (.tup t), by rw [z]; simp⟩
    · exact ⟨_, .kTuple h1 h2, by rw [z]; simp⟩
  | ref l =>
    obtain ⟨hl, rfl⟩ := r
    simp only [isiD] at e
    split at e
    · rename_i xs hx
      cases e
      obtain ⟨z, us, h1, rs⟩ := R.lst hx
      have z := kit_all (K := G.K) (a := "list") (by decide) hT
      exact ⟨_, .base (.lst h1), by rw [z]; simp⟩
    · rename_i kvs lk hx
      cases e
      have z := kit_all (K := G.K) (a := "dict") (by decide) hT
      cases lk with
      | false =>
        obtain ⟨z2, us, h1, rs⟩ := R.obj l _ hx
        exact ⟨_, .base (.dK h1), by rw [z]; simp⟩
      | true =>
        obtain ⟨z2, ob, us, h1, rs⟩ := R.obj l _ hx
        exact ⟨_, .fDict h1, by rw [z]; simp⟩
    · cases e
  | clo _ _ => cases e
  | kls _ => cases e
theorem w_isi {T : String} {y : Str} {e : Expr} {m : MV} {p p2 pos : Pos} (hT : T ∈ isiT) (hK : X.K = G.K) (hg : Gl X "isinstance") (hm : X.mg "isinstance" = none) (hg2 : Gl X y) (hm2 : X.mg y = none) (hv2 : bootBuiltins y = some (.type T)) (hn2 : y ≠ "__name__") (hd2 : (y == ("__debug__" : Str)) = false)
    (ha : PE X e (tV G W m)) (he : starEach [e, .Name y p2] X.env = (false, eval e X.env) :: starEach [.Name y p2] X.env) (hpl : (backTo pos (starEach [.Name y p2] X.env)).any (·.1) = false) :
    PE X (.Call (.Name "isinstance" p) [e, .Name y p2] [] pos) (tV G W fun env st => (m env st).bind fun d st => ofB st (isiD st T d)) := by
  have a1 : PA X [e, .Name y p2] (tCons (tV G W m) (tCons (tC (.ty T)) tNil)) := pa_cons ha (pa_cons (pe_bltn hg2 hm2 hv2 rfl hn2 hd2) pa_nil) he
  refine (pe_callB call_isi hg hm (by decide +kernel) a1 (by decide) (by decide) he hpl).imp fun σ H Q h => ?_
  obtain ⟨μ, env, st, R, e, p⟩ := h
  refine tV_mono (tV_bind (k := fun _ d st => ofB st (isiD st T d)) R e p) fun v H1 ⟨μ1, st1, x, R1, e1, x1, r1, q1⟩ => ?_
  obtain ⟨b, eb, q2⟩ := ofB_ok R1 q1
  obtain ⟨t, h1, h2⟩ := isi_ty R1 hT r1 eb
  rw [hK]
  exact ⟨v, .ty T, t, .type T, b, rfl, .ty T, h1, h2, q2⟩
/-! ### the text's own defs -/
def spI (G : Gam) (cl : Call) (f : Nat) : Sp := fun vs H Q E => vs.length = (G.fP f).length ∧ ∃ μ st ds, Rl G μ st H ∧ Reps G μ st.length H ds vs ∧ PostR G (fun c d _ H => E c d H) [] μ st.length H (PV G Q) (cl f ds st)
theorem w_call {cl : Call} {f : Nat} {k : Nat} {x : Str} {e : Expr} {es : List Expr} {ms : Env → AS → Res (List D)} {p pos : Pos} (F : FnOk X.prog X.w X.K X.mg X.base (L2.CX X.prog X.w) k (G.fA f) (G.fD f) (G.fP f) (spI G cl f)) (hr : Room k X.A) (hg : Gl X x) (hm : X.mg x = some (.ref (G.fA f)))
    (hk : PySem.W.keepIn X.K (.ref (G.fA f)) = true) (hb : Binds X.K (G.fD f) (G.fP f) []) (tk : Takes X W) (ha : PA X (e :: es) (tAs G W ms)) (hl : ∀ env st ds st', ms env st = .ok ds st' → ds.length = (G.fP f).length) (hdb : (x == ("__debug__" : Str)) = false)
    (he : starEach (e :: es) X.env = (false, eval e X.env) :: starEach es X.env) (hpl : (backTo pos (starEach es X.env)).any (·.1) = false) :
    PE X (.Call (.Name x p) (e :: es) [] pos) (tV G W fun env st => (ms env st).bind fun ds st => cl f ds st) := by
  refine (pe_callS (E := WE W) F hr hg hm hk hb (fun σ => passAt tk σ) ha hdb he hpl).imp fun σ H Q h => ?_
  obtain ⟨μ, env, st, R, e, p⟩ := h
  dsimp only at p
  have hz := hl env st
  refine ⟨μ, env, st, R, e, ?_⟩
  cases hm : ms env st with
  | ok ds s1 =>
    rw [hm] at p
    have z := hz ds s1 hm
    intro μ1 H1 x1 R1 vs rs
    refine ⟨by rw [← rs.length]; exact z, μ1, s1, ds, R1, rs, ?_⟩
    have q := PostR.trans x1 p
    cases hr : cl f ds s1 with
    | ok d s2 => simp only [bind_ok, hr] at q; exact q
    | exn c d s2 => simp only [bind_ok, hr] at q; exact q
    | bad => simp only [bind_ok, hr] at q; exact q
  | exn c d s1 => rw [hm] at p; exact p
  | bad => rw [hm] at p; exact p
end
end Ws
end
end

section
set_option Elab.async false
set_option linter.all false
set_option maxRecDepth 100000
set_option maxHeartbeats 4000000
/-! WsG: targets, what is walked, comprehensions. -/
noncomputable section
namespace Ws
open PySem PySem.Spec PyProof.Rows L2
/-! ### targets -/
def tlen : Tgs → Nat
  | .nil => 0
  | .cons _ r => tlen r + 1
mutual
def gT (K : PySem.W.Frag) : Tg → TG
  | .name i => gName i
  | .tup ts => gTup K (tlen ts) (gTs K ts)
def gTs (K : PySem.W.Frag) : Tgs → TGs
  | .nil => gNil
  | .cons t r => gCons (gT K t) (gTs K r)
end
mutual
def tslots : Tg → List Nat
  | .name i => [i]
  | .tup ts => tslotss ts
def tslotss : Tgs → List Nat
  | .nil => []
  | .cons t r => tslots t ++ tslotss r
end
theorem wipe_comm {σ : L2.St} {i : Nat} {x : Option V} : ∀ {vs : List Nat}, i ∉ vs → wipe (σ.set i x) vs = (wipe σ vs).set i x
  | [], _ => rfl
  | v :: vs, h => by
    unfold wipe
    rw [wipe_comm fun z => h (List.mem_cons_of_mem _ z), List.set_comm _ _ fun e => h (by rw [e]; exact List.mem_cons_self)]
theorem wipe_set {σ : L2.St} {i : Nat} {x : Option V} : ∀ {vs : List Nat}, i ∈ vs → wipe (σ.set i x) vs = wipe σ vs
  | v :: vs, h => by
    by_cases hi : i ∈ vs
    · unfold wipe; rw [wipe_set hi]
    · rcases List.mem_cons.mp h with e | e
      · unfold wipe; rw [wipe_comm hi, e, List.set_set]
      · exact absurd e hi
theorem assigns_len : ∀ {ts : Tgs} {ds : List D} {env env' : Env}, assigns ts ds env = some env' → ds.length = tlen ts
  | .nil, [], _, _, _ => rfl
  | .nil, _ :: _, _, _, h => by simp [assigns] at h
  | .cons t r, [], _, _, h => by simp [assigns] at h
  | .cons t r, d :: ds, env, env', h => by
    simp only [assigns] at h
    split at h
    · have z := assigns_len h
      show ds.length + 1 = tlen r + 1
      rw [z]
    · cases h
section
variable {G : Gam} {μ : Nat → Addr} {n : Nat} {H : Hp}
mutual
theorem gT_ok : ∀ (t : Tg) (d : D) (v : V) (env env' : Env) (σ : L2.St) (Q : L2.St → Hp → Prop), assign t d env = some env' → Rep G μ n H d v → ER G μ n H env σ →
    (∀ σ', ER G μ n H env' σ' → (∀ vs, (∀ i ∈ tslots t, i ∈ vs) → wipe σ' vs = wipe σ vs) → Q σ' H) → gT G.K t v σ H Q
  | .name i, d, v, env, env', σ, Q, h, r, e, k => by
    simp only [assign, Option.some.injEq] at h
    subst h
    exact k _ (e.set r) fun vs hs => wipe_set (hs i List.mem_cons_self)
  | .tup ts, .tup ds, v, env, env', σ, Q, h, ⟨z, a, vs, ev, t, rs⟩, e, k => by
    simp only [assign] at h
    exact ⟨a, vs, ev, t.sq, by rw [← rs.length]; exact assigns_len h, gTs_ok ts ds vs env env' σ Q h rs e k⟩
  | .tup ts, .non, v, env, env', σ, Q, h, r, e, k => by simp [assign] at h
  | .tup ts, .bl _, v, env, env', σ, Q, h, r, e, k => by simp [assign] at h
  | .tup ts, .int _, v, env, env', σ, Q, h, r, e, k => by simp [assign] at h
  | .tup ts, .str _, v, env, env', σ, Q, h, r, e, k => by simp [assign] at h
  | .tup ts, .ref _, v, env, env', σ, Q, h, r, e, k => by simp [assign] at h
  | .tup ts, .clo _ _, v, env, env', σ, Q, h, r, e, k => by simp [assign] at h
  | .tup ts, .kls _, v, env, env', σ, Q, h, r, e, k => by simp [assign] at h
theorem gTs_ok : ∀ (ts : Tgs) (ds : List D) (vs : List V) (env env' : Env) (σ : L2.St) (Q : L2.St → Hp → Prop), assigns ts ds env = some env' → Reps G μ n H ds vs → ER G μ n H env σ →
    (∀ σ', ER G μ n H env' σ' → (∀ vs, (∀ i ∈ tslotss ts, i ∈ vs) → wipe σ' vs = wipe σ vs) → Q σ' H) → gTs G.K ts vs σ H Q
  | .nil, [], vs, env, env', σ, Q, h, r, e, k => by
    simp only [assigns, Option.some.injEq] at h
    subst h
    exact ⟨r, k σ e fun _ _ => rfl⟩
  | .nil, _ :: _, vs, env, env', σ, Q, h, r, e, k => by simp [assigns] at h
  | .cons t r, [], vs, env, env', σ, Q, h, rs, e, k => by simp [assigns] at h
  | .cons t r, d :: ds, vs, env, env', σ, Q, h, ⟨v, us, ev, r1, r2⟩, e, k => by
    simp only [assigns] at h
    split at h
    · rename_i env1 h1
      refine ⟨v, us, ev, gT_ok t d v env env1 σ _ h1 r1 e fun σ1 e1 w1 => gTs_ok r ds us env1 env' σ1 Q h r2 e1 fun σ2 e2 w2 => k σ2 e2 fun vs hs => ?_⟩
      rw [w2 vs fun i hi => hs i (List.mem_append_right _ hi), w1 vs fun i hi => hs i (List.mem_append_left _ hi)]
    · cases h
end
end

/-! ### what is walked -/
/-- the iterator J yields the items xs one by one, while the walked list stands -/
structure Wlk (G : Gam) (J : It) (xs : List D) (w : Option (Nat × List D)) (μ0 : Nat → Addr) (n0 : Nat) (H0 : Hp) : Prop where
  len : xs.length ≤ szMax
  go : ∀ i μ st H, Nx μ0 n0 H0 μ st.length H → Rl G μ st H → watchOk w st → i < xs.length → J.go i H
  stop : ∀ μ st H, Nx μ0 n0 H0 μ st.length H → Rl G μ st H → watchOk w st → J.stop xs.length H
  yld : ∀ i μ st H x H', Nx μ0 n0 H0 μ st.length H → Rl G μ st H → watchOk w st → J.yld i H x H' → (H' = H ∨ ∃ T us, H T = none ∧ H' = upd H T (.tup us)) ∧ ∀ d, xs[i]? = some d → Rep G μ st.length H' d x
def tI (G : Gam) (W : WX) (m : Env → AS → Res (List D × Option (Nat × List D))) : TI := fun σ H R => ∃ μ env st, Rl G μ st H ∧ ER G μ st.length H env σ ∧
  PostR G W σ μ st.length H (fun xw st' μ' H' => ∀ J, Wlk G J xw.1 xw.2 μ' st'.length H' → R J H') (m env st)
section
variable {G : Gam} {W : WX} {X : Cx}
theorem PA.one {e : Expr} {m : MV} (h : PE X e (tV G W m)) (hs : starEach [e] X.env = [(false, eval e X.env)]) : PA X [e] (fun σ H Q => tV G W m σ H fun v H1 => Q [v] H1) := pa_cons h pa_nil hs
theorem PA.two {e f : Expr} {m m' : MV} (h : PE X e (tV G W m)) (h' : PE X f (tV G W m')) (hs : starEach [e, f] X.env = (false, eval e X.env) :: starEach [f] X.env) (hs2 : starEach [f] X.env = [(false, eval f X.env)]) :
    PA X [e, f] (fun σ H Q => tV G W m σ H fun v H1 => tV G W m' σ H1 fun u H2 => Q [v, u] H2) := pa_cons h (pa_cons h' pa_nil hs2) hs
theorem wlk_list {μ : Nat → Addr} {st : AS} {H : Hp} {l : Nat} {xs : List D} (R : Rl G μ st H) (hl : l < st.length) (e : itemsD st (.ref l) = some xs) : Wlk G (Itl G.K (μ l)) xs (some (l, xs)) μ st.length H := by
  have len : xs.length ≤ szMax := by
    obtain ⟨a, vs, _, _, _, z⟩ := itemsD_sq R e (⟨hl, rfl⟩ : Rep G μ st.length H (.ref l) (.ref (μ l)))
    exact z
  have rd : ∀ μ2 st2 H2, Nx μ st.length H μ2 st2.length H2 → Rl G μ2 st2 H2 → watchOk (some (l, xs)) st2 → ∃ vs, SqL G.K H2 (μ l) vs ∧ Reps G μ2 st2.length H2 xs vs := fun μ2 st2 H2 nx R2 w => by
    have w' : itemsD st2 (.ref l) = some xs := w
    have hl2 : l < st2.length := Nat.lt_of_lt_of_le hl nx.le
    rw [← nx.ext l hl]
    simp only [itemsD] at w'
    split at w'
    · rename_i ys hy
      cases w'
      obtain ⟨z, vs, h1, rs⟩ := R2.lst hy
      exact ⟨vs, .inl (.inl h1), rs⟩
    · rename_i ys hy
      cases w'
      obtain ⟨z, ob, vs, h1, rs⟩ := R2.frz hy
      exact ⟨vs, .inl (.inr ⟨ob, h1⟩), rs⟩
    · cases w'
  refine ⟨len, fun i μ2 st2 H2 nx R2 w hi => ?_, fun μ2 st2 H2 nx R2 w => ?_, fun i μ2 st2 H2 x H3 nx R2 w y => ?_⟩
  · obtain ⟨vs, sq, rs⟩ := rd μ2 st2 H2 nx R2 w
    obtain ⟨v, h1, _⟩ := rs.get (List.getElem?_eq_getElem hi)
    exact ⟨vs, v, sq, h1⟩
  · obtain ⟨vs, sq, rs⟩ := rd μ2 st2 H2 nx R2 w
    exact ⟨vs, sq, Nat.le_of_eq rs.length.symm⟩
  · obtain ⟨vs, sq, rs⟩ := rd μ2 st2 H2 nx R2 w
    obtain ⟨e1, y⟩ := y
    subst e1
    refine ⟨.inl rfl, fun d hd => ?_⟩
    obtain ⟨v, h1, h2⟩ := rs.get hd
    rw [y vs sq] at h1
    cases h1
    exact h2
theorem wlk_tup {μ : Nat → Addr} {st : AS} {H : Hp} {xs : List D} {a : Addr} {vs : List V} (z : xs.length ≤ szMax) (t : TupAt G H a vs) (rs : Reps G μ st.length H xs vs) : Wlk G (Itt G.K a) xs none μ st.length H := by
  refine ⟨z, fun i μ2 st2 H2 nx R2 w hi => ?_, fun μ2 st2 H2 nx R2 w => ?_, fun i μ2 st2 H2 x H3 nx R2 w y => ?_⟩
  · obtain ⟨v, h1, _⟩ := rs.get (List.getElem?_eq_getElem hi)
    exact ⟨vs, v, (t.mono nx.toNx0).sq, h1⟩
  · exact ⟨vs, (t.mono nx.toNx0).sq, Nat.le_of_eq rs.length.symm⟩
  · obtain ⟨e1, y⟩ := y
    subst e1
    refine ⟨.inl rfl, fun d hd => ?_⟩
    obtain ⟨v, h1, h2⟩ := (Reps.mono nx.toNx0 _ _ rs).get hd
    rw [y vs (t.mono nx.toNx0).sq] at h1
    cases h1
    exact h2
theorem w_sOf {tg e : Expr} {m : MV} (hK : X.K = G.K) (h : PE X e (tV G W m)) : PI X tg e (tI G W fun env st => (m env st).bind fun d st => match itemsD st d with
    | some xs => .ok (xs, match d with
      | .ref l => some (l, xs)
      | _ => none) st
    | none => .bad) := by
  refine ((pi_list h).or (pi_tup h)).imp fun σ H Rr h => ?_
  obtain ⟨μ, env, st, R, e, p⟩ := h
  dsimp only at p
  have key : ∀ (d : D) (s1 : AS), m env st = .ok d s1 → (∃ l, d = .ref l) ∨ (∃ ds, d = .tup ds) ∨ False := fun d s1 hm => by
    rw [hm] at p
    simp only [bind_ok] at p
    cases d with
    | ref l => exact .inl ⟨l, rfl⟩
    | tup ds => exact .inr (.inl ⟨ds, rfl⟩)
    | _ => exact (PostR.no p : False).elim
  cases hm : m env st with
  | ok d s1 =>
    rw [hm] at p
    simp only [bind_ok] at p
    rcases key d s1 hm with ⟨l, rfl⟩ | ⟨ds, rfl⟩ | hf
    · refine .inl ⟨μ, env, st, R, e, ?_⟩
      rw [hm]
      intro μ1 H1 x1 R1 v rv
      obtain ⟨hl, rfl⟩ := rv
      have p1 := PostR.trans x1 p
      split at p1
      · rename_i xs hx
        obtain ⟨a, vs, ev, sq, rs, z⟩ := itemsD_sq R1 hx (⟨hl, rfl⟩ : Rep G μ1 s1.length H1 (.ref l) (.ref (μ1 l)))
        rw [hK]
        refine ⟨_, rfl, ?_, p1.here R1 _ (wlk_list R1 hl hx)⟩
        simp only [itemsD] at hx
        split at hx
        · rename_i ys hy
          obtain ⟨z, us, h1, _⟩ := R1.lst hy
          exact ⟨us, .inl (.inl h1)⟩
        · rename_i ys hy
          obtain ⟨z, ob, us, h1, _⟩ := R1.frz hy
          exact ⟨us, .inl (.inr ⟨ob, h1⟩)⟩
        · cases hx
      · exact PostR.no p1
    · refine .inr ⟨μ, env, st, R, e, ?_⟩
      rw [hm]
      intro μ1 H1 x1 R1 v rv
      obtain ⟨z, a, vs, rfl, t, rs⟩ := rv
      have p1 : PostR G W σ μ1 s1.length H1 _ (.ok (ds, none) s1) := PostR.trans x1 p
      rw [hK]
      exact ⟨a, rfl, ⟨vs, t.sq⟩, p1.here R1 _ (wlk_tup z t rs)⟩
    · exact hf.elim
  | exn c q s1 =>
    refine .inl ⟨μ, env, st, R, e, ?_⟩
    rw [hm] at p ⊢
    exact p
  | bad => rw [hm] at p; exact p.elim
theorem rangeD_get {a : Int} {n i : Nat} {d : D} (h : (rangeD a n)[i]? = some d) : d = .int (a + (i : Nat)) ∧ i < n := by
  unfold rangeD at h
  rw [List.getElem?_map, Option.map_eq_some_iff] at h
  obtain ⟨j, h1, rfl⟩ := h
  obtain ⟨h2, h3⟩ := List.getElem?_eq_some_iff.mp h1
  rw [List.length_range] at h2
  rw [List.getElem_range] at h3
  subst h3
  exact ⟨rfl, h2⟩
theorem wlk_range {μ : Nat → Addr} {n0 : Nat} {H : Hp} {a : Int} {n : Nat} (z : (rangeD a n).length ≤ szMax) : Wlk G (Itr a n) (rangeD a n) none μ n0 H := by
  have hl : (rangeD a n).length = n := by unfold rangeD; rw [List.length_map, List.length_range]
  refine ⟨z, fun i μ2 st2 H2 nx R2 w hi => by rw [hl] at hi; exact hi, fun μ2 st2 H2 nx R2 w => Nat.le_of_eq hl.symm, fun i μ2 st2 H2 x H3 nx R2 w y => ?_⟩
  obtain ⟨e1, rfl⟩ := y
  subst e1
  refine ⟨.inl rfl, fun d hd => ?_⟩
  rw [(rangeD_get hd).1]
  rfl
theorem small_iff {i : Int} (h : small i = true) : -(2 ^ 62) ≤ i ∧ i < 2 ^ 62 := by
  unfold small at h
  exact @of_decide_eq_true _ (Classical.propDecidable _) h
theorem w_sRng1 {tg a : Expr} {m : MV} {p pos : Pos} (hg : Gl X "range") (hm : X.mg "range" = none) (h : PE X a (tV G W m)) (hs : starEach [a] X.env = [(false, eval a X.env)]) :
    PI X tg (.Call (.Name "range" p) [a] [] pos) (tI G W fun env st => (m env st).bind fun x st => match x with
      | .int n => if small n = true then sized (rangeD 0 n.toNat) none st else .bad
      | _ => .bad) := by
  refine (pi_range1 hg hm (PA.one h hs) hs).imp fun σ H Rr h => ?_
  obtain ⟨μ, env, st, R, e, p⟩ := h
  refine tV_mono (tV_bind (k := fun _ x st => match x with
      | .int n => if small n = true then sized (rangeD 0 n.toNat) none st else .bad
      | _ => .bad) R e p) fun v H1 ⟨μ1, st1, x, R1, e1, x1, r1, q1⟩ => ?_
  cases x with
  | int n =>
    dsimp only at q1
    split at q1
    · rename_i hs
      unfold sized at q1
      split at q1
      · rename_i hz
        exact ⟨n, by rw [show v = V.int n from r1], (small_iff hs).1, (small_iff hs).2, q1.here R1 _ (wlk_range hz)⟩
      · exact PostR.no q1
    · exact PostR.no q1
  | _ => exact PostR.no q1
theorem w_sRng2 {tg a b : Expr} {ma mb : MV} {p pos : Pos} (hg : Gl X "range") (hm : X.mg "range" = none) (ha : PE X a (tV G W ma)) (hb : PE X b (tV G W mb)) (hs : starEach [a, b] X.env = (false, eval a X.env) :: starEach [b] X.env) (hs2 : starEach [b] X.env = [(false, eval b X.env)]) :
    PI X tg (.Call (.Name "range" p) [a, b] [] pos) (tI G W fun env st => (ma env st).bind fun x st => (mb env st).bind fun y st => match x, y with
      | .int i, .int j => if small i = true ∧ small j = true then sized (rangeD i (j - i).toNat) none st else .bad
      | _, _ => .bad) := by
  refine (pi_range2 hg hm (PA.two ha hb hs hs2) (by rw [hs, hs2]) hs2).imp fun σ H Rr h => ?_
  obtain ⟨μ, env, st, R, e, p⟩ := h
  refine tV_mono (tV_two (g := fun _ x y st => match x, y with
      | .int i, .int j => if small i = true ∧ small j = true then sized (rangeD i (j - i).toNat) none st else .bad
      | _, _ => .bad) R e p) fun v H1 h1 => tV_mono h1 fun u H2 ⟨μ2, st2, x, y, R2, e2, x2, r1, r2, q1⟩ => ?_
  cases x with
  | int i =>
    cases y with
    | int j =>
      dsimp only at q1
      split at q1
      · rename_i hs
        unfold sized at q1
        split at q1
        · rename_i hz
          exact ⟨i, j, by rw [show v = V.int i from r1, show u = V.int j from r2], ⟨(small_iff hs.1).1, (small_iff hs.1).2, (small_iff hs.2).1, (small_iff hs.2).2⟩, q1.here R2 _ (wlk_range hz)⟩
        · exact PostR.no q1
      · exact PostR.no q1
    | _ => exact PostR.no q1
  | _ => exact PostR.no q1
/-- new pairs of what stands at a and at b -/
theorem zipW_get {xs ys : List D} {i : Nat} {d : D} (h : (List.zipWith (fun x y => D.tup [x, y]) xs ys)[i]? = some d) : ∃ x y, xs[i]? = some x ∧ ys[i]? = some y ∧ d = .tup [x, y] := by
  rw [List.getElem?_zipWith] at h
  split at h
  · rename_i x y h1 h2
    cases h
    exact ⟨x, y, h1, h2, rfl⟩
  · cases h
theorem wlk_zipT {μ : Nat → Addr} {st : AS} {H : Hp} {xs ys : List D} {a b : Addr} {vs us : List V} (z : xs.length ≤ szMax) (t : TupAt G H a vs) (rs : Reps G μ st.length H xs vs) (t2 : TupAt G H b us) (rs2 : Reps G μ st.length H ys us) :
    Wlk G (RZ.ItzT G.K a b) (List.zipWith (fun x y => D.tup [x, y]) xs ys) none μ st.length H := by
  refine ⟨by rw [List.length_zipWith]; omega, fun i μ2 st2 H2 nx R2 w hi => ?_, fun μ2 st2 H2 nx R2 w => ?_, fun i μ2 st2 H2 x H3 nx R2 w y => ?_⟩
  · obtain ⟨x, y, h1, h2, _⟩ := zipW_get (List.getElem?_eq_getElem hi)
    obtain ⟨v, h3, _⟩ := rs.get h1
    obtain ⟨u, h4, _⟩ := rs2.get h2
    exact ⟨vs, us, v, u, (t.mono nx.toNx0).sq, (t2.mono nx.toNx0).sq, h3, h4⟩
  · refine ⟨vs, us, (t.mono nx.toNx0).sq, (t2.mono nx.toNx0).sq, ?_⟩
    rw [List.length_zipWith, ← rs.length, ← rs2.length]
    omega
  · obtain ⟨T, v, u, rfl, hT, rfl, f1, f2⟩ := y
    refine ⟨.inr ⟨T, [v, u], hT, rfl⟩, fun d hd => ?_⟩
    obtain ⟨x, y, h1, h2, rfl⟩ := zipW_get hd
    have nx2 : Nx μ2 st2.length H2 μ2 st2.length (upd H2 T (.tup [v, u])) := nx_upd hT
    obtain ⟨v', h3, h5⟩ := (Reps.mono (nx.trans nx2).toNx0 _ _ rs).get h1
    obtain ⟨u', h4, h6⟩ := (Reps.mono (nx.trans nx2).toNx0 _ _ rs2).get h2
    rw [f1 vs (t.mono nx.toNx0).sq] at h3
    rw [f2 us (t2.mono nx.toNx0).sq] at h4
    cases h3
    cases h4
    exact ⟨by show 2 ≤ szMax; unfold szMax; omega, T, _, rfl, .inl upd_same, .cons h5 (.one h6)⟩
theorem w_sZip {a b : Expr} {ma mb : MV} {elts : List Expr} {kk : Nat} {tpos p pos : Pos} (hK : X.K = G.K) (hg : Gl X "zip") (hm : X.mg "zip" = none) (ha : PE X a (tV G W ma)) (hb : PE X b (tV G W mb)) (hs : starEach [a, b] X.env = (false, eval a X.env) :: starEach [b] X.env) (hs2 : starEach [b] X.env = [(false, eval b X.env)])
    (hpl : (backTo pos (starEach [b] X.env)).any (·.1) = false) :
    PI X (.Tuple elts kk tpos) (.Call (.Name "zip" p) [a, b] [] pos) (tI G W fun env st => (ma env st).bind fun x st => (mb env st).bind fun y st => match x, y with
      | .tup xs, .tup ys => .ok (List.zipWith (fun x y => .tup [x, y]) xs ys, none) st
      | _, _ => .bad) := by
  refine (RZ.pi_zipA hg hm (PA.two ha hb hs hs2) hs hpl).imp fun σ H Rr h => ?_
  obtain ⟨μ, env, st, R, e, p⟩ := h
  refine tV_mono (tV_two (g := fun _ x y st => match x, y with
      | .tup xs, .tup ys => .ok (List.zipWith (fun x y => D.tup [x, y]) xs ys, none) st
      | _, _ => .bad) R e p) fun v H1 h1 => tV_mono h1 fun u H2 ⟨μ2, st2, x, y, R2, e2, x2, r1, r2, q1⟩ => ?_
  cases x with
  | tup xs =>
    cases y with
    | tup ys =>
      obtain ⟨z, a, vs, rfl, t, rs⟩ := r1
      obtain ⟨z2, b, us, rfl, t2, rs2⟩ := r2
      rw [hK]
      exact ⟨a, b, vs, us, rfl, .inr ⟨t.sq, t2.sq, q1.here R2 _ (wlk_zipT z t rs t2 rs2)⟩⟩
    | _ => exact PostR.no q1
  | _ => exact PostR.no q1
end

/-! ### comprehensions -/
theorem noX_is {G : Gam} {W : WX} {σ : L2.St} {α β : Type} {μ : Nat → Addr} {n : Nat} {H : Hp} {P : β → AS → (Nat → Addr) → Hp → Prop} {r : Res α} {k : α → AS → Res β} (h : PostR G W σ μ n H P ((noX r).bind k)) : ∃ a st, r = .ok a st := by
  cases r with
  | ok a st => exact ⟨a, st, rfl⟩
  | exn c p st => exact h.elim
  | bad => exact h.elim
theorem wipe_idem (σ : L2.St) : ∀ vs : List Nat, wipe (wipe σ vs) vs = wipe σ vs := fun vs => by
  have key : ∀ us : List Nat, (∀ i ∈ us, i ∈ vs) → wipe (wipe σ us) vs = wipe σ vs := fun us => by
    induction us with
    | nil => exact fun _ => rfl
    | cons u us ih =>
      intro h
      show wipe ((wipe σ us).set u none) vs = _
      rw [wipe_set (h u List.mem_cons_self)]
      exact ih fun i hi => h i (List.mem_cons_of_mem _ hi)
  exact key vs fun _ h => h
/-- our own new list, beside what is told -/
theorem nx_own {μ0 μ : Nat → Addr} {n0 n : Nat} {H0 H : Hp} {p : Addr} {o : HO} (x : Nx μ0 n0 H0 μ n H) (h : H0 p = none) : Nx μ0 n0 H0 μ n (upd H p o) :=
  ⟨⟨x.le, x.ext, fun a xs e => by rw [upd_ne (ne_of_none e h)]; exact x.tup a xs e⟩, fun a u e hi => by rw [upd_ne (ne_of_none e h)]; exact x.frm a u e hi, x.new, fun a e => keep_upd a (x.keep a e)⟩
theorem yld_keeps {G : Gam} {μ : Nat → Addr} {st : AS} {H H' : Hp} (R : Rl G μ st H) (h : H' = H ∨ ∃ T us, H T = none ∧ H' = upd H T (.tup us)) : Rl G μ st H' ∧ Nx μ st.length H μ st.length H' := by
  rcases h with rfl | ⟨T, us, hT, rfl⟩
  · exact ⟨R, .refl⟩
  · exact ⟨R.side hT, nx_upd hT⟩
/-- what is no place of ours stays none of ours, and stands -/
theorem frm_out {μ μ' : Nat → Addr} {n n' : Nat} {H H' : Hp} {p : Addr} {o : HO} (x : Nx μ n H μ' n' H') (h : H p = some o) (hi : ∀ i, i < n → μ i ≠ p) : H' p = some o ∧ ∀ i, i < n' → μ' i ≠ p := by
  refine ⟨x.frm p o h hi, fun i h1 e => ?_⟩
  by_cases hn : i < n
  · rw [x.ext i hn] at e
    exact hi i hn e
  · have z := x.new i (Nat.le_of_not_lt hn) h1
    rw [e, h] at z; cases z
section
variable {G : Gam} {W W0 : WX} {X : Cx}
theorem lc_ok {σ : L2.St} {H : Hp} {Q : VK} {t : Tg} {ms : Env → AS → Res (List D × Option (Nat × List D))} {mt : Env → AS → Res Bool} {me : MV} {vs : List Nat} (hts : ∀ i ∈ tslots t, i ∈ vs)
    (h : tV G W (fun env st => (ms env st).bind fun xs st => (lcLoop xs.2 (fun d => assign t d (wipeE env vs)) mt me xs.1 st).bind fun ds st => newL st ds) σ H Q) :
    tLc (tI G W ms) (gT G.K t) (tT G W0 mt) (tV G W0 me) vs σ H Q := by
  obtain ⟨μ, env, st, R, e, p⟩ := h
  refine ⟨μ, env, st, R, e, p.bind.mono fun xw st1 μ1 H1 x1 R1 q J wk D hD => ?_⟩
  obtain ⟨xs, w⟩ := xw
  dsimp only at q wk
  have e1 : ER G μ1 st1.length H1 env σ := e.mono x1.toNx0
  refine ⟨fun i m H => i ≤ xs.length ∧ m = xs.length - i ∧ ∃ μ2 st2 acc accv, Rl G μ2 st2 H ∧ Nx μ1 st1.length H1 μ2 st2.length H ∧ H D = some (.lst accv) ∧ (∀ j, j < st2.length → μ2 j ≠ D) ∧ Reps G μ2 st2.length H acc accv ∧ acc.length ≤ i ∧
      PostR G W σ μ1 st1.length H1 (PV G Q) ((lcLoop w (fun d => assign t d (wipeE env vs)) mt me (xs.drop i) st2).bind fun ds st3 => newL st3 (acc ++ ds)), ⟨_, Nat.zero_le _, rfl, μ1, st1, [], [], R1.side hD, nx_upd hD, upd_same, fun j hj => R1.fresh hD hj, rfl, Nat.le_refl _, q⟩, ?_⟩
  rintro i m H2 ⟨hi, rfl, μ2, st2, acc, accv, R2, x2, hD2, ho, rs, hac, q2⟩
  by_cases hlt : i < xs.length
  · have ed : xs.drop i = xs[i] :: xs.drop (i + 1) := List.drop_eq_getElem_cons hlt
    rw [ed] at q2
    unfold lcLoop at q2
    split at q2
    · rename_i hw
      split at q2
      · rename_i env1 ha
        refine .inr ⟨wk.go i μ2 st2 H2 x2 R2 hw hlt, fun H' => i + 1 ≤ xs.length ∧ _ = xs.length - (i + 1) ∧ _, fun H' hn => ⟨xs.length - (i + 1), by omega, hn⟩, fun x H3 y => ?_⟩
        obtain ⟨yk, yr⟩ := wk.yld i μ2 st2 H2 x H3 x2 R2 hw y
        obtain ⟨R3, x3⟩ := yld_keeps R2 yk
        obtain ⟨hD3, ho3⟩ := frm_out x3 hD2 ho
        have e3 : ER G μ2 st2.length H3 (wipeE env vs) (wipe σ vs) := (e1.mono (x2.trans x3).toNx0).wipe vs
        refine gT_ok t _ x _ env1 _ _ ha (yr _ (List.getElem?_eq_getElem hlt)) e3 fun σ2 e4 hwp => ⟨by rw [hwp vs hts, wipe_idem], ?_⟩
        have bnd : ∀ {α β γ : Type} (r : Res α) (f : α → AS → Res β) (g : β → AS → Res γ), (r.bind f).bind g = r.bind fun a s => (f a s).bind g := fun r f g => by cases r <;> rfl
        simp only [bnd] at q2
        obtain ⟨b, st4, hb⟩ := noX_is q2
        rw [hb] at q2
        simp only [noX_ok, bind_ok] at q2
        refine ⟨μ2, env1, st2, R3, e4, ?_⟩
        rw [hb]
        intro μ4 H4 x4 R4
        obtain ⟨hD4, ho4⟩ := frm_out x4 hD3 ho3
        cases b with
        | false =>
          rw [if_neg (by decide)] at q2
          unfold PB
          dsimp only
          rw [if_neg Bool.false_ne_true]
          exact ⟨hlt, rfl, μ4, st4, acc, accv, R4, (x2.trans x3).trans x4, hD4, ho4, Reps.mono (x3.trans x4).toNx0 _ _ rs, Nat.le_succ_of_le hac, q2⟩
        | true =>
          unfold PB
          dsimp only
          rw [if_pos rfl]
          rw [if_pos rfl] at q2
          simp only [bnd, bind_ok] at q2
          obtain ⟨d, st5, hd⟩ := noX_is q2
          rw [hd] at q2
          simp only [noX_ok, bind_ok] at q2
          refine ⟨μ4, env1, st4, R4, e4.mono x4.toNx0, ?_⟩
          rw [hd]
          intro μ5 H5 x5 R5 v rv
          obtain ⟨hD5, ho5⟩ := frm_out x5 hD4 ho4
          have hz : accv.length < sizeLine := by
            rw [← rs.length, ← szLine]
            exact Nat.lt_of_le_of_lt hac (Nat.lt_of_lt_of_le hlt wk.len)
          refine ⟨accv, hD5, hz, hlt, rfl, μ5, st5, acc ++ [d], accv ++ [v], ?_, ?_, upd_same, ho5, ?_, ?_, ?_⟩
          · exact R5.frame (fun a ys z => by rw [upd_ne (fun y => by rw [y, hD5] at z; cases z)]; exact z) fun j hj => upd_ne (ho5 j hj)
          · exact nx_own (((x2.trans x3).trans x4).trans x5) hD
          · have nt : Nx0 μ5 st5.length H5 μ5 st5.length (upd H5 D (HO.lst (accv ++ [v]))) := ⟨Nat.le_refl _, fun _ _ => rfl, fun a ys z => by rw [upd_ne (fun y => by rw [y, hD5] at z; cases z)]; exact z⟩
            exact (Reps.mono (((x3.trans x4).trans x5).toNx0.trans nt) _ _ rs).append (.one (Rep.mono nt _ _ rv))
          · rw [List.length_append, List.length_singleton]; omega
          · simp only [List.append_assoc, List.singleton_append]
            exact q2
      · exact PostR.no q2
    · exact PostR.no q2
  · have hi' : i = xs.length := by omega
    subst hi'
    rw [List.drop_length] at q2
    unfold lcLoop at q2
    split at q2
    · rename_i hw
      simp only [bind_ok, List.append_nil] at q2
      refine .inl ⟨wk.stop μ2 st2 H2 x2 R2 hw, ?_⟩
      have z : acc.length ≤ szMax := Nat.le_trans hac wk.len
      have nx0 : Nx0 μ2 st2.length H2 (extM μ2 st2.length D) (st2 ++ [O.lst acc]).length H2 := ⟨by simp, fun i hi => extM_lt hi, fun _ _ z => z⟩
      have R3 : Rl G (extM μ2 st2.length D) (st2 ++ [O.lst acc]) H2 := R2.adopt ho ⟨z, accv, hD2, Reps.mono nx0 _ _ rs⟩
      have x3 : Nx μ1 st1.length H1 (extM μ2 st2.length D) (st2 ++ [O.lst acc]).length H2 := by
        refine ⟨x2.toNx0.trans nx0, x2.frm, fun j h1 h2 => ?_, x2.keep⟩
        rw [List.length_append, List.length_singleton] at h2
        by_cases hj : j < st2.length
        · rw [extM_lt hj]; exact x2.new j h1 hj
        · have ej : j = st2.length := by omega
          rw [ej, extM_at]; exact hD
      exact q2 _ _ x3 R3 _ ⟨by simp, by rw [extM_at]⟩
    · exact PostR.no q2
end
end Ws
end
end

section
set_option Elab.async false
set_option linter.all false
set_option maxRecDepth 100000
set_option maxHeartbeats 4000000
/-! WsH: the rest of the sources; statements. -/
noncomputable section
namespace Ws
open PySem PySem.Spec PyProof.Rows L2
section
variable {G : Gam} {W : WX} {X : Cx}
theorem rangeC_get {a c : Int} {n i : Nat} {d : D} (h : (rangeC a c n)[i]? = some d) : d = .int (a + (i : Nat) * c) ∧ i < n := by
  unfold rangeC at h
  rw [List.getElem?_map, Option.map_eq_some_iff] at h
  obtain ⟨j, h1, rfl⟩ := h
  obtain ⟨h2, h3⟩ := List.getElem?_eq_some_iff.mp h1
  rw [List.length_range] at h2
  rw [List.getElem_range] at h3
  subst h3
  exact ⟨rfl, h2⟩
theorem wlk_rangeC {μ : Nat → Addr} {n0 : Nat} {H : Hp} {a c : Int} {n : Nat} (z : (rangeC a c n).length ≤ szMax) : Wlk G (Itc a c n) (rangeC a c n) none μ n0 H := by
  have hl : (rangeC a c n).length = n := by unfold rangeC; rw [List.length_map, List.length_range]
  refine ⟨z, fun i μ2 st2 H2 nx R2 w hi => by rw [hl] at hi; exact hi, fun μ2 st2 H2 nx R2 w => Nat.le_of_eq hl.symm, fun i μ2 st2 H2 x H3 nx R2 w y => ?_⟩
  obtain ⟨e1, rfl⟩ := y
  subst e1
  refine ⟨.inl rfl, fun d hd => ?_⟩
  rw [(rangeC_get hd).1]
  rfl
theorem PA.three {e f g : Expr} {m m' m'' : MV} (h : PE X e (tV G W m)) (h' : PE X f (tV G W m')) (h'' : PE X g (tV G W m'')) (hs : starEach [e, f, g] X.env = (false, eval e X.env) :: starEach [f, g] X.env) (hs2 : starEach [f, g] X.env = (false, eval f X.env) :: starEach [g] X.env) (hs3 : starEach [g] X.env = [(false, eval g X.env)]) :
    PA X [e, f, g] (fun σ H Q => tV G W m σ H fun v H1 => tV G W m' σ H1 fun u H2 => tV G W m'' σ H2 fun t H3 => Q [v, u, t] H3) := pa_cons h (pa_cons h' (pa_cons h'' pa_nil hs3) hs2) hs
theorem w_sRng3 {tg a b c : Expr} {ma mb mc : MV} {p pos : Pos} (hg : Gl X "range") (hm : X.mg "range" = none) (ha : PE X a (tV G W ma)) (hb : PE X b (tV G W mb)) (hc : PE X c (tV G W mc)) (hs : starEach [a, b, c] X.env = (false, eval a X.env) :: starEach [b, c] X.env) (hs2 : starEach [b, c] X.env = (false, eval b X.env) :: starEach [c] X.env) (hs3 : starEach [c] X.env = [(false, eval c X.env)])
    (hpl : (backTo pos (starEach [b, c] X.env)).any (·.1) = false) :
    PI X tg (.Call (.Name "range" p) [a, b, c] [] pos) (tI G W fun env st => (ma env st).bind fun x st => (mb env st).bind fun y st => (mc env st).bind fun z st => match x, y, z with
      | .int i, .int j, .int k => if small i = true ∧ small j = true ∧ k = -1 then sized (rangeC i (-1) (i - j).toNat) none st else .bad
      | _, _, _ => .bad) := by
  refine (pi_range3 hg hm (PA.three ha hb hc hs hs2 hs3) hs hpl).imp fun σ H Rr h => ?_
  obtain ⟨μ, env, st, R, e, p⟩ := h
  refine tV_mono (tV_two (g := fun env x y st => (mc env st).bind fun z st => match x, y, z with
      | .int i, .int j, .int k => if small i = true ∧ small j = true ∧ k = -1 then sized (rangeC i (-1) (i - j).toNat) none st else .bad
      | _, _, _ => .bad) R e p) fun v H1 h1 => tV_mono h1 fun u H2 ⟨μ2, st2, x, y, R2, e2, x2, r1, r2, q1⟩ => ?_
  refine tV_mono (tV_bind (k := fun _ z st => match x, y, z with
      | .int i, .int j, .int k => if small i = true ∧ small j = true ∧ k = -1 then sized (rangeC i (-1) (i - j).toNat) none st else .bad
      | _, _, _ => .bad) R2 e2 q1) fun t H3 ⟨μ3, st3, z, R3, e3, x3, r3, q3⟩ => ?_
  cases x with
  | int i =>
    cases y with
    | int j =>
      cases z with
      | int k =>
        dsimp only at q3
        split at q3
        · rename_i hs
          obtain ⟨h1, h2, rfl⟩ := hs
          unfold sized at q3
          split at q3
          · rename_i hz
            exact ⟨i, j, -1, _, by rw [show v = V.int i from r1, show u = V.int j from r2, show t = V.int (-1) from r3], RgC.neg (small_iff h1).1 (small_iff h1).2 (small_iff h2).1 (small_iff h2).2, q3.here R3 _ (wlk_rangeC hz)⟩
          · exact PostR.no q3
        · exact PostR.no q3
      | _ => exact PostR.no q3
    | _ => exact PostR.no q3
  | _ => exact PostR.no q3
theorem wlk_enum {μ : Nat → Addr} {st : AS} {H : Hp} {l : Nat} {xs : List D} (R : Rl G μ st H) (e : st[l]? = some (.lst xs)) : Wlk G (Ite G.K (μ l)) (xs.zipIdx.map fun p => D.tup [.int p.2, p.1]) (some (l, xs)) μ st.length H := by
  have hl := R.lt e
  have hlen : (xs.zipIdx.map fun p => D.tup [.int p.2, p.1]).length = xs.length := by rw [List.length_map, List.length_zipIdx]
  have rd : ∀ μ2 st2 H2, Nx μ st.length H μ2 st2.length H2 → Rl G μ2 st2 H2 → watchOk (some (l, xs)) st2 → ∃ vs, SqL G.K H2 (μ l) vs ∧ Reps G μ2 st2.length H2 xs vs := fun μ2 st2 H2 nx R2 w => by
    have w' : itemsD st2 (.ref l) = some xs := w
    rw [← nx.ext l hl]
    simp only [itemsD] at w'
    split at w'
    · rename_i ys hy
      cases w'
      obtain ⟨z, vs, h1, rs⟩ := R2.lst hy
      exact ⟨vs, .inl (.inl h1), rs⟩
    · rename_i ys hy
      cases w'
      obtain ⟨z, ob, vs, h1, rs⟩ := R2.frz hy
      exact ⟨vs, .inl (.inr ⟨ob, h1⟩), rs⟩
    · cases w'
  refine ⟨by rw [hlen]; exact (R.lst e).1, fun i μ2 st2 H2 nx R2 w hi => ?_, fun μ2 st2 H2 nx R2 w => ?_, fun i μ2 st2 H2 x H3 nx R2 w y => ?_⟩
  · obtain ⟨vs, sq, rs⟩ := rd μ2 st2 H2 nx R2 w
    rw [hlen] at hi
    obtain ⟨v, h1, _⟩ := rs.get (List.getElem?_eq_getElem hi)
    exact ⟨vs, v, sq, h1⟩
  · obtain ⟨vs, sq, rs⟩ := rd μ2 st2 H2 nx R2 w
    rw [hlen]
    exact ⟨vs, sq, Nat.le_of_eq rs.length.symm⟩
  · obtain ⟨vs, sq, rs⟩ := rd μ2 st2 H2 nx R2 w
    obtain ⟨T, x', rfl, hT, rfl, f1⟩ := y
    refine ⟨.inr ⟨T, _, hT, rfl⟩, fun d hd => ?_⟩
    rw [List.getElem?_map, List.getElem?_zipIdx] at hd
    cases hx : xs[i]? with
    | none => rw [hx] at hd; cases hd
    | some d0 =>
      rw [hx] at hd
      cases hd
      have nx2 : Nx μ2 st2.length H2 μ2 st2.length (upd H2 T (.tup [.int (i : Nat), x'])) := nx_upd hT
      obtain ⟨v', h3, h5⟩ := (Reps.mono nx2.toNx0 _ _ rs).get hx
      rw [f1 vs sq] at h3
      cases h3
      exact ⟨by show 2 ≤ szMax; unfold szMax; omega, T, _, rfl, .inl upd_same, .cons (by show V.int _ = V.int _; simp) (.one h5)⟩
theorem w_sEnum {a : Expr} {m : MV} {elts : List Expr} {kk : Nat} {tpos p pos : Pos} (hK : X.K = G.K) (hg : Gl X "enumerate") (hm : X.mg "enumerate" = none) (h : PE X a (tV G W m)) (hs : starEach [a] X.env = [(false, eval a X.env)]) :
    PI X (.Tuple elts kk tpos) (.Call (.Name "enumerate" p) [a] [] pos) (tI G W fun env st => (m env st).bind fun d st => match d with
      | .ref l => match st[l]? with
        | some (.lst xs) => .ok (xs.zipIdx.map fun p => D.tup [.int p.2, p.1], some (l, xs)) st
        | _ => .bad
      | _ => .bad) := by
  refine (pi_enum hg hm (PA.one h hs) hs).imp fun σ H Rr h => ?_
  obtain ⟨μ, env, st, R, e, p⟩ := h
  refine tV_mono (tV_bind (k := fun _ d st => match d with
      | .ref l => match st[l]? with
        | some (.lst xs) => .ok (xs.zipIdx.map fun p => D.tup [.int p.2, p.1], some (l, xs)) st
        | _ => .bad
      | _ => .bad) R e p) fun v H1 ⟨μ1, st1, x, R1, e1, x1, r1, q1⟩ => ?_
  cases x with
  | ref l =>
    obtain ⟨hl, rfl⟩ := r1
    dsimp only at q1
    split at q1
    · rename_i xs hx
      obtain ⟨z, vs, h1, rs⟩ := R1.lst hx
      rw [hK]
      exact ⟨_, vs, rfl, .inl (.inl h1), q1.here R1 _ (wlk_enum R1 hx)⟩
    · exact PostR.no q1
  | _ => exact PostR.no q1
end

/-! ### statements -/
section
variable (G : Gam) (W : WX)
def PostS (E : Ends) (μ : Nat → Addr) (n : Nat) (H : Hp) : RS → Prop
  | .next env st => ∀ μ' H' σ', Nx μ n H μ' st.length H' → Rl G μ' st H' → ER G μ' st.length H' env σ' → E.nx σ' H'
  | .ret d st => ∀ μ' H' v, Nx μ n H μ' st.length H' → Rl G μ' st H' → Rep G μ' st.length H' d v → E.rt v H'
  | .brk env st => ∀ μ' H' σ', Nx μ n H μ' st.length H' → Rl G μ' st H' → ER G μ' st.length H' env σ' → E.bk σ' H'
  | .cont env st => ∀ μ' H' σ', Nx μ n H μ' st.length H' → Rl G μ' st H' → ER G μ' st.length H' env σ' → E.ct σ' H'
  | .exn c p env st => ∀ μ' dx H' σ', Nx μ n H μ' st.length H' → Rl G μ' st H' → ER G μ' st.length H' env σ' → Pay G μ' st.length H' c p dx → W (.ref (G.xA c)) dx σ' H'
  | .bad => False
def tS (m : Env → AS → RS) : TS := fun E σ H => ∃ μ env st, Rl G μ st H ∧ ER G μ st.length H env σ ∧ PostS G W E μ st.length H (m env st)
end
section
variable {G : Gam} {W : WX} {E : Ends} {σ : L2.St} {μ μ1 : Nat → Addr} {n n1 : Nat} {H H1 : Hp} {α : Type}
theorem PostS.no {C : Prop} (h : PostS G W E μ n H .bad) : C := False.elim h
theorem PostS.trans {r : RS} (x : Nx μ n H μ1 n1 H1) (h : PostS G W E μ n H r) : PostS G W E μ1 n1 H1 r := by
  cases r with
  | next env st => exact fun μ' H' σ' y => h μ' H' σ' (x.trans y)
  | ret d st => exact fun μ' H' v y => h μ' H' v (x.trans y)
  | brk env st => exact fun μ' H' σ' y => h μ' H' σ' (x.trans y)
  | cont env st => exact fun μ' H' σ' y => h μ' H' σ' (x.trans y)
  | exn c p env st => exact fun μ' dx H' σ' y => h μ' dx H' σ' (x.trans y)
  | bad => exact h
theorem PostS.stm {r : Res α} {env : Env} {k : α → AS → RS} (e : ER G μ n H env σ) (h : PostS G W E μ n H (r.stm env k)) :
    PostR G W σ μ n H (fun a st1 μ1 H1 => PostS G W E μ1 st1.length H1 (k a st1)) r := by
  cases r with
  | ok a st => exact fun μ' H' y rl => PostS.trans y h
  | exn c p st => exact fun μ' dx H' y rl q => h μ' dx H' σ y rl (e.mono y.toNx0) q
  | bad => exact h
theorem PostS.next {env : Env} {st : AS} (h : PostS G W E μ st.length H (.next env st)) (R : Rl G μ st H) (e : ER G μ st.length H env σ) : E.nx σ H := h μ H σ Nx.refl R e
theorem tV_stm {m : MV} {k : Env → D → AS → RS} {env : Env} {st : AS} (R : Rl G μ st H) (e : ER G μ st.length H env σ) (h : PostS G W E μ st.length H ((m env st).stm env (k env))) :
    tV G W m σ H fun v H1 => ∃ μ1 st1 x, Rl G μ1 st1 H1 ∧ ER G μ1 st1.length H1 env σ ∧ Nx μ st.length H μ1 st1.length H1 ∧ Rep G μ1 st1.length H1 x v ∧ PostS G W E μ1 st1.length H1 (k env x st1) :=
  ⟨μ, env, st, R, e, (h.stm e).mono fun a st' μ' H' x rl q v r => ⟨μ', st', a, rl, e.mono x.toNx0, x, r, q⟩⟩
theorem tT_stm {m : Env → AS → Res Bool} {k : Env → Bool → AS → RS} {env : Env} {st : AS} (R : Rl G μ st H) (e : ER G μ st.length H env σ) (h : PostS G W E μ st.length H ((m env st).stm env (k env))) :
    tT G W m σ H fun b H1 => ∃ μ1 st1, Rl G μ1 st1 H1 ∧ ER G μ1 st1.length H1 env σ ∧ Nx μ st.length H μ1 st1.length H1 ∧ PostS G W E μ1 st1.length H1 (k env b st1) :=
  ⟨μ, env, st, R, e, (h.stm e).mono fun a st' μ' H' x rl q => ⟨μ', st', rl, e.mono x.toNx0, x, q⟩⟩
theorem PostS.seq {r : RS} {k : Env → AS → RS} (h : PostS G W E μ n H (r.seq k)) : PostS G W { E with nx := tS G W k E } μ n H r := by
  cases r with
  | next env st => exact fun μ' H' σ' nx rl er => ⟨μ', env, st, rl, er, PostS.trans nx h⟩
  | ret d st => exact h
  | brk env st => exact h
  | cont env st => exact h
  | exn c p env st => exact h
  | bad => exact h
end
section
variable {G : Gam} {W : WX} {X : Cx}
theorem w_nil : PSs X [] (tS G W fun env st => .next env st) := by
  refine pss_nil.imp fun E σ H h => ?_
  obtain ⟨μ, env, st, R, e, p⟩ := h
  exact p.next R e
theorem w_cons {s : Stmt} {r : List Stmt} {m1 m2 : Env → AS → RS} (h1 : PS X s (tS G W m1)) (h2 : PSs X r (tS G W m2)) : PSs X (s :: r) (tS G W fun env st => (m1 env st).seq m2) := by
  refine (pss_cons h1 h2).imp fun E σ H h => ?_
  obtain ⟨μ, env, st, R, e, p⟩ := h
  exact ⟨μ, env, st, R, e, p.seq⟩
theorem w_pass {pos : Pos} : PS X (.Pass pos) (tS G W fun env st => .next env st) := by
  refine ps_pass.imp fun E σ H h => ?_
  obtain ⟨μ, env, st, R, e, p⟩ := h
  exact p.next R e
theorem asg_ok {E : Ends} {σ : L2.St} {H : Hp} {t : Tg} {m : MV} (h : tS G W (fun env st => (m env st).stm env fun d st => match assign t d env with
    | some env' => .next env' st
    | none => .bad) E σ H) : tAsg (tV G W m) (gT G.K t) E σ H := by
  obtain ⟨μ, env, st, R, e, p⟩ := h
  refine tV_mono (tV_stm (k := fun env d st => match assign t d env with
    | some env' => .next env' st
    | none => .bad) R e p) fun v H1 ⟨μ1, st1, x, R1, e1, x1, r1, q1⟩ => ?_
  split at q1
  · rename_i env' ha
    exact gT_ok t x v env env' σ _ ha r1 e1 fun σ' e' _ => q1.next R1 e'
  · exact q1.no
theorem w_asg {tg e : Expr} {t : Tg} {m : MV} {pos : Pos} (he : PE X e (tV G W m)) (hg : PG X tg (gT G.K t)) (hs : swapsWithSole [tg] e pos.line X.env = pure false) (hw : swappedStores [tg] e X.env = pure none)
    (h1 : (assignEach [tg] X.env).map (·.2) = [PySem.assign tg X.env]) : PS X (.Assign [tg] e pos) (tS G W fun env st => (m env st).stm env fun d st => match assign t d env with
      | some env' => .next env' st
      | none => .bad) := (ps_asg he hg hs hw h1).imp fun E σ H h => asg_ok h
theorem w_ret {e : Expr} {m : MV} {pos : Pos} (he : PE X e (tV G W m)) : PS X (.Return (some e) pos) (tS G W fun env st => (m env st).stm env fun d st => .ret d st) := by
  refine (ps_ret he).imp fun E σ H h => ?_
  obtain ⟨μ, env, st, R, e, p⟩ := h
  exact tV_mono (tV_stm (k := fun env d st => .ret d st) R e p) fun v H1 ⟨μ1, st1, x, R1, e1, x1, r1, q1⟩ => q1 μ1 H1 v Nx.refl R1 r1
theorem w_retN {pos : Pos} : PS X (.Return none pos) (tS G W fun env st => .ret .non st) := by
  refine ps_retN.imp fun E σ H h => ?_
  obtain ⟨μ, env, st, R, e, p⟩ := h
  exact p μ H _ Nx.refl R rfl
theorem w_expr {e : Expr} {m : MV} {pos : Pos} (he : PE X e (tV G W m)) (hs : swapsWith e none pos.line X.env = pure false) : PS X (.Expr e pos) (tS G W fun env st => (m env st).stm env fun _ st => .next env st) := by
  refine (ps_expr he hs).imp fun E σ H h => ?_
  obtain ⟨μ, env, st, R, e, p⟩ := h
  exact tV_mono (tV_stm (k := fun env d st => .next env st) R e p) fun v H1 ⟨μ1, st1, x, R1, e1, x1, r1, q1⟩ => q1.next R1 e1
theorem w_if {c : Expr} {a b : List Stmt} {mc : Env → AS → Res Bool} {ma mb : Env → AS → RS} {pos : Pos} (hc : PT X c (tT G W mc)) (ha : PSs X a (tS G W ma)) (hb : PSs X b (tS G W mb)) :
    PS X (.If c a b pos) (tS G W fun env st => (mc env st).stm env fun c st => if c = true then ma env st else mb env st) := by
  refine (ps_if hc ha hb).imp fun E σ H h => ?_
  obtain ⟨μ, env, st, R, e, p⟩ := h
  refine tT_mono (tT_stm (k := fun env c st => if c = true then ma env st else mb env st) R e p) fun c H1 ⟨μ1, st1, R1, e1, x1, q1⟩ => ?_
  cases c with
  | true => rw [if_pos rfl] at q1 ⊢; exact ⟨μ1, env, st1, R1, e1, q1⟩
  | false => rw [if_neg Bool.false_ne_true] at q1 ⊢; exact ⟨μ1, env, st1, R1, e1, q1⟩
theorem w_aug {i : Nat} {x : Str} {e : Expr} {op : BOp} {m : MV} {pos' pos : Pos} (hN : X.N.Nodup) (hi : X.N[i]? = some x) (hx : Loc X.env.scope x) (he : PE X e (tV G W m)) (ho : op = .add ∨ op = .sub) (hf : X.fn x = true ∨ X.env.scope.names.lookup x = some .local) :
    PS X (.AugAssign (.Name x pos') (bOp op) e pos) (tS G W fun env st => match env[i]? with
      | some (some x) => (m env st).stm env fun y st => (augD op x y st).stm env fun z st => .next (env.set i (some z)) st
      | _ => .bad) := by
  have hp : PIp X (bOp op) (ipI fun i j => if op = .add then i + j else i - j) := by
    rcases ho with rfl | rfl
    · exact ip_add
    · exact ip_sub
  refine (ps_aug hN hi hx he hp hf).imp fun E σ H h => ?_
  obtain ⟨μ, env, st, R, e, p⟩ := h
  dsimp only at p
  split at p
  · rename_i d hd
    obtain ⟨v, h1, h2⟩ := e.val i d hd
    refine ⟨v, h1, tV_mono (tV_stm (k := fun env y st => (augD op d y st).stm env fun z st => .next (env.set i (some z)) st) R e p) fun u H1 ⟨μ1, st1, y, R1, e1, x1, r1, q1⟩ => ?_⟩
    have r0 := Rep.mono x1.toNx0 _ _ h2
    rcases ho with rfl | rfl
    · cases d with
      | int a =>
        cases y with
        | int b => exact ⟨a, b, r0, r1, PostS.next q1 R1 (e1.set rfl)⟩
        | _ => exact q1.no
      | _ => exact q1.no
    · cases d with
      | int a =>
        cases y with
        | int b => exact ⟨a, b, r0, r1, PostS.next q1 R1 (e1.set rfl)⟩
        | _ => exact q1.no
      | _ => exact q1.no
  · exact p.no
theorem w_par {i j : Nat} {x y : Str} {a b : Expr} {ma mb : MV} {px py pt : Pos} {kt k2 : Nat} {pt2 pos : Pos} (hc : X.calm = true) (hN : X.N.Nodup) (hi : X.N[i]? = some x) (hj : X.N[j]? = some y) (hij : i ≠ j)
    (hx : X.env.scope.names.lookup x = some .local) (hy : X.env.scope.names.lookup y = some .local) (ha : PE X a (tV G W ma)) (hb : PE X b (tV G W mb)) (h1 : starEach [a, b] X.env = (false, eval a X.env) :: starEach [b] X.env) (h2 : starEach [b] X.env = [(false, eval b X.env)])
    (hw : swappedStores [.Tuple [.Name x px, .Name y py] kt pt] (.Tuple [a, b] k2 pt2) X.env = pure (some [x, y])) :
    PS X (.Assign [.Tuple [.Name x px, .Name y py] kt pt] (.Tuple [a, b] k2 pt2) pos) (tS G W fun env st => (ma env st).stm env fun x st => (mb env st).stm env fun y st => .next ((env.set i (some x)).set j (some y)) st) := by
  refine (ps_par hc hN hi hj hij hx hy (PA.two ha hb h1 h2) hw rfl).imp fun E σ H h => ?_
  obtain ⟨μ, env, st, R, e, p⟩ := h
  refine tV_mono (tV_stm (k := fun env x st => (mb env st).stm env fun y st => .next ((env.set i (some x)).set j (some y)) st) R e p) fun v H1 ⟨μ1, st1, x, R1, e1, x1, r1, q1⟩ => ?_
  refine tV_mono (tV_stm (k := fun env y st => .next ((env.set i (some x)).set j (some y)) st) R1 e1 q1) fun u H2 ⟨μ2, st2, y, R2, e2, x2, r2, q2⟩ => ?_
  exact ⟨v, u, rfl, q2.next R2 ((e2.set (Rep.mono x2.toNx0 _ _ r1)).set r2)⟩
theorem ixN_set {xs : List D} {vs : List V} {k : Int} {j : Nat} (h : xs.length = vs.length) (e : ixN xs.length k = some j) : L2.ixN vs.length k = some j := by rw [ixN_eq, ← h]; exact e
theorem setIx_ok {E : Ends} {σ : L2.St} {μ : Nat → Addr} {st : AS} {H : Hp} {env : Env} {x y z : D} {o i v : V} (R : Rl G μ st H) (e : ER G μ st.length H env σ) (r1 : Rep G μ st.length H x o) (r2 : Rep G μ st.length H y i) (r3 : Rep G μ st.length H z v)
    (p : PostS G W E μ st.length H (setD z x y env st)) : rSetL o i v H (E.nx σ) ∨ rSetD o i v H (E.nx σ) := by
  cases x with
  | ref l =>
    obtain ⟨hl, rfl⟩ := r1
    unfold setD at p
    dsimp only at p
    split at p
    · rename_i xs hx
      obtain ⟨hz, vs, h1, rs⟩ := R.lst hx
      cases y with
      | int k =>
        dsimp only at p
        split at p
        · rename_i j hj
          have nx := nx_write R (ho := .lst (vs.set j v)) hl (k := (st.set l (.lst (xs.set j z))).length) (by simp)
          have R2 : Rl G μ (st.set l (.lst (xs.set j z))) (upd H (μ l) (.lst (vs.set j v))) := R.write hl ⟨by rw [List.length_set]; exact hz, _, upd_same, by
            have q := Reps.mono nx.toNx0 _ _ (rs.set j r3)
            rw [List.length_set] at q
            exact q⟩
          exact .inl ⟨_, vs, k, j, rfl, r2, h1, ixN_set rs.length hj, p μ _ σ nx R2 (e.mono nx.toNx0)⟩
        · exact p.no
      | _ => exact p.no
    · rename_i kvs hx
      obtain ⟨hz, kws, h1, rs⟩ := R.dic hx
      split at p
      · rename_i k hk
        split at p
        · rename_i hlt
          have nx := nx_write R (ho := .dK (L2.putK kws k v)) hl (k := (st.set l (.dic (putK kvs k z) false)).length) (by simp)
          have R2 : Rl G μ (st.set l (.dic (putK kvs k z) false)) (upd H (μ l) (.dK (L2.putK kws k v))) := R.write hl ⟨Nat.le_trans (putK_len _ _ _) hlt, _, upd_same, by
            have q := KReps.mono nx.toNx0 (rs.put k r3)
            rw [List.length_set] at q
            exact q⟩
          refine .inr ⟨_, _, rfl, ?_, p μ _ σ nx R2 (e.mono nx.toNx0)⟩
          rw [keyD_rep hk r2]
          exact .k h1 (by rw [← rs.length, ← szLine]; exact hlt)
        · exact p.no
      · exact p.no
    · exact p.no
  | _ => exact p.no
theorem w_setIx {o i e : Expr} {mo mi me : MV} {tpos pos : Pos} (hu : X.A.units + 1 < cLine) (ho : PE X o (tV G W mo)) (hi : PE X i (tV G W mi)) (he : PE X e (tV G W me))
    (ha : ∀ v, PySem.assign (.Subscript o i tpos) X.env v = (do
      let ov ← holding [v] (eval o X.env)
      let iv ← holding [v, ov] (eval i X.env)
      standAt tpos
      holding [v, ov, iv] (setItem ov iv v)
      release [v, ov, iv] [])) (hs : swapsWithSole [.Subscript o i tpos] e pos.line X.env = pure false) : PS X (.Assign [.Subscript o i tpos] e pos) (tS G W fun env st => (me env st).stm env fun v st => (mo env st).stm env fun x st => (mi env st).stm env fun y st => setD v x y env st) := by
  refine (ps_asg he (pg_sub ho hi (set_list.or (set_dict hu)) ha) hs rfl rfl).imp fun E σ H h => ?_
  obtain ⟨μ, env, st, R, e, p⟩ := h
  refine tV_mono (tV_stm (k := fun env v st => (mo env st).stm env fun x st => (mi env st).stm env fun y st => setD v x y env st) R e p) fun v H1 ⟨μ1, st1, z, R1, e1, x1, r1, q1⟩ => ?_
  refine tV_mono (tV_stm (k := fun env x st => (mi env st).stm env fun y st => setD z x y env st) R1 e1 q1) fun o H2 ⟨μ2, st2, x, R2, e2, x2, r2, q2⟩ => ?_
  refine tV_mono (tV_stm (k := fun env y st => setD z x y env st) R2 e2 q2) fun i H3 ⟨μ3, st3, y, R3, e3, x3, r3, q3⟩ => ?_
  exact setIx_ok R3 e3 (Rep.mono x3.toNx0 _ _ r2) r3 (Rep.mono (x2.trans x3).toNx0 _ _ r1) q3

/-! ### loops -/
theorem for_ok {E : Ends} {σ : L2.St} {H : Hp} {t : Tg} {ms : Env → AS → Res (List D × Option (Nat × List D))} {tmp : List Nat} {mb : Env → AS → RS} (h : tS G W (fun env st => (ms env st).stm env fun xs st => forL xs.2 (assign t) tmp mb xs.1 env st) E σ H) :
    tFor (tI G W ms) (gT G.K t) (tS G W mb) E σ H := by
  obtain ⟨μ, env, st, R, e, p⟩ := h
  refine ⟨μ, env, st, R, e, (p.stm e).mono fun xw st1 μ1 H1 x1 R1 q J wk => ?_⟩
  obtain ⟨xs, w⟩ := xw
  dsimp only at q wk
  refine ⟨fun i m σ' H' => i ≤ xs.length ∧ m = xs.length - i ∧ ∃ μ2 env2 st2, Rl G μ2 st2 H' ∧ Nx μ1 st1.length H1 μ2 st2.length H' ∧ ER G μ2 st2.length H' env2 σ' ∧ PostS G W E μ2 st2.length H' (forL w (assign t) tmp mb (xs.drop i) env2 st2),
    ⟨_, Nat.zero_le _, rfl, μ1, env, st1, R1, .refl, e.mono x1.toNx0, q⟩, ?_⟩
  rintro i m σ2 H2 ⟨hi, rfl, μ2, env2, st2, R2, x2, e2, q2⟩
  by_cases hlt : i < xs.length
  · have ed : xs.drop i = xs[i] :: xs.drop (i + 1) := List.drop_eq_getElem_cons hlt
    rw [ed] at q2
    unfold forL at q2
    split at q2
    · rename_i hw
      split at q2
      · rename_i env1 ha
        refine .inr ⟨wk.go i μ2 st2 H2 x2 R2 hw hlt, fun σ' H' => i + 1 ≤ xs.length ∧ _ = xs.length - (i + 1) ∧ _, fun σ' H' hn => ⟨xs.length - (i + 1), by omega, hn⟩, fun x H3 y => ?_⟩
        obtain ⟨yk, yr⟩ := wk.yld i μ2 st2 H2 x H3 x2 R2 hw y
        obtain ⟨R3, x3⟩ := yld_keeps R2 yk
        refine gT_ok t _ x _ env1 _ _ ha (yr _ (List.getElem?_eq_getElem hlt)) ((e2.mono x3.toNx0).wipe1 tmp) fun σ3 e3 _ => ⟨μ2, env1, st2, R3, e3, ?_⟩
        have q3 := PostS.trans x3 q2
        generalize mb env1 st2 = r at q3
        cases r with
        | next e s => exact fun μ' H' σ' nx rl er => ⟨hlt, rfl, μ', e, s, rl, (x2.trans x3).trans nx, er, PostS.trans nx q3⟩
        | cont e s => exact fun μ' H' σ' nx rl er => ⟨hlt, rfl, μ', e, s, rl, (x2.trans x3).trans nx, er, PostS.trans nx q3⟩
        | brk e s => exact fun μ' H' σ' nx rl er => q3 μ' H' σ' nx rl (er.wipe1 tmp)
        | ret d s => exact q3
        | exn c p e s => exact q3
        | bad => exact q3
      · exact q2.no
    · exact q2.no
  · have hi' : i = xs.length := by omega
    subst hi'
    rw [List.drop_length] at q2
    unfold forL at q2
    split at q2
    · rename_i hw
      exact .inl ⟨wk.stop μ2 st2 H2 x2 R2 hw, q2.next R2 (e2.wipe1 tmp)⟩
    · exact q2.no
theorem w_for {tg iter : Expr} {body : List Stmt} {t : Tg} {ms : Env → AS → Res (List D × Option (Nat × List D))} {tmp : List Nat} {mb : Env → AS → RS} {pos : Pos} (hp : PassesOwn (model X.prog X.w) X.A X.env X.xe) (hc : X.calm = true) (hi : PI X tg iter (tI G W ms)) (hg : PG X tg (gT G.K t)) (hb : PSs X body (tS G W mb))
    (hs : ∀ x, foldedSetIterable iter X.env x = pure x) : PS X (.For tg iter body [] pos) (tS G W fun env st => (ms env st).stm env fun xs st => forL xs.2 (assign t) tmp mb xs.1 env st) := (ps_for hp hc hi hg hb hs).imp fun E σ H h => for_ok h
theorem w_while {c : Expr} {body : List Stmt} {mt : Env → AS → Res Bool} {tmp : List Nat} {mb : Env → AS → RS} {k : Nat} {pos : Pos} (hp : PassesOwn (model X.prog X.w) X.A X.env X.xe) (hc : PT X c (tT G W mt)) (hb : PSs X body (tS G W mb)) :
    PS X (.While c body [] pos) (tS G W fun env st => whileL mt tmp mb k env st) := by
  refine (ps_while hp hc hb).imp fun E σ H h => ?_
  obtain ⟨μ, env, st, R, e, p⟩ := h
  refine ⟨fun m σ' H' => ∃ μ2 env2 st2, Rl G μ2 st2 H' ∧ ER G μ2 st2.length H' env2 σ' ∧ PostS G W E μ2 st2.length H' (whileL mt tmp mb m env2 st2), ⟨k, μ, env, st, R, e, p⟩, ?_⟩
  rintro m σ2 H2 ⟨μ2, env2, st2, R2, e2, q2⟩
  cases m with
  | zero => exact q2.no
  | succ m =>
    unfold whileL at q2
    refine tT_mono (tT_stm (k := fun env b st1 => if b = true then (match mb env st1 with
      | .next e s => whileL mt tmp mb m e s
      | .cont e s => whileL mt tmp mb m e s
      | .brk e s => .next (wipeE e tmp) s
      | r => r) else .next env st1) R2 (e2.wipe1 tmp) q2) fun b H3 ⟨μ3, st3, R3, e3, x3, q3⟩ => ?_
    cases b with
    | false =>
      rw [if_neg Bool.false_ne_true] at q3 ⊢
      exact q3.next R3 e3
    | true =>
      rw [if_pos rfl] at q3 ⊢
      refine ⟨fun σ' H' => ∃ μ2 env2 st2, Rl G μ2 st2 H' ∧ ER G μ2 st2.length H' env2 σ' ∧ PostS G W E μ2 st2.length H' (whileL mt tmp mb m env2 st2), fun σ' H' hn => ⟨m, Nat.lt_succ_self m, hn⟩, μ3, _, st3, R3, e3, ?_⟩
      generalize mb (wipeE env2 tmp) st3 = r at q3
      cases r with
      | next e s => exact fun μ' H' σ' nx rl er => ⟨μ', e, s, rl, er, PostS.trans nx q3⟩
      | cont e s => exact fun μ' H' σ' nx rl er => ⟨μ', e, s, rl, er, PostS.trans nx q3⟩
      | brk e s => exact fun μ' H' σ' nx rl er => q3 μ' H' σ' nx rl (er.wipe1 tmp)
      | ret d s => exact q3
      | exn c p e s => exact q3
      | bad => exact q3
end
end Ws
end
end

section
set_option Elab.async false
set_option linter.all false
set_option maxRecDepth 100000
set_option maxHeartbeats 4000000
/-! WsI: raise, garbage, the rule for a def. -/
noncomputable section
namespace Ws
open PySem PySem.Spec PyProof.Rows L2
/-! ### X() -/
theorem pmk_own0 {X : Cx} {C : Addr} {bmB : List Value} {B newId initId : String} {x : Str} {p pos : Pos} (F : ExcBaseFacts B newId initId bmB) (q : PySem.W.excIn X.K C bmB newId = true) (gC : X.mg x = some (.ref C)) (kC : PySem.W.keepIn X.K (.ref C) = true) (r : Raises X (.ref C)) (hg : Gl X x)
    (hdb : (x == ("__debug__" : Str)) = false) : PMk X (.Call (.Name x p) [] [] pos) (fun _ H Q => Q (.ref C) none H) := by
  intro pins s σ H Q I h
  refine wpAny_Call_Name_kw (ld_glob I hg gC ?_ hdb)
  refine PySem.W.callWith_K0 I.kIn kC ?_
  show wpAny _ _ (call (.ref C) []) _ _ _
  obtain ⟨bm, N, nm, qn, bs, hdct, sn, sub, ab, col, dd, k0, k1, k2, k3, k5, mN, hC, hN, hni, T⟩ := exc_obj I.kIn q
  refine wpAny_call_exc_subT F T hC hN hni (fun h' e hm => ?_) (Nat.zero_le _)
  exact mk_of I hm r h (I.hok.gone hm.new)
section
variable {G : Gam} {W : WX} {X : Cx}
theorem w_raise {e : Expr} {c : Nat} {pos : Pos} (hc : X.calm = true) (tk : Takes X W) (he : PMk X e (fun _ H Q => Q (.ref (G.xA c)) none H)) : PS X (.Raise (some e) none pos) (tS G W fun env st => .exn c .non env st) := by
  refine (ps_raise hc tk he).imp fun E σ H h => ?_
  obtain ⟨μ, env, st, R, e, p⟩ := h
  exact p μ none H σ Nx.refl R e trivial
end

/-! ### what is low -/
section
variable {G : Gam} {μ μ' : Nat → Addr} {n n' : Nat} {H H' : Hp}
mutual
theorem Rep.low : ∀ (d : D) (v : V), Rep G μ n H d v → d.lowB n = true
  | .non, _, _ => rfl
  | .bl _, _, _ => rfl
  | .int _, _, _ => rfl
  | .str _, _, _ => rfl
  | .tup ds, _, ⟨z, a, vs, e, t, r⟩ => Reps.low ds vs r
  | .ref l, _, ⟨h, e⟩ => decide_eq_true h
  | .clo _ _, _, h => h.elim
  | .kls ds, _, ⟨z, a, vs, e, t, r⟩ => Reps.low ds vs r
theorem Reps.low : ∀ (ds : List D) (vs : List V), Reps G μ n H ds vs → lowAll n ds = true
  | [], _, _ => rfl
  | d :: ds, _, ⟨v, r, e, h, t⟩ => by
    show (d.lowB n && lowAll n ds) = true
    rw [Rep.low d v h, Reps.low ds r t]; rfl
end
mutual
theorem Rep.cut (hμ : ∀ i, i < n' → μ' i = μ i) : ∀ (d : D) (v : V), d.lowB n' = true → Rep G μ n H d v → Rep G μ' n' H d v
  | .non, _, _, h => h
  | .bl _, _, _, h => h
  | .int _, _, _, h => h
  | .str _, _, _, h => h
  | .tup ds, _, l, ⟨z, a, vs, e, t, r⟩ => ⟨z, a, vs, e, t, Reps.cut hμ ds vs l r⟩
  | .ref l, _, lo, ⟨h, e⟩ => ⟨of_decide_eq_true lo, by rw [hμ l (of_decide_eq_true lo)]; exact e⟩
  | .clo _ _, _, _, h => h.elim
  | .kls ds, _, l, ⟨z, a, vs, e, t, r⟩ => ⟨z, a, vs, e, t, Reps.cut hμ ds vs l r⟩
theorem Reps.cut (hμ : ∀ i, i < n' → μ' i = μ i) : ∀ (ds : List D) (vs : List V), lowAll n' ds = true → Reps G μ n H ds vs → Reps G μ' n' H ds vs
  | [], _, _, h => h
  | d :: ds, _, l, ⟨v, r, e, h, t⟩ => by
    have l' : (d.lowB n' && lowAll n' ds) = true := l
    rw [Bool.and_eq_true] at l'
    exact ⟨v, r, e, Rep.cut hμ d v l'.1 h, Reps.cut hμ ds r l'.2 t⟩
end
mutual
theorem refless_low : ∀ (d : D), d.refless = true → d.lowB n = true
  | .non, _ => rfl
  | .bl _, _ => rfl
  | .int _, _ => rfl
  | .str _, _ => rfl
  | .tup ds, h => reflessAll_low ds h
  | .ref _, h => by cases h
  | .clo _ _, h => by cases h
  | .kls _, h => by cases h
theorem reflessAll_low : ∀ (ds : List D), reflessAll ds = true → lowAll n ds = true
  | [], _ => rfl
  | d :: ds, h => by
    have h' : (d.refless && reflessAll ds) = true := h
    rw [Bool.and_eq_true] at h'
    show (d.lowB n && lowAll n ds) = true
    rw [refless_low d h'.1, reflessAll_low ds h'.2]; rfl
end
theorem KReps.low : ∀ {ds : List (Key × D)} {vs : List (Key × V)}, KReps G μ n H ds vs → lowAll n (ds.map (·.2)) = true
  | [], _, _ => rfl
  | p :: ds, _, ⟨v, r, e, h, t⟩ => by
    show (p.2.lowB n && lowAll n (ds.map (·.2))) = true
    rw [Rep.low p.2 v h, KReps.low t]; rfl
theorem FReps.low : ∀ {ds : List (Str × D)} {vs : List (Str × V)}, FReps G μ n H ds vs → lowAll n (ds.map (·.2)) = true
  | [], _, _ => rfl
  | p :: ds, _, ⟨v, r, e, h, t⟩ => by
    show (p.2.lowB n && lowAll n (ds.map (·.2))) = true
    rw [Rep.low p.2 v h, FReps.low t]; rfl
theorem KReps.cut (hμ : ∀ i, i < n' → μ' i = μ i) : ∀ {ds : List (Key × D)} {vs : List (Key × V)}, lowAll n' (ds.map (·.2)) = true → KReps G μ n H ds vs → KReps G μ' n' H ds vs
  | [], _, _, h => h
  | p :: ds, _, l, ⟨v, r, e, h, t⟩ => by
    have l' : (p.2.lowB n' && lowAll n' (ds.map (·.2))) = true := l
    rw [Bool.and_eq_true] at l'
    exact ⟨v, r, e, Rep.cut hμ _ v l'.1 h, KReps.cut hμ l'.2 t⟩
theorem FReps.cut (hμ : ∀ i, i < n' → μ' i = μ i) : ∀ {ds : List (Str × D)} {vs : List (Str × V)}, lowAll n' (ds.map (·.2)) = true → FReps G μ n H ds vs → FReps G μ' n' H ds vs
  | [], _, _, h => h
  | p :: ds, _, l, ⟨v, r, e, h, t⟩ => by
    have l' : (p.2.lowB n' && lowAll n' (ds.map (·.2))) = true := l
    rw [Bool.and_eq_true] at l'
    exact ⟨v, r, e, Rep.cut hμ _ v l'.1 h, FReps.cut hμ l'.2 t⟩
theorem RepO.low {o : O} {a : Addr} (h : RepO G μ n H o a) : o.lowB n = true := by
  cases o with
  | lst ds => obtain ⟨z, vs, q, r⟩ := h; exact Reps.low _ _ r
  | dic kvs lock =>
    cases lock with
    | false => obtain ⟨z, vs, q, r⟩ := h; exact r.low
    | true => obtain ⟨z, ob, vs, q, r⟩ := h; exact r.low
  | ins C fs => obtain ⟨k1, k2, dx, vs, q, r⟩ := h; exact r.low
  | iset xs => rfl
  | frz ds => obtain ⟨z, ob, vs, q, r⟩ := h; exact Reps.low _ _ r
theorem RepO.cut (hμ : ∀ i, i < n' → μ' i = μ i) {o : O} {a : Addr} (l : o.lowB n' = true) (h : RepO G μ n H o a) : RepO G μ' n' H o a := by
  cases o with
  | lst ds => obtain ⟨z, vs, q, r⟩ := h; exact ⟨z, vs, q, Reps.cut hμ _ _ l r⟩
  | dic kvs lock =>
    cases lock with
    | false => obtain ⟨z, vs, q, r⟩ := h; exact ⟨z, vs, q, r.cut hμ l⟩
    | true => obtain ⟨z, ob, vs, q, r⟩ := h; exact ⟨z, ob, vs, q, r.cut hμ l⟩
  | ins C fs => obtain ⟨k1, k2, dx, vs, q, r⟩ := h; exact ⟨k1, k2, dx, vs, q, r.cut hμ l⟩
  | iset xs => exact h
  | frz ds => obtain ⟨z, ob, vs, q, r⟩ := h; exact ⟨z, ob, vs, q, Reps.cut hμ _ _ l r⟩
end
/-! ### garbage -/
section
variable {G : Gam} {W : WX} {σ : L2.St} {μ μ' : Nat → Addr} {st st' : AS} {H H' : Hp} {Q : VK}
theorem Nx.cut (x : Nx μ st.length H μ' st'.length H') : Nx μ st.length H μ' (st'.take st.length).length H' := by
  have e : (st'.take st.length).length = st.length := by rw [List.length_take]; exact Nat.min_eq_left x.le
  rw [e]
  exact ⟨⟨Nat.le_refl _, x.ext, x.tup⟩, x.frm, fun i h1 h2 => absurd (Nat.lt_of_lt_of_le h2 h1) (Nat.lt_irrefl _), x.keep⟩
theorem Rl.cut (R : Rl G μ st H) (x : Nx μ st.length H μ' st'.length H') (R' : Rl G μ' st' H') (g : GcOk st st') : Rl G μ' (st'.take st.length) H' := by
  have e : (st'.take st.length).length = st.length := by rw [List.length_take]; exact Nat.min_eq_left x.le
  refine ⟨fun i j hi hj => ?_, fun i o h => ?_⟩
  · rw [e] at hi hj
    exact R'.inj i j (Nat.lt_of_lt_of_le hi x.le) (Nat.lt_of_lt_of_le hj x.le)
  · have hi := (List.getElem?_eq_some_iff.mp h).1
    rw [e] at hi ⊢
    rw [List.getElem?_take_of_lt hi] at h
    have q := R'.obj i o h
    refine q.cut (fun _ _ => rfl) ?_
    rcases g i hi with k | ⟨u, k, l⟩
    · rw [h] at k
      exact (R.obj i o k.symm).low
    · rw [h] at k
      cases k
      exact l
theorem gc_ok {r : Res D} (R : Rl G μ st H) (p : PostR G W σ μ st.length H (PV G Q) (gcR st r)) : PostR G W σ μ st.length H (PV G Q) r := by
  classical
  cases r with
  | ok d st' =>
    unfold gcR at p
    dsimp only at p
    split at p
    · rename_i g
      have cut1 : ∀ μ' H', Nx μ st.length H μ' st'.length H' → (st'.take st.length).length = st.length := fun μ' H' x => by rw [List.length_take]; exact Nat.min_eq_left x.le
      split at p
      · rename_i hd
        intro μ' H' x R' v rv
        refine p μ' H' x.cut (R.cut x R' g) v ?_
        exact Rep.cut (fun _ _ => rfl) d v (refless_low d hd) rv
      · cases d with
        | ref r =>
          dsimp only at p
          split at p
          · rename_i hr
            split at p
            · rename_i o ho
              split at p
              · rename_i hf
                intro μ' H' x R' v rv
                obtain ⟨hl, rfl⟩ := rv
                have el := cut1 μ' H' x
                have Rc := R.cut x R' g
                have hne : ∀ i, i < (st'.take st.length).length → μ' i ≠ μ' r := fun i hi e => by
                  rw [el] at hi
                  have := R'.inj i r (Nat.lt_of_lt_of_le hi x.le) hl e
                  omega
                have hlow : ∀ k, o.lowB k = true := fun k => by
                  cases o with
                  | lst xs => exact reflessAll_low xs hf
                  | _ => cases hf
                have R2 : Rl G (extM μ' (st'.take st.length).length (μ' r)) (st'.take st.length ++ [o]) H' := by
                  refine Rc.adopt hne ?_
                  have q := R'.obj r o ho
                  cases o with
                  | lst xs =>
                    obtain ⟨z, vs, q1, q2⟩ := q
                    refine ⟨z, vs, q1, ?_⟩
                    have q3 : Reps G μ' 0 H' xs vs := Reps.cut (fun _ _ => rfl) _ _ (reflessAll_low xs hf) q2
                    exact Reps.mono ⟨Nat.zero_le _, fun i hi => absurd hi (Nat.not_lt_zero i), fun _ _ h => h⟩ _ _ q3
                  | _ => cases hf
                rw [el] at R2
                refine p _ H' ?_ R2 _ ⟨by rw [List.length_append, el]; simp, by rw [extM_at]⟩
                rw [List.length_append, List.length_singleton, el]
                refine ⟨⟨Nat.le_succ _, fun i hi => by rw [extM_lt hi]; exact x.ext i hi, x.tup⟩, x.frm, fun i h1 h2 => ?_, x.keep⟩
                have ei : i = st.length := by omega
                rw [ei, extM_at]
                exact x.new r hr hl
              · exact p
            · exact p
          · exact p
        | _ => exact p
    · exact p
  | exn c q st' =>
    unfold gcR at p
    dsimp only at p
    split at p
    · rename_i g
      split at p
      · rename_i hq
        intro μ' dx H' x R' py
        refine p μ' dx H' x.cut (R.cut x R' g) ?_
        cases q with
        | non => trivial
        | bl b => obtain ⟨d, v, h1, h2, h3⟩ := py; exact ⟨d, v, h1, h2, h3⟩
        | int b => obtain ⟨d, v, h1, h2, h3⟩ := py; exact ⟨d, v, h1, h2, h3⟩
        | str b => obtain ⟨d, v, h1, h2, h3⟩ := py; exact ⟨d, v, h1, h2, h3⟩
        | tup ds => obtain ⟨d, v, h1, h2, h3⟩ := py; exact ⟨d, v, h1, h2, Rep.cut (fun _ _ => rfl) _ v (refless_low _ hq) h3⟩
        | ref l => cases hq
        | clo f cs => cases hq
        | kls _ => cases hq
      · exact p
    · exact p
  | bad => exact p
end

/-! ### the rule for a def -/
theorem Reps.entry {G : Gam} {μ : Nat → Addr} {n : Nat} {H : Hp} {ds : List D} {vs : List V} {N : List Str} {ns : Nat} (h : Reps G μ n H ds vs) (e : ns = N.length) : ER G μ n H (startE ns ds) (L2.start N vs) := by
  subst e
  have hl := h.length
  refine ⟨by unfold startE L2.start; rw [List.length_append, List.length_append, List.length_map, List.length_map, List.length_replicate, List.length_replicate, hl], fun i d hi => ?_⟩
  unfold startE at hi
  unfold L2.start
  by_cases hlt : i < ds.length
  · rw [List.getElem?_append_left (by simpa using hlt), List.getElem?_map, Option.map_eq_some_iff] at hi
    obtain ⟨a, h1, h2⟩ := hi
    cases h2
    obtain ⟨v, h3, h4⟩ := h.get h1
    exact ⟨v, by rw [List.getElem?_append_left (by simpa using (hl ▸ hlt)), List.getElem?_map, h3]; rfl, h4⟩
  · rw [List.getElem?_append_right (by simpa using hlt), List.getElem?_replicate] at hi
    split at hi <;> cases hi
theorem res_ok {G : Gam} {μ : Nat → Addr} {n : Nat} {H : Hp} {Q : VK} {E : XK} {σ : L2.St} {r : RS} (p : PostR G (fun c d _ H => E c d H) σ μ n H (PV G Q) r.res) :
    PostS G (fun c d _ H => E c d H) { nx := fun _ H' => Q .non H', rt := Q } μ n H r := by
  cases r with
  | next env st => exact fun μ' H' σ' nx rl er => p μ' H' nx rl _ rfl
  | ret d st => exact fun μ' H' v nx rl rv => p μ' H' nx rl v rv
  | brk env st => exact p.elim
  | cont env st => exact p.elim
  | exn c q env st => exact fun μ' dx H' σ' nx rl er py => p μ' dx H' nx rl py
  | bad => exact p
theorem fn_rule {G : Gam} {base : Heap} {Pg : Program} {P : Nat → Option FDef} {n k f : Nat} {x qual : Str} {st : Stmt} {N : List Str} {fd : FDef} (F : Fun G.K x qual st (G.fA f) (G.fD f)) (S : FnScope N (G.fP f) (defScope st))
    (hP : P f = some fd) (np : fd.np = (G.fP f).length) (ns : fd.ns = N.length)
    (hbody : ∀ (cdv : Value) (A : Around) (outer : List PySem.Env) (s : Shared) (H : Hp) (E : XK), Room k (A.deeper (envOfC qual (defScope st) s.heap.objs.size (G.fA f) cdv)) →
      PSs (cxOf (L2.CX Pg G.w) Pg G.w G.K G.mg base N qual (defScope st) (G.fA f) cdv A outer s H E) (defBody st) (tS G (fun c d _ H => E c d H) fun env st => exSs (callF P n) fd.body env st)) :
    FnOk Pg G.w G.K G.mg base (L2.CX Pg G.w) (k + 1) (G.fA f) (G.fD f) (G.fP f) (spI G (callF P (n + 1)) f) := by
  refine Fun.okX F S (fun vs H Q E h => h.1) fun cdv A outer s H vs Q E hr hsp => ⟨_, hbody cdv A outer s H E hr, ?_⟩
  obtain ⟨hl, μ, st0, ds, R, rs, p⟩ := hsp
  refine ⟨μ, startE fd.ns ds, st0, R, rs.entry ns, ?_⟩
  unfold callF at p
  rw [hP] at p
  dsimp only at p
  rw [if_pos (by rw [np, rs.length, hl])] at p
  exact res_ok (gc_ok R p)
end Ws
end
end

section
set_option Elab.async false
set_option linter.all false
set_option maxRecDepth 100000
set_option maxHeartbeats 4000000
/-! WsX: instances: fields, methods, making; methods of built-in types; dict displays. -/
noncomputable section
namespace Ws
open PySem PySem.Spec PyProof.Rows L2
/-! ### method calls -/
def notCallE : Expr → Bool
  | .Call _ _ _ _ => false
  | _ => true
theorem attrBase_ok {o : Expr} {m : Str} {env : PySem.Env} {w : Sem Value} (h : notCallE o = true) : attributeBase o m env w = w := by
  cases o <;> first | rfl | cases h
theorem meth_form {o : Expr} {m : Str} {apos pos : Pos} {args : List Expr} {env : PySem.Env} (h1 : notCallE o = true) (h2 : methodCallForm (args.length + ([] : List Keyword).length) (backTo pos (starEach args env)) (backToKw pos (keywordEach [] env)) = true) (h4 : (apos.endLine == pos.line) = true) :
    eval (.Call (.Attribute o m apos) args [] pos) env = (do
      let ov ← eval o env
      standAt apos.atName
      let (f, first) ← holding [ov] (getMethod ov m (do return (← importBound o env).getD true))
      callWith pos f first (backTo pos (starEach args env)) (backToKw pos (keywordEach [] env))) := by
  rw [arm_eval_Call, attrBase_ok h1]
  unfold methodCall
  rw [h2]
  have hp : methodCallPos true o env apos pos = pure pos := by
    unfold methodCallPos
    rw [if_pos]
    simp [h4]
  rw [hp]
  simp only [pure_bind]
  rfl
theorem form_ok {n : Nat} {pos : Pos} {env : PySem.Env} : ∀ {args : List Expr}, (backTo pos (starEach args env)).any (·.1) = false → n + 0 < 30 → methodCallForm n (backTo pos (starEach args env)) (backToKw pos (keywordEach [] env)) = true := by
  intro args h hn
  unfold methodCallForm
  have e : (backTo pos (starEach args env)).all (fun x => !x.1) = true := by
    rw [List.all_eq_true]
    intro x hx
    have := List.any_eq_false.mp h x hx
    simpa using this
  rw [e]
  have e2 : backToKw pos (keywordEach [] env) = [] := rfl
  rw [e2]
  simp
  omega
section
variable {X : Cx} {CX : CXT} {k : Nat} {C f : Addr} {fd : FuncData} {ps : List Str} {sp : Sp} {E : L2.St → XK} {x m : Str} {p pos apos : Pos} {e o : Expr} {es : List Expr} {ta : TE} {t : TA} {pl : Sem Bool}
def tMethE (C : Addr) (m : Str) (sp : Sp) (E : L2.St → XK) (ta : TE) (t : TA) : TE := fun σ H Q => ta σ H fun x H1 => ∃ a dx fs, x = .ref a ∧ H1 a = some (.ins C dx fs) ∧ fs.lookup m = none ∧ t σ H1 fun vs H2 => sp (x :: vs) H2 Q (E σ)
theorem pe_methE (he : PE X o ta) (c : Cls X.K C) (hm : Meth X.K C m f) (F : FnOk X.prog X.w X.K X.mg X.base CX k f fd ps sp) (hr : Room k X.A) (hb : Binds X.K fd ps []) (hx : ∀ σ, PassesAt CX X σ (E σ)) (ha : PA X (e :: es) t)
    (hst : starEach (e :: es) X.env = (false, eval e X.env) :: starEach es X.env) (hpl : (backTo pos (starEach es X.env)).any (·.1) = false)
    (ht : eval (.Call (.Attribute o m apos) (e :: es) [] pos) X.env = (do
      let ov ← eval o X.env
      standAt apos.atName
      let (f, first) ← holding [ov] (getMethod ov m pl)
      callWith pos f first (backTo pos (starEach (e :: es) X.env)) (backToKw pos (keywordEach [] X.env)))) :
    PE X (.Call (.Attribute o m apos) (e :: es) [] pos) (tMethE C m sp E ta t) := by
  constructor
  intro pins s σ H Q I h
  apply PySem.W.methodCall_KW (pl := pl) _ ht
  apply thn (he.run pins s σ H _ I h)
  rintro u s1 ⟨x, H1, I1, rx, a, dx, fs, ex, ea, l, q⟩
  subst ex
  obtain rfl : u = Value.ref a := rx
  apply getmeth_ok I1 ea c hm l
  apply PySem.W.callWith_K (first := [.ref a]) (h₀ := X.base) I.ok.mod.kin hm.kp _ hst hpl
  apply thn (ha.run pos pins s1 σ H1 _ I1 q)
  rintro us s2 ⟨vs, H2, I2, r, q2⟩
  exact ⟨I2.kIn, run_fnS (us := .ref a :: us) (vs := .ref a :: vs) F hr hb (hx σ) I2 (.cons rfl r) q2⟩
theorem pe_methE0 (he : PE X o ta) (c : Cls X.K C) (hm : Meth X.K C m f) (F : FnOk X.prog X.w X.K X.mg X.base CX k f fd ps sp) (hr : Room k X.A) (hb : Binds X.K fd ps []) (hx : ∀ σ, PassesAt CX X σ (E σ))
    (ht : eval (.Call (.Attribute o m apos) [] [] pos) X.env = (do
      let ov ← eval o X.env
      standAt apos.atName
      let (f, first) ← holding [ov] (getMethod ov m pl)
      callWith pos f first (backTo pos (starEach [] X.env)) (backToKw pos (keywordEach [] X.env)))) :
    PE X (.Call (.Attribute o m apos) [] [] pos) (tMethE C m sp E ta tNil) := by
  constructor
  intro pins s σ H Q I h
  apply PySem.W.methodCall_KW (pl := pl) _ ht
  apply thn (he.run pins s σ H _ I h)
  rintro u s1 ⟨x, H1, I1, rx, a, dx, fs, ex, ea, l, q⟩
  subst ex
  obtain rfl : u = Value.ref a := rx
  apply getmeth_ok I1 ea c hm l
  exact PySem.W.callWith_K0 (first := [.ref a]) I1.kIn hm.kp (run_fnS (us := [.ref a]) (vs := [.ref a]) F hr hb (hx σ) I1 (.cons rfl .nil) q)
/-! ### making -/
def tMakeE (C : Addr) (sp : Sp) (E : L2.St → XK) (t : TA) : TE := fun σ H Q => t σ H fun vs H1 => ∀ x dx, H1 x = none → H1 dx = none → dx ≠ x → sp (.ref x :: vs) (upd (upd H1 dx (.own x)) x (.ins C dx [])) (fun v H2 => v = .non ∧ Q (.ref x) H2) (E σ)
theorem run_makeE {pins : List (Addr × Obj)} {σ : L2.St} {H : Hp} {s : Shared} {Q : VK} {us : List Value} {vs : List V} (M : Mk X.K C f) (F : FnOk X.prog X.w X.K X.mg X.base CX k f fd ps sp) (hr : Room (k + 1) X.A) (hb : Binds X.K fd ps [])
    (hx : PassesAt CX X σ (E σ)) (I : Inv X pins σ H s) (r : Vals vs us)
    (h : ∀ x dx, H x = none → H dx = none → dx ≠ x → sp (.ref x :: vs) (upd (upd H dx (.own x)) x (.ins C dx [])) (fun v H2 => v = .non ∧ Q (.ref x) H2) (E σ)) :
    wpAny (model X.prog X.w) X.A (call (.ref C) us) (EP X pins σ Q) X.xe s := by
  have hq := h (s.heap.objs.size + 1) s.heap.objs.size (I.hok.fresh (Nat.le_succ _)) (I.hok.fresh (Nat.le_refl _)) (Nat.ne_of_lt (Nat.lt_succ_self _))
  have I2 := Inv.made (C := C) I
  have r2 : Vals (V.ref (s.heap.objs.size + 1) :: vs) (Value.ref (s.heap.objs.size + 1) :: us) := .cons rfl r
  have hl : (Value.ref (s.heap.objs.size + 1) :: us).length = ps.length := by
    have z := r2.length
    rw [F.len _ _ _ _ hq] at z
    exact z.symm
  have b := hb _ (Value.ref (s.heap.objs.size + 1) :: us) I2.kIn (by rw [List.append_nil]; exact hl)
  rw [List.append_nil] at b
  have go := F.run _ X.stack _ _ ⟨Value.ref (s.heap.objs.size + 1) :: us, []⟩ (Value.ref (s.heap.objs.size + 1) :: us) _ _ (E σ) (hr.make C us []) (I2.env0.make C us []) b r2 hq
  apply wpAny_call
  apply make_map (f := f) I.kIn M.makes M.init (beq_iff_eq.mp M.fn)
  apply codeAny_mono go
  intro r s' hq'
  match r with
  | .error z => exact hx pins _ _ z s' I2 hq'
  | .ok (.ret u) =>
    obtain ⟨v, H', I3, rv, ev, q3⟩ := I2.after hq'
    subst ev
    exact ⟨rv, ⟨V.ref (s.heap.objs.size + 1), H', I3, rfl, q3⟩⟩
  | .ok .next => exact False.elim hq'
  | .ok .brk => exact False.elim hq'
  | .ok .cont => exact False.elim hq'
theorem pe_makeE (M : Mk X.K C f) (F : FnOk X.prog X.w X.K X.mg X.base CX k f fd ps sp) (hr : Room (k + 1) X.A) (hg : Gl X x) (hm : X.mg x = some (.ref C)) (hb : Binds X.K fd ps []) (hx : ∀ σ, PassesAt CX X σ (E σ))
    (ha : PA X (e :: es) t) (hdb : (x == ("__debug__" : Str)) = false) (hst : starEach (e :: es) X.env = (false, eval e X.env) :: starEach es X.env) (hpl : (backTo pos (starEach es X.env)).any (·.1) = false) :
    PE X (.Call (.Name x p) (e :: es) [] pos) (tMakeE C sp E t) := by
  constructor
  intro pins s σ H Q I h
  apply wpAny_Call_Name_kw
  apply ld_glob I hg hm _ hdb
  apply PySem.W.callWith_K (h₀ := X.base) I.ok.mod.kin M.kp _ hst hpl
  apply thn (ha.run pos pins s σ H _ I h)
  rintro us s1 ⟨vs, H1, I1, r, q⟩
  exact ⟨I1.kIn, run_makeE M F hr hb (hx σ) I1 r q⟩
end
end Ws
end
end

section
set_option Elab.async false
set_option linter.all false
set_option maxRecDepth 100000
set_option maxHeartbeats 4000000
/-! WsJ: the checker of expressions against the text, and what it is good for. -/
noncomputable section
namespace Ws
open PySem PySem.Spec PyProof.Rows L2
/-! ### tables -/
structure Tab where
  fns : Nat → Option (Option Str × List Str)
  exs : Nat → Option Str
  exr : List Nat
  blt : List Str
  glb : List (Nat × Str × D)
/-- the place in the text: the scope, the names whose cells are made here, the slots -/
structure Sx where
  sc : Scope
  fn : Str → Bool
  N : List Str
def relab (sc scope : Scope) : Scope := { scope with names := scope.names.map fun (n, k) => if (k == .free && sc.kind == .function && sc.names.lookup n == some .cell) then (n, .cell) else (n, k) }
def blkS (S : Sx) (scope : Scope) : Sx := ⟨relab S.sc scope, fun x => scope.names.lookup x == some .cell, S.N⟩
/-! ### small looks -/
mutual
def D.eqB : D → D → Bool
  | .non, .non => true
  | .bl a, .bl b => a == b
  | .int a, .int b => decide (a = b)
  | .str a, .str b => decide (a = b)
  | .tup a, .tup b => eqBs a b
  | _, _ => false
def eqBs : List D → List D → Bool
  | [], [] => true
  | a :: r, b :: s => a.eqB b && eqBs r s
  | _, _ => false
end
mutual
theorem eqB_eq : ∀ {a b : D}, a.eqB b = true → a = b
  | .non, .non, _ => rfl
  | .bl a, .bl b, h => by rw [eq_of_beq (show (a == b) = true from h)]
  | .int a, .int b, h => by rw [of_decide_eq_true (show decide (a = b) = true from h)]
  | .str a, .str b, h => by rw [of_decide_eq_true (show decide (a = b) = true from h)]
  | .tup a, .tup b, h => by rw [eqBs_eq (show eqBs a b = true from h)]
  | .non, .bl _, h => by simp [D.eqB] at h
  | .non, .int _, h => by simp [D.eqB] at h
  | .non, .str _, h => by simp [D.eqB] at h
  | .non, .tup _, h => by simp [D.eqB] at h
  | .non, .ref _, h => by simp [D.eqB] at h
  | .non, .clo _ _, h => by simp [D.eqB] at h
  | .non, .kls _, h => by simp [D.eqB] at h
  | .bl _, .non, h => by simp [D.eqB] at h
  | .bl _, .int _, h => by simp [D.eqB] at h
  | .bl _, .str _, h => by simp [D.eqB] at h
  | .bl _, .tup _, h => by simp [D.eqB] at h
  | .bl _, .ref _, h => by simp [D.eqB] at h
  | .bl _, .clo _ _, h => by simp [D.eqB] at h
  | .bl _, .kls _, h => by simp [D.eqB] at h
  | .int _, .non, h => by simp [D.eqB] at h
  | .int _, .bl _, h => by simp [D.eqB] at h
  | .int _, .str _, h => by simp [D.eqB] at h
  | .int _, .tup _, h => by simp [D.eqB] at h
  | .int _, .ref _, h => by simp [D.eqB] at h
  | .int _, .clo _ _, h => by simp [D.eqB] at h
  | .int _, .kls _, h => by simp [D.eqB] at h
  | .str _, .non, h => by simp [D.eqB] at h
  | .str _, .bl _, h => by simp [D.eqB] at h
  | .str _, .int _, h => by simp [D.eqB] at h
  | .str _, .tup _, h => by simp [D.eqB] at h
  | .str _, .ref _, h => by simp [D.eqB] at h
  | .str _, .clo _ _, h => by simp [D.eqB] at h
  | .str _, .kls _, h => by simp [D.eqB] at h
  | .tup _, .non, h => by simp [D.eqB] at h
  | .tup _, .bl _, h => by simp [D.eqB] at h
  | .tup _, .int _, h => by simp [D.eqB] at h
  | .tup _, .str _, h => by simp [D.eqB] at h
  | .tup _, .ref _, h => by simp [D.eqB] at h
  | .tup _, .clo _ _, h => by simp [D.eqB] at h
  | .tup _, .kls _, h => by simp [D.eqB] at h
  | .ref _, _, h => by simp [D.eqB] at h
  | .clo _ _, _, h => by simp [D.eqB] at h
  | .kls _, _, h => by simp [D.eqB] at h
theorem eqBs_eq : ∀ {a b : List D}, eqBs a b = true → a = b
  | [], [], _ => rfl
  | a :: r, b :: s, h => by
    have h' : (a.eqB b && eqBs r s) = true := h
    rw [Bool.and_eq_true] at h'
    rw [eqB_eq h'.1, eqBs_eq h'.2]
  | [], _ :: _, h => by simp [eqBs] at h
  | _ :: _, [], h => by simp [eqBs] at h
end
def notStar : Expr → Bool
  | .Starred _ _ => false
  | _ => true
def notComp : Expr → Bool
  | .ListComp _ _ _ _ => false
  | .SetComp _ _ _ _ => false
  | .DictComp _ _ _ _ _ => false
  | _ => true
def notSetE : Expr → Bool
  | .Set _ _ _ => false
  | _ => true
def notSlice : Expr → Bool
  | .Slice _ _ _ _ => false
  | .Tuple _ _ _ => false
  | _ => true
def plainT : Expr → Bool
  | .Name _ _ => true
  | .Call _ _ _ _ => true
  | .Attribute _ _ _ => true
  | .Subscript _ _ _ => true
  | .Constant _ _ _ => true
  | _ => false
theorem star_one {e : Expr} {es : List Expr} {env : PySem.Env} (h : notStar e = true) : starEach (e :: es) env = (false, eval e env) :: starEach es env := by
  cases e <;> first | rfl | (cases h)
theorem back_any {pos : Pos} {env : PySem.Env} : ∀ {es : List Expr}, es.all notStar = true → (backTo pos (starEach es env)).any (·.1) = false
  | [], _ => rfl
  | e :: es, h => by
    rw [List.all_cons, Bool.and_eq_true] at h
    rw [star_one h.1]
    show (false || (backTo pos (starEach es env)).any (·.1)) = false
    rw [back_any h.2]; rfl
theorem swaps_no {e : Expr} {t : Option Expr} {l : Nat} {env : PySem.Env} (h : notComp e = true) : swapsWith e t l env = pure false := by
  cases e <;> first | rfl | (cases h)
theorem swaps_sub {e o i : Expr} {p : Pos} {l : Nat} {env : PySem.Env} : swapsWith e (some (.Subscript o i p)) l env = pure false := by
  cases e <;> rfl
theorem notSet_ok {e : Expr} {env : PySem.Env} (h : notSetE e = true) : ∀ x, foldedSetIterable e env x = pure x := by
  intro x
  cases e <;> first | rfl | (cases h)
theorem plainIx_ok {e : Expr} (h : notSlice e = true) : PlainIx e := by
  intro o i
  cases e <;> first | rfl | (cases h)
theorem noSl_ok {e : Expr} (h : notSlice e = true) : NoSl e := by
  intro o i
  cases e <;> first | rfl | (cases h)
theorem plainT_ok {e : Expr} {env : PySem.Env} (h : plainT e = true) : ∀ whole, isTrue e env whole = (do let v ← whole; standAt e.pos; holding [v] (truthy v)) := by
  intro whole
  cases e <;> first | rfl | (cases h)
/-! ### names -/
def visB (S : Sx) (i : Nat) (x : Str) : Bool := decide (S.N[i]? = some x) && (decide (S.sc.names.lookup x = some .local) || decide (S.sc.names.lookup x = some .cell) || decide (S.sc.names.lookup x = some .free)) && !(x == ("__debug__" : Str)) && !(x == ("__classdict__" : Str))
def locB (S : Sx) (i : Nat) (x : Str) : Bool := decide (S.N[i]? = some x) && (decide (S.sc.names.lookup x = some .local) || (decide (S.sc.names.lookup x = some .cell) && S.fn x))
def glB (S : Sx) (x : Str) : Bool := decide (S.sc.names.lookup x = some .globalImplicit) && !(x == ("__debug__" : Str)) && !(x == ("__name__" : Str))
def bltB (Tt : Tab) (S : Sx) (x : Str) : Bool := glB S x && decide (x ∈ Tt.blt)
def constB : D → Const → Bool
  | .non, .none => true
  | .bl b, .bool c => b == c
  | .int i, .int j => decide (i = j)
  | .str x, .str y => decide (x = y)
  | _, _ => false
def biN : Bi → Str
  | .len => "len"
  | .all => "all"
  | .any => "any"
  | .sum => "sum"
  | .min => "min"
  | .max => "max"
  | .sorted => "sorted"
  | .set => "set"
  | .list => "list"
  | .tuple => "tuple"
  | .int => "int"
  | .str => "str"
def esLen : Es → Nat
  | .nil => 0
  | .cons _ r => esLen r + 1
mutual
def chkTg (S : Sx) : Tg → Expr → Bool
  | .name i, .Name x _ => locB S i x
  | .tup ts, .Tuple es _ _ => chkTgs S ts es
  | _, _ => false
def chkTgs (S : Sx) : Tgs → List Expr → Bool
  | .nil, [] => true
  | .cons t r, e :: es => notStar e && chkTg S t e && chkTgs S r es
  | _, _ => false
end
section
variable (Tt : Tab)
mutual
def chkE : E → Sx → Expr → Bool
  | .bad, _, _ => true
  | .var i, S, ex => match ex with
    | .Name x _ => visB S i x
    | _ => false
  | .lit d, S, ex => match ex with
    | .Constant c _ _ => constB d c
    | _ => false
  | .glo k d, S, ex => match ex with
    | .Name y _ => glB S y && Tt.glb.any fun p => decide (p.1 = k) && decide (p.2.1 = y) && p.2.2.eqB d
    | _ => false
  | .tup es, S, ex => match ex with
    | .Tuple xs _ _ => chkEs es S xs && decide (esLen es ≤ 1000)
    | _ => false
  | .lst es, S, ex => match ex with
    | .List xs _ => chkEs es S xs && decide (esLen es ≤ 1000)
    | _ => false
  | .dic0, _, _ => false
  | .dic1 _ _, _, _ => false
  | .bin op a b, S, ex => match ex with
    | .BinOp x o y _ => decide (bOp op = o) && chkE a S x && chkE b S y
    | _ => false
  | .neg a, S, ex => match ex with
    | .UnaryOp .USub x _ => chkE a S x
    | _ => false
  | .nt a, S, ex => match ex with
    | .UnaryOp .Not x _ => chkE a S x
    | _ => false
  | .and a b, S, ex => match ex with
    | .BoolOp .And [x, y] _ => chkE a S x && chkE b S y
    | .BoolOp .And (x :: y :: z :: r) p => chkE a S x && chkE b S (.BoolOp .And (y :: z :: r) p)
    | _ => false
  | .or a b, S, ex => match ex with
    | .BoolOp .Or [x, y] _ => chkE a S x && chkE b S y
    | .BoolOp .Or (x :: y :: z :: r) p => chkE a S x && chkE b S (.BoolOp .Or (y :: z :: r) p)
    | _ => false
  | .cmp op a b, S, ex => match ex with
    | .Compare x [o] [y] _ => decide (cOp op = o) && !(behindInMarks (cOp op) y) && chkE a S x && chkE b S y
    | _ => false
  | .chain p q a b c, S, ex => match ex with
    | .Compare x [o, o'] [y, z] _ => decide (cOp p = o) && decide (cOp q = o') && !(lastMarks [cOp p, cOp q] [y, z]) && chkE a S x && chkE b S y && chkE c S z
    | _ => false
  | .isN a, S, ex => match ex with
    | .Compare x [.Is] [.Constant .none _ _] _ => chkE a S x
    | _ => false
  | .notN a, S, ex => match ex with
    | .Compare x [.IsNot] [.Constant .none _ _] _ => chkE a S x
    | _ => false
  | .ite t a b, S, ex => match ex with
    | .IfExp x y z _ => chkT t S x && chkE a S y && chkE b S z
    | _ => false
  | .call f es, S, ex => match ex with
    | .Call (.Name x _) (y :: ys) [] _ => glB S x && (match Tt.fns f with
      | some (some z, ps) => decide (z = x) && decide (esLen es = ps.length)
      | _ => false) && chkEs es S (y :: ys)
    | _ => false
  | .make _ _ _, _, _ => false
  | .meth _ _ _ _, _, _ => false
  | .prop _ _ _, _, _ => false
  | .bi b es, S, ex => match ex with
    | .Call (.Name x _) (y :: ys) [] _ => decide (biN b = x) && bltB Tt S x && chkEs es S (y :: ys)
    | _ => false
  | .isi t e, S, ex => match ex with
    | .Call (.Name x _) [y, .Name z _] [] _ => decide (x = "isinstance") && decide (Str.ofString t = z) && decide (t ∈ isiT) && bltB Tt S x && bltB Tt S z && notStar y && chkE e S y
    | _ => false
  | .bm _ _ _, _, _ => false
  | .fld _ _, _, _ => false
  | .ix a b, S, ex => match ex with
    | .Subscript x y _ => notSlice y && chkE a S x && chkE b S y
    | _ => false
  | .ixd a b, S, ex => match ex with
    | .Subscript x y _ => notSlice y && chkE a S x && chkE b S y
    | _ => false
  | .sl a lo hi, S, ex => match ex with
    | .Subscript x (.Slice l h none _) _ => chkE a S x && chkEo lo S l && chkEo hi S h
    | _ => false
  | .slr _, _, _ => false
  | .ginD _ _ _ _, _, _ => false
  | .gixD _ _ _, _, _ => false
  | .lc own elt tg src c, S, ex => match ex with
    | .ListComp x [g] scope _ => decide (g.is_async = 0) && notSetE g.iter && blkC S.N S.sc scope own && (tslots tg).all (fun i => decide (i ∈ own.map (·.2))) && chkTg (blkS S scope) tg g.target && chkSrc src S g.target g.iter &&
        chkTo c (blkS S scope) g.ifs && chkE elt (blkS S scope) x
    | _ => false
  | .lcd _ _ _ _ _, _, _ => false
  | .lc2 _ _ _ _ _ _ _, _, _ => false
  | .dc2 _ _ _ _ _ _ _, _, _ => false
  | .fstr _, _, _ => false
  | .lzip _ _, _, _ => false
  | .lrng1 _, _, _ => false
  | .lrng3 _ _ _, _, _ => false
  | .clo _ _, _, _ => false
  | .callc _ _, _, _ => false
  | .lenI _ _ _, _, _ => false
def chkT : T → Sx → Expr → Bool
  | .bad, _, _ => true
  | .ginD _ _ _ _, _, _ => false
  | .nt a, S, ex => match ex with
    | .UnaryOp .Not x _ => chkT a S x
    | _ => false
  | .and a b, S, ex => match ex with
    | .BoolOp .And [x, y] _ => chkT a S x && chkT b S y
    | .BoolOp .And (x :: y :: z :: r) p => chkT a S x && chkT b S (.BoolOp .And (y :: z :: r) p)
    | _ => false
  | .or a b, S, ex => match ex with
    | .BoolOp .Or [x, y] _ => chkT a S x && chkT b S y
    | .BoolOp .Or (x :: y :: z :: r) p => chkT a S x && chkT b S (.BoolOp .Or (y :: z :: r) p)
    | _ => false
  | .cmp op a b, S, ex => match ex with
    | .Compare x [o] [y] _ => decide (cOp op = o) && !(behindInMarks (cOp op) y) && chkE a S x && chkE b S y
    | _ => false
  | .chain p q a b c, S, ex => match ex with
    | .Compare x [o, o'] [y, z] _ => decide (cOp p = o) && decide (cOp q = o') && !(lastMarks [cOp p, cOp q] [y, z]) && chkE a S x && chkE b S y && chkE c S z
    | _ => false
  | .isN a, S, ex => match ex with
    | .Compare x [.Is] [.Constant .none _ _] _ => chkE a S x
    | _ => false
  | .notN a, S, ex => match ex with
    | .Compare x [.IsNot] [.Constant .none _ _] _ => chkE a S x
    | _ => false
  | .of e, S, ex => plainT ex && chkE e S ex
def chkTo : To → Sx → List Expr → Bool
  | .no, _, ex => match ex with
    | [] => true
    | _ => false
  | .of t, S, ex => match ex with
    | [x] => chkT t S x
    | _ => false
def chkEs : Es → Sx → List Expr → Bool
  | .nil, _, ex => match ex with
    | [] => true
    | _ => false
  | .cons e r, S, ex => match ex with
    | x :: xs => notStar x && chkE e S x && chkEs r S xs
    | _ => false
def chkEo : Eo → Sx → Option Expr → Bool
  | .no, _, ex => match ex with
    | none => true
    | _ => false
  | .of e, S, ex => match ex with
    | some x => chkE e S x
    | _ => false
def chkSrc : Src → Sx → Expr → Expr → Bool
  | .of e, S, _, ex => chkE e S ex
  | .rng1 a, S, _, ex => match ex with
    | .Call (.Name f _) [x] [] _ => decide (f = "range") && bltB Tt S f && notStar x && chkE a S x
    | _ => false
  | .rng2 a b, S, _, ex => match ex with
    | .Call (.Name f _) [x, y] [] _ => decide (f = "range") && bltB Tt S f && notStar x && notStar y && chkE a S x && chkE b S y
    | _ => false
  | .rng3 a b c, S, _, ex => match ex with
    | .Call (.Name f _) [x, y, z] [] _ => decide (f = "range") && bltB Tt S f && notStar x && notStar y && notStar z && chkE a S x && chkE b S y && chkE c S z
    | _ => false
  | .enum a, S, tg, ex => match tg, ex with
    | .Tuple _ _ _, .Call (.Name f _) [x] [] _ => decide (f = "enumerate") && bltB Tt S f && notStar x && chkE a S x
    | _, _ => false
  | .zip a b, S, tg, ex => match tg, ex with
    | .Tuple _ _ _, .Call (.Name f _) [x, y] [] _ => decide (f = "zip") && bltB Tt S f && notStar x && notStar y && chkE a S x && chkE b S y
    | _, _ => false
end
end
/-! ### what stands around -/
structure Facts (G : Gam) (Tt : Tab) : Prop where
  fns : ∀ f x ps, Tt.fns f = some (x, ps) → G.fP f = ps ∧ (∀ z, x = some z → G.mg z = some (.ref (G.fA f))) ∧ PySem.W.keepIn G.K (.ref (G.fA f)) = true ∧ Binds G.K (G.fD f) (G.fP f) []
  blt : ∀ x ∈ Tt.blt, G.mg x = none
  exn : ∀ c x, Tt.exs c = some x → G.mg x = some (.ref (G.xA c))
  exr : ∀ c ∈ Tt.exr, PySem.W.keepIn G.K (.ref (G.xA c)) = true ∧ (∀ X : Cx, X.K = G.K → Raises X (.ref (G.xA c))) ∧ ∃ bmB B newId initId, ExcBaseFacts B newId initId bmB ∧ PySem.W.excIn G.K (G.xA c) bmB newId = true
  exm : ∀ c h x, Tt.exs h = some x → PySem.W.exmOne G.K (.ref (G.xA c)) (.ref (G.xA h)) = some (subX c h)
  glb : ∀ p ∈ Tt.glb, ∃ v u, G.mg p.2.1 = some u ∧ RelV v u ∧ ∀ μ n H, Rep G μ n H p.2.2 v
structure GdE (G : Gam) (Tt : Tab) (cl : Call) (k : Nat) (W : WX) (S : Sx) (X : Cx) : Prop where
  fx : Facts G Tt
  hK : X.K = G.K
  hw : X.w = G.w
  hmg : X.mg = G.mg
  nd : X.N.Nodup
  calm : X.calm = true
  tk : Takes X W
  room : Room (k + 1) X.A
  fns : ∀ f, (Tt.fns f).isSome = true → FnOk X.prog X.w X.K X.mg X.base (L2.CX X.prog X.w) k (G.fA f) (G.fD f) (G.fP f) (spI G cl f)
  sc : X.env.scope = S.sc
  fn : ∀ x, S.fn x = true → X.fn x = true
  N : X.N = S.N
abbrev W0 : WX := fun _ _ _ _ => False
section
variable {G : Gam} {Tt : Tab} {cl : Call} {k : Nat} {W : WX} {S : Sx} {X : Cx}
theorem GdE.blk (g : GdE G Tt cl k W S X) (s : Shared) (H : Hp) (C : Addr) (c : List (Str × Addr)) (fp : List Addr) (scope : Scope) :
    GdE G Tt cl k W0 (blkS S scope) (X.blk s H scope (compEnvC scope c C X.env) fp) :=
  ⟨g.fx, g.hK, g.hw, g.hmg, g.nd, g.calm, takes0, g.room, g.fns, by show relabel scope X.env = relab S.sc scope; rw [← g.sc]; rfl, fun x h => h, g.N⟩
theorem GdE.hu (g : GdE G Tt cl k W S X) : X.A.units + 65 < cLine := by have := g.room.un; omega
theorem visB_ok (g : GdE G Tt cl k W S X) {i : Nat} {x : Str} (h : visB S i x = true) : X.N[i]? = some x ∧ Vis X.env.scope x ∧ (x == ("__debug__" : Str)) = false ∧ (x == ("__classdict__" : Str)) = false := by
  unfold visB at h
  simp only [Bool.and_eq_true, Bool.or_eq_true, Bool.not_eq_true', decide_eq_true_eq] at h
  obtain ⟨⟨⟨h1, h2⟩, h3⟩, h4⟩ := h
  refine ⟨by rw [g.N]; exact h1, ?_, h3, h4⟩
  rw [g.sc]
  rcases h2 with (h2 | h2) | h2
  · exact .inl h2
  · exact .inr (.inl h2)
  · exact .inr (.inr h2)
theorem locB_ok (g : GdE G Tt cl k W S X) {i : Nat} {x : Str} (h : locB S i x = true) : X.N[i]? = some x ∧ L2.Loc X.env.scope x ∧ (X.fn x = true ∨ X.env.scope.names.lookup x = some .local) := by
  unfold locB at h
  simp only [Bool.and_eq_true, Bool.or_eq_true, decide_eq_true_eq] at h
  obtain ⟨h1, h2⟩ := h
  refine ⟨by rw [g.N]; exact h1, ?_⟩
  rw [g.sc]
  rcases h2 with h2 | ⟨h2, h3⟩
  · exact ⟨.inl h2, .inr h2⟩
  · exact ⟨.inr h2, .inl (g.fn x h3)⟩
theorem glB_ok (g : GdE G Tt cl k W S X) {x : Str} (h : glB S x = true) : Gl X x ∧ (x == ("__debug__" : Str)) = false ∧ x ≠ "__name__" := by
  unfold glB at h
  simp only [Bool.and_eq_true, Bool.not_eq_true', decide_eq_true_eq] at h
  obtain ⟨⟨h1, h2⟩, h3⟩ := h
  refine ⟨?_, h2, fun e => by rw [e] at h3; exact absurd h3 (by decide)⟩
  show X.env.scope.names.lookup x = _
  rw [g.sc]; exact h1
theorem bltB_ok (g : GdE G Tt cl k W S X) {x : Str} (h : bltB Tt S x = true) : Gl X x ∧ (x == ("__debug__" : Str)) = false ∧ x ≠ "__name__" ∧ X.mg x = none := by
  unfold bltB at h
  rw [Bool.and_eq_true, decide_eq_true_eq] at h
  obtain ⟨h1, h2, h3⟩ := glB_ok g h.1
  exact ⟨h1, h2, h3, by rw [g.hmg]; exact g.fx.blt x h.2⟩
mutual
theorem sTg (g : GdE G Tt cl k W S X) : ∀ (t : Tg) (e : Expr), chkTg S t e = true → PG X e (gT G.K t)
  | .name i, e, h => by
    cases e with
    | Name x p =>
      obtain ⟨h1, h2, h3⟩ := locB_ok g (show locB S i x = true from h)
      exact pg_name g.nd h1 h2 h3
    | _ => simp [chkTg] at h
  | .tup ts, e, h => by
    cases e with
    | Tuple es kk p =>
      have h' : chkTgs S ts es = true := h
      rw [← g.hK]
      have z := sTgs g ts es h'
      rw [g.hK]
      rw [← g.hK] at z ⊢
      exact pg_tup g.calm z.1 z.2.1 z.2.2
    | _ => simp [chkTg] at h
theorem sTgs (g : GdE G Tt cl k W S X) : ∀ (ts : Tgs) (es : List Expr), chkTgs S ts es = true → PGs X es (gTs G.K ts) ∧ (assignEach es X.env).length = tlen ts ∧ (assignEach es X.env).findIdx? (·.1) = none
  | .nil, es, h => by
    cases es with
    | nil => exact ⟨pgs_nil, rfl, rfl⟩
    | cons _ _ => simp [chkTgs] at h
  | .cons t r, es, h => by
    cases es with
    | nil => simp [chkTgs] at h
    | cons e es =>
      have h' : (notStar e && chkTg S t e && chkTgs S r es) = true := h
      simp only [Bool.and_eq_true] at h'
      obtain ⟨z1, z2, z3⟩ := sTgs g r es h'.2
      have a1 : assignEach (e :: es) X.env = (false, PySem.assign e X.env) :: assignEach es X.env := by
        have h0 := h'.1.1
        cases e <;> first | rfl | (cases h0)
      refine ⟨pgs_cons (sTg g t e h'.1.2) z1 (by rw [a1]; rfl), by rw [a1, List.length_cons, z2]; rfl, ?_⟩
      rw [a1, List.findIdx?_cons]
      simp [z3]
end
end
end Ws
end
end

section
set_option Elab.async false
set_option linter.all false
set_option maxRecDepth 100000
set_option maxHeartbeats 4000000
/-! WsK: checked expressions do what the interpreter says. -/
noncomputable section
namespace Ws
open PySem PySem.Spec PyProof.Rows L2
section
variable {G : Gam} {Tt : Tab} {cl : Call} {k : Nat}
theorem evEs_len : ∀ (es : Es) {env : Env} {st : AS} {ds : List D} {st' : AS}, evEs cl es env st = .ok ds st' → ds.length = esLen es
  | .nil, env, st, ds, st', h => by
    simp only [evEs, Res.ok.injEq] at h
    rw [← h.1]; rfl
  | .cons e r, env, st, ds, st', h => by
    simp only [evEs] at h
    cases h1 : evE cl e env st with
    | ok d s1 =>
      rw [h1] at h
      simp only [bind_ok] at h
      cases h2 : evEs cl r env s1 with
      | ok d2 s2 =>
        rw [h2] at h
        simp only [bind_ok, Res.ok.injEq] at h
        rw [← h.1, List.length_cons, evEs_len r h2]; rfl
      | exn c p s2 => rw [h2] at h; cases h
      | bad => rw [h2] at h; cases h
    | exn c p s1 => rw [h1] at h; cases h
    | bad => rw [h1] at h; cases h
theorem chkEs_star : ∀ (es : Es) {S : Sx} {xs : List Expr}, chkEs Tt es S xs = true → xs.all notStar = true
  | .nil, S, [], _ => rfl
  | .nil, S, _ :: _, h => by simp [chkEs] at h
  | .cons e r, S, [], h => by simp [chkEs] at h
  | .cons e r, S, x :: xs, h => by
    simp only [chkEs, Bool.and_eq_true] at h
    rw [List.all_cons, h.1.1, chkEs_star r h.2]; rfl
theorem szOk {n : Nat} (h : n ≤ 1000) : n ≤ szMax := Nat.le_trans h (by unfold szMax; omega)
theorem constB_ok {X : Cx} {W : WX} {d : D} {c : Const} {j : Nat} {p : Pos} (h : constB d c = true) : PE X (.Constant c j p) (tV G W fun _ st => .ok d st) := by
  unfold constB at h
  split at h
  · exact w_const pe_non fun _ _ _ => rfl
  · rw [eq_of_beq h]; exact w_const pe_bl fun _ _ _ => rfl
  · rw [of_decide_eq_true h]; exact w_const pe_int fun _ _ _ => rfl
  · rw [of_decide_eq_true h]; exact w_const pe_str fun _ _ _ => rfl
  · cases h
theorem isi_boot {t : String} (h : t ∈ isiT) : bootBuiltins (Str.ofString t) = some (.type t) := by
  unfold isiT at h
  simp only [List.mem_cons, List.not_mem_nil, or_false] at h
  rcases h with rfl | rfl | rfl | rfl | rfl <;> rfl
theorem lastMarks2 {o o' : CmpOp} {y z : Expr} : lastMarks [o, o'] [y, z] = behindInMarks o' z := by
  cases z <;> rfl
mutual
theorem sE : ∀ (e : E) {W : WX} {S : Sx} {X : Cx}, GdE G Tt cl k W S X → ∀ (ex : Expr), chkE Tt e S ex = true → PE X ex (tV G W (evE cl e))
  | .bad, W, S, X, g, ex, h => ⟨fun pins s σ H Q I ⟨μ, env, st, R, e, p⟩ => p.elim⟩
  | .var i, W, S, X, g, ex, h => by
    unfold chkE at h
    split at h
    · obtain ⟨h1, h2, h3, h4⟩ := visB_ok g h
      exact w_var h1 h2 h3 h4
    · cases h
  | .lit d, W, S, X, g, ex, h => by
    unfold chkE at h
    split at h
    · exact constB_ok h
    · cases h
  | .glo q d, W, S, X, g, ex, h => by
    unfold chkE at h
    split at h
    · simp only [Bool.and_eq_true, decide_eq_true_eq, List.any_eq_true] at h
      obtain ⟨h2, p, hp, ⟨h3, rfl⟩, h4⟩ := h
      obtain ⟨h5, h6, h7⟩ := glB_ok g h2
      obtain ⟨v, u, h8, h9, h10⟩ := g.fx.glb p hp
      rw [← eqB_eq h4]
      exact w_const (pe_glob h5 (by rw [g.hmg]; exact h8) h9 h6) h10
    · cases h
  | .tup es, W, S, X, g, ex, h => by
    unfold chkE at h
    split at h
    · simp only [Bool.and_eq_true, decide_eq_true_eq] at h
      exact w_tup (sEs es g _ h.1) fun env st ds st' e => by rw [evEs_len es e]; exact szOk h.2
    · cases h
  | .lst es, W, S, X, g, ex, h => by
    unfold chkE at h
    split at h
    · simp only [Bool.and_eq_true, decide_eq_true_eq] at h
      exact w_lst (sEs es g _ h.1) fun env st ds st' e => by rw [evEs_len es e]; exact szOk h.2
    · cases h
  | .dic0, W, S, X, g, ex, h => by simp [chkE] at h
  | .dic1 _ _, W, S, X, g, ex, h => by simp [chkE] at h
  | .bin op a b, W, S, X, g, ex, h => by
    unfold chkE at h
    split at h
    · simp only [Bool.and_eq_true, decide_eq_true_eq] at h
      obtain ⟨⟨rfl, h1⟩, h2⟩ := h
      exact w_op (opBin op) (by rw [g.hK]; exact rcBin op) (sE a g _ h1) (sE b g _ h2)
    · cases h
  | .neg a, W, S, X, g, ex, h => by
    unfold chkE at h
    split at h
    · exact w_neg (sE a g _ h)
    · cases h
  | .nt a, W, S, X, g, ex, h => by
    unfold chkE at h
    split at h
    · exact w_ntV (sE a g _ h)
    · cases h
  | .and a b, W, S, X, g, ex, h => by
    unfold chkE at h
    split at h
    · rw [Bool.and_eq_true] at h
      exact w_andV (sE a g _ h.1) (pe_one (sE b g _ h.2))
    · rw [Bool.and_eq_true] at h
      exact w_andV (sE a g _ h.1) (sE b g _ h.2)
    · cases h
  | .or a b, W, S, X, g, ex, h => by
    unfold chkE at h
    split at h
    · rw [Bool.and_eq_true] at h
      exact w_orV (sE a g _ h.1) (pe_one (sE b g _ h.2))
    · rw [Bool.and_eq_true] at h
      exact w_orV (sE a g _ h.1) (sE b g _ h.2)
    · cases h
  | .cmp op a b, W, S, X, g, ex, h => by
    unfold chkE at h
    split at h
    · simp only [Bool.and_eq_true, decide_eq_true_eq, Bool.not_eq_true'] at h
      obtain ⟨⟨⟨rfl, h1⟩, h2⟩, h3⟩ := h
      exact w_cmp (opCmp g.hu op) (by rw [g.hK]; exact rcCmp op) (sE a g _ h2) (sE b g _ h3) h1
    · cases h
  | .chain p q a b c, W, S, X, g, ex, h => by
    unfold chkE at h
    split at h
    · simp only [Bool.and_eq_true, decide_eq_true_eq, Bool.not_eq_true'] at h
      obtain ⟨⟨⟨⟨⟨rfl, rfl⟩, h1⟩, h2⟩, h3⟩, h4⟩ := h
      exact w_chain (opCmp g.hu p) (opCmp g.hu q) (by rw [g.hK]; exact rcCmp p) (by rw [g.hK]; exact rcCmp q) (sE a g _ h2) (sE b g _ h3) (sE c g _ h4) h1
    · cases h
  | .isN a, W, S, X, g, ex, h => by
    unfold chkE at h
    split at h
    · exact w_isN (sE a g _ h)
    · cases h
  | .notN a, W, S, X, g, ex, h => by
    unfold chkE at h
    split at h
    · exact w_notN (sE a g _ h)
    · cases h
  | .ite t a b, W, S, X, g, ex, h => by
    unfold chkE at h
    split at h
    · simp only [Bool.and_eq_true] at h
      exact w_ite (sT t g _ h.1.1).1 (sE a g _ h.1.2) (sE b g _ h.2)
    · cases h
  | .call f es, W, S, X, g, ex, h => by
    unfold chkE at h
    split at h
    · simp only [Bool.and_eq_true] at h
      obtain ⟨⟨h1, h2⟩, h3⟩ := h
      split at h2
      · rename_i z ps hf
        simp only [Bool.and_eq_true, decide_eq_true_eq] at h2
        obtain ⟨rfl, h4⟩ := h2
        obtain ⟨f1, f2, f3, f4⟩ := g.fx.fns _ _ _ hf
        obtain ⟨g1, g2, g3⟩ := glB_ok g h1
        have hst := chkEs_star es h3
        rw [List.all_cons, Bool.and_eq_true] at hst
        exact w_call (g.fns f (by rw [hf]; rfl)) (g.room.mono (Nat.le_succ k)) g1 (by rw [g.hmg]; exact f2 _ rfl) (by rw [g.hK]; exact f3) (by rw [g.hK]; exact f4) g.tk (sEs es g _ h3)
          (fun env st ds st' e => by rw [evEs_len es e, h4, f1]) g2 (star_one hst.1) (back_any hst.2)
      · cases h2
    · cases h
  | .make _ _ _, W, S, X, g, ex, h => by simp [chkE] at h
  | .meth _ _ _ _, W, S, X, g, ex, h => by simp [chkE] at h
  | .prop _ _ _, W, S, X, g, ex, h => by simp [chkE] at h
  | .bi b es, W, S, X, g, ex, h => by
    unfold chkE at h
    split at h
    · simp only [Bool.and_eq_true, decide_eq_true_eq] at h
      obtain ⟨⟨rfl, h1⟩, h2⟩ := h
      obtain ⟨g1, g2, g3, g4⟩ := bltB_ok g h1
      have hst := chkEs_star es h2
      rw [List.all_cons, Bool.and_eq_true] at hst
      cases b with
      | len => exact w_bi (id := "len") rfl g.hK g.hw g.calm g1 g4 (by rfl) (sEs es g _ h2) g3 g2 (star_one hst.1) (back_any hst.2)
      | all => exact w_bi (id := "all") rfl g.hK g.hw g.calm g1 g4 (by rfl) (sEs es g _ h2) g3 g2 (star_one hst.1) (back_any hst.2)
      | any => exact w_bi (id := "any") rfl g.hK g.hw g.calm g1 g4 (by rfl) (sEs es g _ h2) g3 g2 (star_one hst.1) (back_any hst.2)
      | sum => exact w_bi (id := "sum") rfl g.hK g.hw g.calm g1 g4 (by rfl) (sEs es g _ h2) g3 g2 (star_one hst.1) (back_any hst.2)
      | min => exact w_bi (id := "min") rfl g.hK g.hw g.calm g1 g4 (by rfl) (sEs es g _ h2) g3 g2 (star_one hst.1) (back_any hst.2)
      | max => exact w_bi (id := "max") rfl g.hK g.hw g.calm g1 g4 (by rfl) (sEs es g _ h2) g3 g2 (star_one hst.1) (back_any hst.2)
      | sorted => exact w_bi (id := "sorted") rfl g.hK g.hw g.calm g1 g4 (by rfl) (sEs es g _ h2) g3 g2 (star_one hst.1) (back_any hst.2)
      | set => exact w_biTy (T := "set") rfl g.hK g.hw g.calm g1 g4 (by rfl) (sEs es g _ h2) g3 g2 (star_one hst.1) (back_any hst.2)
      | list => exact w_biTy (T := "list") rfl g.hK g.hw g.calm g1 g4 (by rfl) (sEs es g _ h2) g3 g2 (star_one hst.1) (back_any hst.2)
      | tuple => exact w_biTy (T := "tuple") rfl g.hK g.hw g.calm g1 g4 (by rfl) (sEs es g _ h2) g3 g2 (star_one hst.1) (back_any hst.2)
      | int => exact w_biTy (T := "int") rfl g.hK g.hw g.calm g1 g4 (by rfl) (sEs es g _ h2) g3 g2 (star_one hst.1) (back_any hst.2)
      | str => exact w_biTy (T := "str") rfl g.hK g.hw g.calm g1 g4 (by rfl) (sEs es g _ h2) g3 g2 (star_one hst.1) (back_any hst.2)
    · cases h
  | .isi t e, W, S, X, g, ex, h => by
    unfold chkE at h
    split at h
    · simp only [Bool.and_eq_true, decide_eq_true_eq] at h
      obtain ⟨⟨⟨⟨⟨⟨rfl, rfl⟩, h1⟩, h2⟩, h3⟩, h4⟩, h5⟩ := h
      obtain ⟨g1, g2, g3, g4⟩ := bltB_ok g h2
      obtain ⟨k1, k2, k3, k4⟩ := bltB_ok g h3
      exact w_isi h1 g.hK g1 g4 k1 k4 (isi_boot h1) k3 k2 (sE e g _ h5) (star_one h4) rfl
    · cases h
  | .bm _ _ _, W, S, X, g, ex, h => by simp [chkE] at h
  | .fld _ _, W, S, X, g, ex, h => by simp [chkE] at h
  | .ix a b, W, S, X, g, ex, h => by
    unfold chkE at h
    split at h
    · simp only [Bool.and_eq_true] at h
      obtain ⟨⟨h1, h2⟩, h3⟩ := h
      exact w_ix ix_seq (by rw [g.hK]; exact rcIx) (sE a g _ h2) (sE b g _ h3) (plainIx_ok h1)
    · cases h
  | .ixd a b, W, S, X, g, ex, h => by
    unfold chkE at h
    split at h
    · simp only [Bool.and_eq_true] at h
      obtain ⟨⟨h1, h2⟩, h3⟩ := h
      exact w_ixd (by have := g.hu; omega) (sE a g _ h2) (sE b g _ h3) (noSl_ok h1)
    · cases h
  | .sl a lo hi, W, S, X, g, ex, h => by
    unfold chkE at h
    split at h
    · simp only [Bool.and_eq_true] at h
      exact w_sl g.hK (sE a g _ h.1.1) (sEo lo g _ h.1.2) (sEo hi g _ h.2)
    · cases h
  | .slr _, W, S, X, g, ex, h => by simp [chkE] at h
  | .ginD _ _ _ _, W, S, X, g, ex, h => by simp [chkE] at h
  | .gixD _ _ _, W, S, X, g, ex, h => by simp [chkE] at h
  | .lc own elt tg src c, W, S, X, g, ex, h => by
    unfold chkE at h
    split at h
    · rename_i x q scope p
      obtain ⟨tg', iter, ifs, isa⟩ := q
      simp only [Bool.and_eq_true, decide_eq_true_eq, List.all_eq_true] at h
      obtain ⟨⟨⟨⟨⟨⟨⟨rfl, h1⟩, h2⟩, h3⟩, h4⟩, h5⟩, h6⟩, h7⟩ := h
      refine (pe_lc g.calm g.nd (sSrc src g _ _ h5) (blkOk_by (own := own) (by rw [g.N, g.sc]; exact h2)) (fun s H C c fp => sTg (g.blk s H C c fp scope) tg _ h4) (fun s H C c' fp => sTo c (g.blk s H C c' fp scope) _ h6)
        (fun s H C c' fp => sE elt (g.blk s H C c' fp scope) _ h7) (notSet_ok h1)).imp fun σ H Q h => lc_ok h3 h
    · cases h
  | .lcd _ _ _ _ _, W, S, X, g, ex, h => by simp [chkE] at h
  | .lc2 _ _ _ _ _ _ _, W, S, X, g, ex, h => by simp [chkE] at h
  | .dc2 _ _ _ _ _ _ _, W, S, X, g, ex, h => by simp [chkE] at h
  | .fstr _, W, S, X, g, ex, h => by simp [chkE] at h
  | .lzip _ _, W, S, X, g, ex, h => by simp [chkE] at h
  | .lrng1 _, W, S, X, g, ex, h => by simp [chkE] at h
  | .lrng3 _ _ _, W, S, X, g, ex, h => by simp [chkE] at h
  | .clo _ _, W, S, X, g, ex, h => by simp [chkE] at h
  | .callc _ _, W, S, X, g, ex, h => by simp [chkE] at h
  | .lenI _ _ _, W, S, X, g, ex, h => by simp [chkE] at h
theorem sT : ∀ (t : T) {W : WX} {S : Sx} {X : Cx}, GdE G Tt cl k W S X → ∀ (ex : Expr), chkT Tt t S ex = true → PT X ex (tT G W (evT cl t)) ∧ ∀ op vs pos, ex = .BoolOp op vs pos → PW X ex (tT G W (evT cl t))
  | .bad, W, S, X, g, ex, h => ⟨⟨fun pins s σ H Q I ⟨μ, env, st, R, e, p⟩ => p.elim⟩, fun _ _ _ _ => ⟨fun wh pins s σ H Q I ⟨μ, env, st, R, e, p⟩ => p.elim⟩⟩
  | .ginD _ _ _ _, W, S, X, g, ex, h => by simp [chkT] at h
  | .nt a, W, S, X, g, ex, h => by
    unfold chkT at h
    split at h
    · exact ⟨w_nt (sT a g _ h).1, fun _ _ _ e => by cases e⟩
    · cases h
  | .and a b, W, S, X, g, ex, h => by
    unfold chkT at h
    split at h
    · rename_i x y p
      rw [Bool.and_eq_true] at h
      have z : PW X (.BoolOp .And [x, y] p) (tT G W (evT cl (.and a b))) := (pw_and (sT a g _ h.1).1 (pw_and1 (sT b g _ h.2).1)).imp fun σ H Q h => and_ok h
      exact ⟨z.pt, fun _ _ _ _ => z⟩
    · rename_i x y q r p
      rw [Bool.and_eq_true] at h
      have z : PW X (.BoolOp .And (x :: y :: q :: r) p) (tT G W (evT cl (.and a b))) := (pw_and (sT a g _ h.1).1 ((sT b g _ h.2).2 _ _ _ rfl)).imp fun σ H Q h => and_ok h
      exact ⟨z.pt, fun _ _ _ _ => z⟩
    · cases h
  | .or a b, W, S, X, g, ex, h => by
    unfold chkT at h
    split at h
    · rename_i x y p
      rw [Bool.and_eq_true] at h
      have z : PW X (.BoolOp .Or [x, y] p) (tT G W (evT cl (.or a b))) := (pw_or (sT a g _ h.1).1 (pw_or1 (sT b g _ h.2).1)).imp fun σ H Q h => or_ok h
      exact ⟨z.pt, fun _ _ _ _ => z⟩
    · rename_i x y q r p
      rw [Bool.and_eq_true] at h
      have z : PW X (.BoolOp .Or (x :: y :: q :: r) p) (tT G W (evT cl (.or a b))) := (pw_or (sT a g _ h.1).1 ((sT b g _ h.2).2 _ _ _ rfl)).imp fun σ H Q h => or_ok h
      exact ⟨z.pt, fun _ _ _ _ => z⟩
    · cases h
  | .cmp op a b, W, S, X, g, ex, h => by
    unfold chkT at h
    split at h
    · simp only [Bool.and_eq_true, decide_eq_true_eq, Bool.not_eq_true'] at h
      obtain ⟨⟨⟨rfl, h1⟩, h2⟩, h3⟩ := h
      exact ⟨w_cmpT (opCmp g.hu op) (by rw [g.hK]; exact rcCmp op) (sE a g _ h2) (sE b g _ h3) h1, fun _ _ _ e => by cases e⟩
    · cases h
  | .chain p q a b c, W, S, X, g, ex, h => by
    unfold chkT at h
    split at h
    · simp only [Bool.and_eq_true, decide_eq_true_eq, Bool.not_eq_true'] at h
      obtain ⟨⟨⟨⟨⟨rfl, rfl⟩, h1⟩, h2⟩, h3⟩, h4⟩ := h
      exact ⟨w_chainT (opCmp g.hu p) (opCmp g.hu q) (by rw [g.hK]; exact rcCmp p) (by rw [g.hK]; exact rcCmp q) (sE a g _ h2) (sE b g _ h3) (sE c g _ h4) h1, fun _ _ _ e => by cases e⟩
    · cases h
  | .isN a, W, S, X, g, ex, h => by
    unfold chkT at h
    split at h
    · exact ⟨w_isNT (sE a g _ h), fun _ _ _ e => by cases e⟩
    · cases h
  | .notN a, W, S, X, g, ex, h => by
    unfold chkT at h
    split at h
    · exact ⟨w_notNT (sE a g _ h), fun _ _ _ e => by cases e⟩
    · cases h
  | .of e, W, S, X, g, ex, h => by
    unfold chkT at h
    rw [Bool.and_eq_true] at h
    exact ⟨w_truth g.hK (sE e g _ h.2) (plainT_ok h.1), fun _ _ _ q => by subst q; cases h.1⟩
theorem sTo : ∀ (t : To) {W : WX} {S : Sx} {X : Cx}, GdE G Tt cl k W S X → ∀ (ex : List Expr), chkTo Tt t S ex = true → PTs X ex (tT G W (evC cl t))
  | .no, W, S, X, g, ex, h => by
    unfold chkTo at h
    split at h
    · refine ⟨fun pins s σ H Q I hw => pts_nil.run pins s σ H Q I ?_⟩
      obtain ⟨μ, env, st, R, e, p⟩ := hw
      exact PostR.here (P := PB Q) p R
    · cases h
  | .of t, W, S, X, g, ex, h => by
    unfold chkTo at h
    split at h
    · exact pts_one (sT t g _ h).1
    · cases h
theorem sEs : ∀ (es : Es) {W : WX} {S : Sx} {X : Cx}, GdE G Tt cl k W S X → ∀ (ex : List Expr), chkEs Tt es S ex = true → PA X ex (tAs G W (evEs cl es))
  | .nil, W, S, X, g, ex, h => by
    unfold chkEs at h
    split at h
    · exact w_aNil
    · cases h
  | .cons e r, W, S, X, g, ex, h => by
    unfold chkEs at h
    split at h
    · simp only [Bool.and_eq_true] at h
      exact w_aCons (sE e g _ h.1.2) (sEs r g _ h.2) (star_one h.1.1)
    · cases h
theorem sEo : ∀ (eo : Eo) {W : WX} {S : Sx} {X : Cx}, GdE G Tt cl k W S X → ∀ (ex : Option Expr), chkEo Tt eo S ex = true → PO X ex (tO G W (evEo cl eo))
  | .no, W, S, X, g, ex, h => by
    unfold chkEo at h
    split at h
    · exact w_oNo
    · cases h
  | .of e, W, S, X, g, ex, h => by
    unfold chkEo at h
    split at h
    · exact w_oOf (sE e g _ h)
    · cases h
theorem sSrc : ∀ (sr : Src) {W : WX} {S : Sx} {X : Cx}, GdE G Tt cl k W S X → ∀ (tg ex : Expr), chkSrc Tt sr S tg ex = true → PI X tg ex (tI G W (evSrc cl sr))
  | .of e, W, S, X, g, tg, ex, h => by
    unfold chkSrc at h
    exact w_sOf g.hK (sE e g _ h)
  | .rng1 a, W, S, X, g, tg, ex, h => by
    unfold chkSrc at h
    split at h
    · simp only [Bool.and_eq_true, decide_eq_true_eq] at h
      obtain ⟨⟨⟨rfl, h1⟩, h2⟩, h3⟩ := h
      obtain ⟨g1, g2, g3, g4⟩ := bltB_ok g h1
      exact w_sRng1 g1 g4 (sE a g _ h3) (star_one h2)
    · cases h
  | .rng2 a b, W, S, X, g, tg, ex, h => by
    unfold chkSrc at h
    split at h
    · simp only [Bool.and_eq_true, decide_eq_true_eq] at h
      obtain ⟨⟨⟨⟨⟨rfl, h1⟩, h2⟩, h3⟩, h4⟩, h5⟩ := h
      obtain ⟨g1, g2, g3, g4⟩ := bltB_ok g h1
      exact w_sRng2 g1 g4 (sE a g _ h4) (sE b g _ h5) (star_one h2) (star_one h3)
    · cases h
  | .rng3 a b c, W, S, X, g, tg, ex, h => by
    unfold chkSrc at h
    split at h
    · simp only [Bool.and_eq_true, decide_eq_true_eq] at h
      obtain ⟨⟨⟨⟨⟨⟨⟨rfl, h1⟩, h2⟩, h3⟩, h3'⟩, h4⟩, h5⟩, h6⟩ := h
      obtain ⟨g1, g2, g3, g4⟩ := bltB_ok g h1
      exact w_sRng3 g1 g4 (sE a g _ h4) (sE b g _ h5) (sE c g _ h6) (star_one h2) (star_one h3) (star_one h3') (back_any (by rw [List.all_cons, h3, List.all_cons, h3']; rfl))
    · cases h
  | .enum a, W, S, X, g, tg, ex, h => by
    unfold chkSrc at h
    split at h
    · simp only [Bool.and_eq_true, decide_eq_true_eq] at h
      obtain ⟨⟨⟨rfl, h1⟩, h2⟩, h3⟩ := h
      obtain ⟨g1, g2, g3, g4⟩ := bltB_ok g h1
      exact w_sEnum g.hK g1 g4 (sE a g _ h3) (star_one h2)
    · cases h
  | .zip a b, W, S, X, g, tg, ex, h => by
    unfold chkSrc at h
    split at h
    · simp only [Bool.and_eq_true, decide_eq_true_eq] at h
      obtain ⟨⟨⟨⟨⟨rfl, h1⟩, h2⟩, h3⟩, h4⟩, h5⟩ := h
      obtain ⟨g1, g2, g3, g4⟩ := bltB_ok g h1
      exact w_sZip g.hK g1 g4 (sE a g _ h4) (sE b g _ h5) (star_one h2) (star_one h3) (back_any (by rw [List.all_cons, h3]; rfl))
    · cases h
end
end
end Ws
end
end

section
set_option Elab.async false
set_option linter.all false
set_option maxRecDepth 100000
set_option maxHeartbeats 4000000
/-! WsL: the checker of statements, and what it is good for. -/
noncomputable section
namespace Ws
open PySem PySem.Spec PyProof.Rows L2
/-! ### except suites -/
def chkH1 (S : Sx) : List H1 → List Stmt → Bool
  | [], [] => true
  | .lit i d :: r, s :: ss => (match s with
    | .Assign [.Name x _] (.Constant c _ _) _ => locB S i x && constB d c
    | _ => false) && chkH1 S r ss
  | .sub i k d :: r, s :: ss => (match s with
    | .Assign [.Subscript (.Name x _) (.Constant (.int j) _ _) _] (.Constant c _ _) _ => visB S i x && decide (j = k) && constB d c
    | _ => false) && chkH1 S r ss
  | _, _ => false
def tH (G : Gam) (h : List H1) : TS := fun E σ H => ∃ μ env st c p, Rl G μ st H ∧ ER G μ st.length H env σ ∧ PostS G W0 E μ st.length H (runH c h p env st)
structure Fit (S : Sx) (X : Cx) : Prop where
  nd : X.N.Nodup
  sc : X.env.scope = S.sc
  fn : ∀ x, S.fn x = true → X.fn x = true
  N : X.N = S.N
theorem visB_fit {S : Sx} {X : Cx} (g : Fit S X) {i : Nat} {x : Str} (h : visB S i x = true) : X.N[i]? = some x ∧ Vis X.env.scope x ∧ (x == ("__debug__" : Str)) = false ∧ (x == ("__classdict__" : Str)) = false := by
  unfold visB at h
  simp only [Bool.and_eq_true, Bool.or_eq_true, Bool.not_eq_true', decide_eq_true_eq] at h
  obtain ⟨⟨⟨h1, h2⟩, h3⟩, h4⟩ := h
  refine ⟨by rw [g.N]; exact h1, ?_, h3, h4⟩
  rw [g.sc]
  rcases h2 with (h2 | h2) | h2
  · exact .inl h2
  · exact .inr (.inl h2)
  · exact .inr (.inr h2)
theorem locB_fit {S : Sx} {X : Cx} (g : Fit S X) {i : Nat} {x : Str} (h : locB S i x = true) : X.N[i]? = some x ∧ L2.Loc X.env.scope x ∧ (X.fn x = true ∨ X.env.scope.names.lookup x = some .local) := by
  unfold locB at h
  simp only [Bool.and_eq_true, Bool.or_eq_true, decide_eq_true_eq] at h
  obtain ⟨h1, h2⟩ := h
  refine ⟨by rw [g.N]; exact h1, ?_⟩
  rw [g.sc]
  rcases h2 with h2 | ⟨h2, h3⟩
  · exact ⟨.inl h2, .inr h2⟩
  · exact ⟨.inr h2, .inl (g.fn x h3)⟩
theorem constB_pe {d : D} {c : Const} (h : constB d c = true) : ∃ v, (∀ (X : Cx) (j : Nat) (p : Pos), PE X (.Constant c j p) (tC v)) ∧ ∀ G μ n H, Rep G μ n H d v := by
  unfold constB at h
  split at h
  · exact ⟨.non, fun X j p => pe_non, fun _ _ _ _ => rfl⟩
  · rw [eq_of_beq h]; exact ⟨.bl _, fun X j p => pe_bl, fun _ _ _ _ => rfl⟩
  · rw [of_decide_eq_true h]; exact ⟨.int _, fun X j p => pe_int, fun _ _ _ _ => rfl⟩
  · rw [of_decide_eq_true h]; exact ⟨.str _, fun X j p => pe_str, fun _ _ _ _ => rfl⟩
  · cases h
theorem sH1 {G : Gam} {S : Sx} {X : Cx} (g : Fit S X) (hu : X.A.units + 1 < cLine) : ∀ (h : List H1) (ss : List Stmt), chkH1 S h ss = true → PSs X ss (tH G h)
  | [], [], _ => pss_nil.imp fun E σ H ⟨μ, env, st, c, p, R, e, q⟩ => q.next R e
  | [], _ :: _, h => by simp [chkH1] at h
  | _ :: _, [], h => by rename_i a b; cases a <;> simp [chkH1] at h
  | .lit i d :: r, s :: ss, h => by
    simp only [chkH1, Bool.and_eq_true] at h
    obtain ⟨h1, h2⟩ := h
    split at h1
    · rw [Bool.and_eq_true] at h1
      obtain ⟨l1, l2, l3⟩ := locB_fit g h1.1
      obtain ⟨v, hv, hr⟩ := constB_pe h1.2
      refine (pss_cons (ps_set g.nd l1 l2 (hv X _ _) rfl l3) (sH1 (G := G) g hu r ss h2)).imp fun E σ H ⟨μ, env, st, cc, p, R, e, q⟩ => ?_
      exact ⟨μ, _, st, cc, p, R, e.set (hr G μ _ H), q⟩
    · cases h1
  | .sub i k d :: r, s :: ss, h => by
    simp only [chkH1, Bool.and_eq_true] at h
    obtain ⟨h1, h2⟩ := h
    split at h1
    · simp only [Bool.and_eq_true, decide_eq_true_eq] at h1
      obtain ⟨⟨h3, rfl⟩, h4⟩ := h1
      obtain ⟨l1, l2, l3, l4⟩ := visB_fit g h3
      obtain ⟨v, hv, hr⟩ := constB_pe h4
      refine (pss_cons (ps_asg (hv X _ _) (pg_sub (pe_var l1 l2 l3 l4) pe_int set_list) rfl rfl rfl) (sH1 (G := G) g hu r ss h2)).imp fun E σ H ⟨μ, env, st, cc, p, R, e, q⟩ => ?_
      unfold runH at q
      split at q
      · rename_i l hl
        split at q
        · rename_i xs hx
          split at q
          · rename_i j hj
            obtain ⟨w, e1, e2⟩ := e.val i _ hl
            obtain ⟨hlt, rfl⟩ := e2
            obtain ⟨hz, vs, h5, rs⟩ := R.lst hx
            have nx := nx_write R (ho := .lst (vs.set j v)) hlt (k := (st.set l (.lst (xs.set j d))).length) (by simp)
            have R2 : Rl G μ (st.set l (.lst (xs.set j d))) (upd H (μ l) (.lst (vs.set j v))) := R.write hlt ⟨by rw [List.length_set]; exact hz, _, upd_same, by
              have z := Reps.mono nx.toNx0 _ _ (rs.set j (hr G μ _ H))
              rw [List.length_set] at z
              exact z⟩
            exact ⟨_, e1, _, vs, _, j, rfl, rfl, h5, ixN_set rs.length hj, μ, env, _, cc, p, R2, e.mono nx.toNx0, PostS.trans nx q⟩
          · exact q.no
        · exact q.no
      · exact q.no
    · cases h1
  | .pay _ _ :: r, s :: ss, h => by simp [chkH1] at h
  | .payT _ _ _ :: r, s :: ss, h => by simp [chkH1] at h
def chkHs (Tt : Tab) (S : Sx) : List (Nat × List H1) → List ExceptHandler → Bool
  | [], [] => true
  | (c, h) :: r, e :: es => (match e with
    | .ExceptHandler (some (.Name x _)) none (b :: suite) _ => decide (Tt.exs c = some x) && glB S x && chkH1 S h (b :: suite)
    | _ => false) && chkHs Tt S r es
  | _, _ => false
/-! ### statements -/
def parB (S : Sx) (i j : Nat) (x y : Str) (px py : Pos) (a b : Expr) : Bool :=
  decide (S.N[i]? = some x) && decide (S.N[j]? = some y) && decide (i ≠ j) && decide (x ≠ y) && decide (S.sc.names.lookup x = some .local) && decide (S.sc.names.lookup y = some .local) && decide (py.line = px.line) && notStar a && notStar b &&
    !(foldedForSure 8 a && foldedForSure 8 b) && !(constantsAlone 8 a && constantsAlone 8 b)
/-- the swap of a comprehension with the store -/
def swapB (S : Sx) (t : Str) (p : Pos) (v : Expr) (scope : Scope) : Bool := S.sc.names.lookup t == some .local && p.line == v.pos.line && !(scope.names.any fun (n, k) => n == t && (k == .local || k == .cell))
def asgB (S : Sx) (tg : Expr) (v : Expr) : Bool := match tg with
  | .Name t p => (match v with
    | .ListComp _ _ s _ => !swapB S t p v s
    | .SetComp _ _ _ _ => false
    | .DictComp _ _ _ _ _ => false
    | _ => true)
  | .Tuple _ _ _ => notComp v && (match v with
    | .Tuple _ _ _ => false
    | _ => true)
  | _ => false
section
variable (Tt : Tab)
mutual
def chkS : S → Sx → Stmt → Bool
  | .bad, _, _ => true
  | .asg tg e, X, s => match s with
    | .Assign [t] v _ => chkTg X tg t && chkE Tt e X v && notStar t && (asgB X t v || (match tg, e, t, v with
      | .name _, .lc _ _ _ _ _, .Name x p, .ListComp _ _ sc _ => swapB X x p v sc
      | _, _, _, _ => false))
    | _ => false
  | .par i j a b, X, s => match s with
    | .Assign [.Tuple [.Name x px, .Name y py] _ _] (.Tuple [u, v] _ _) _ => parB X i j x y px py u v && chkE Tt a X u && chkE Tt b X v
    | _ => false
  | .setIx o i e, X, s => match s with
    | .Assign [.Subscript x y _] v _ => notSlice y && chkE Tt o X x && chkE Tt i X y && chkE Tt e X v
    | _ => false
  | .setFld _ _ _, _, _ => false
  | .aug i op e, X, s => match s with
    | .AugAssign (.Name x _) o v _ => locB X i x && decide (bOp op = o) && (decide (op = .add) || decide (op = .sub)) && chkE Tt e X v
    | _ => false
  | .expr e, X, s => match s with
    | .Expr v _ => notComp v && chkE Tt e X v
    | _ => false
  | .pass, _, s => match s with
    | .Pass _ => true
    | .Expr (.Constant (.str _) _ _) _ => true
    | _ => false
  | .ite t a b, X, s => match s with
    | .If c u v _ => chkT Tt t X c && chkSs a X u && chkSs b X v
    | _ => false
  | .forr tg src tmp body, X, s => match s with
    | .For t it b [] _ => chkTg X tg t && notSetE it && chkSrc Tt src X t it && chkSs body X b
    | _ => false
  | .whil t tmp body, X, s => match s with
    | .While c b [] _ => chkT Tt t X c && chkSs body X b
    | _ => false
  | .ret e, X, s => match s with
    | .Return (some v) _ => chkE Tt e X v
    | _ => false
  | .retN, _, s => match s with
    | .Return none _ => true
    | _ => false
  | .raise c f e, X, s => match f, e, s with
    | none, .no, .Raise (some (.Call (.Name x _) [] [] _)) none _ => decide (Tt.exs c = some x) && decide (c ∈ Tt.exr) && glB X x
    | _, _, _ => false
  | .tryx body hs, X, s => match s with
    | .Try b (h :: t) [] [] _ => chkSs body X b && chkHs Tt X hs (h :: t)
    | _ => false
  | .tryAs _ _ _ _, _, _ => false
def chkSs : Ss → Sx → List Stmt → Bool
  | .nil, _, s => match s with
    | [] => true
    | _ => false
  | .cons a r, X, s => match s with
    | b :: t => chkS a X b && chkSs r X t
    | _ => false
end
end
structure GdS (G : Gam) (Tt : Tab) (cl : Call) (k : Nat) (W : WX) (S : Sx) (X : Cx) : Prop extends GdE G Tt cl k W S X where
  hp : PassesOwn (model X.prog X.w) X.A X.env X.xe
  hs : X.stack = X.env :: X.outer
  hf : X.env.frame = some X.env.locals
  kind : S.sc.kind = .function
section
variable {G : Gam} {Tt : Tab} {cl : Call} {k : Nat} {W : WX} {S : Sx} {X : Cx}
theorem GdE.fit (g : GdE G Tt cl k W S X) : Fit S X := ⟨g.nd, g.sc, g.fn, g.N⟩
theorem GdS.bk (g : GdS G Tt cl k W S X) : X.env.blockKind = .function := by
  unfold Env.blockKind
  rw [g.sc, g.kind]; rfl
theorem swap_eq (g : GdS G Tt cl k W S X) {elt : Expr} {gs : List Comprehension} {scope : Scope} {pos p : Pos} {l : Nat} {t : Str} :
    swapsWith (.ListComp elt gs scope pos) (some (.Name t p)) l X.env = pure (swapB S t p (.ListComp elt gs scope pos) scope) := by
  unfold swapsWith swapB Env.kindOf
  rw [g.bk, g.sc]
  rfl
theorem asgB_ok (g : GdS G Tt cl k W S X) {tg v : Expr} {l : Nat} (h : asgB S tg v = true) : swapsWithSole [tg] v l X.env = pure false ∧ swappedStores [tg] v X.env = pure none := by
  cases tg with
  | Name t p =>
    refine ⟨?_, rfl⟩
    show swapsWith v (some (.Name t p)) l X.env = pure false
    cases v with
    | ListComp e gs s q =>
      rw [swap_eq g]
      have h' : (!swapB S t p (.ListComp e gs s q) s) = true := h
      rw [Bool.not_eq_true'] at h'
      rw [h']
    | SetComp _ _ _ _ => cases h
    | DictComp _ _ _ _ _ => cases h
    | _ => rfl
  | Tuple es kk p =>
    unfold asgB at h
    rw [Bool.and_eq_true] at h
    refine ⟨(swaps_no h.1 : swapsWith v (some (.Tuple es kk p)) l X.env = pure false), ?_⟩
    have h2 := h.2
    cases v <;> first | rfl | cases h2
  | _ => cases h
theorem star_f : ∀ {e : Expr}, notStar e = true → (match e with
    | .Starred .. => true
    | _ => false) = false := by
  intro e h
  cases e <;> first | rfl | cases h
theorem parB_ok (g : GdS G Tt cl k W S X) {i j : Nat} {x y : Str} {px py pt pt2 : Pos} {kt k2 : Nat} {a b : Expr} (h : parB S i j x y px py a b = true) :
    X.N[i]? = some x ∧ X.N[j]? = some y ∧ i ≠ j ∧ X.env.scope.names.lookup x = some .local ∧ X.env.scope.names.lookup y = some .local ∧ notStar a = true ∧ notStar b = true ∧
      swappedStores [.Tuple [.Name x px, .Name y py] kt pt] (.Tuple [a, b] k2 pt2) X.env = pure (some [x, y]) := by
  unfold parB at h
  simp only [Bool.and_eq_true, decide_eq_true_eq, Bool.not_eq_true', Bool.and_eq_false_iff] at h
  obtain ⟨⟨⟨⟨⟨⟨⟨⟨⟨⟨h1, h2⟩, h3⟩, h4⟩, h5⟩, h6⟩, h7⟩, h8⟩, h9⟩, h10⟩, h11⟩ := h
  refine ⟨by rw [g.N]; exact h1, by rw [g.N]; exact h2, h3, by rw [g.sc]; exact h5, by rw [g.sc]; exact h6, h8, h9, ?_⟩
  have hkx : X.env.kindOf x = some .local := by unfold Env.kindOf; rw [g.sc]; exact h5
  have hky : X.env.kindOf y = some .local := by unfold Env.kindOf; rw [g.sc]; exact h6
  have hf : [a, b].all (foldedForSure 8) = false := by
    show (foldedForSure 8 a && (foldedForSure 8 b && true)) = false
    rcases h10 with h | h <;> rw [h] <;> simp
  have hc : [a, b].all (constantsAlone 8) = false := by
    show (constantsAlone 8 a && (constantsAlone 8 b && true)) = false
    rcases h11 with h | h <;> rw [h] <;> simp
  have hn : ([Expr.Name x px, Expr.Name y py].filterMap fun
    | .Name id pos => if X.env.kindOf id == some .local && pos.line == (Expr.Name x px).pos.line then some id else none
    | _ => none) = [x, y] := by
    simp [hkx, hky, h7, Expr.pos]
  have he : [x, y].eraseDups = [x, y] := by
    simp [List.eraseDups_cons, h4, Ne.symm h4]
  unfold swappedStores
  dsimp only
  rw [g.bk]
  simp only [List.length_cons, List.length_nil, List.head?_cons, Option.map_some, Option.getD_some]
  refine (if_neg (by decide)).trans ?_
  refine (if_neg ?_).trans ?_
  · refine Bool.eq_false_iff.mp ?_
    show (_ || (_ || false)) = false
    exact Bool.or_eq_false_iff.mpr ⟨star_f h8, Bool.or_eq_false_iff.mpr ⟨star_f h9, rfl⟩⟩
  refine (if_neg ?_).trans ?_
  · erw [hn]
    rw [he]
    simp
  refine (if_neg (by rw [hf]; decide)).trans ?_
  refine (if_neg (by rw [hc]; decide)).trans ?_
  erw [hn]
def hL (G : Gam) (hs : List (Nat × List H1)) : List (Value × (Addr → Value → Option Addr → TS)) := hs.map fun q => (.ref (G.xA q.1), fun _ _ _ => tH G q.2)
theorem runH_next (c : Nat) : ∀ (h : List H1) (p : D) (env : Env) (st : AS), (∃ e s, runH c h p env st = .next e s) ∨ runH c h p env st = .bad
  | [], p, env, st => .inl ⟨env, st, rfl⟩
  | .lit i d :: r, p, env, st => by unfold runH; exact runH_next c r p _ st
  | .pay i f :: r, p, env, st => by
    unfold runH
    split
    · exact runH_next c r p _ st
    · exact .inr rfl
  | .payT i d f :: r, p, env, st => by
    unfold runH
    split
    · exact runH_next c r p _ st
    · exact .inr rfl
  | .sub i k d :: r, p, env, st => by
    unfold runH
    split
    · split
      · split
        · exact runH_next c r p env _
        · exact .inr rfl
      · exact .inr rfl
    · exact .inr rfl
theorem sHd (g : GdS G Tt cl k W S X) : ∀ (hs : List (Nat × List H1)) (es : List ExceptHandler), chkHs Tt S hs es = true → HdsOk X es (hL G hs)
  | [], [], _ => .nil
  | [], _ :: _, h => by simp [chkHs] at h
  | (c, a) :: r, [], h => by simp [chkHs] at h
  | (c0, a) :: r, e :: es, h => by
    simp only [chkHs, Bool.and_eq_true] at h
    obtain ⟨h1, h2⟩ := h
    split at h1
    · simp only [Bool.and_eq_true, decide_eq_true_eq] at h1
      obtain ⟨⟨e1, e2⟩, e3⟩ := h1
      obtain ⟨g1, g2, g3⟩ := glB_ok g.toGdE e2
      refine .cons ⟨g1, g2, .inl (by rw [g.hmg]; exact g.fx.exn _ _ e1)⟩ (fun ad oe cls d pn _ _ => sH1 (X := X.suite ad ((ad, oe) :: pn)) ⟨g.nd, g.sc, g.fn, g.N⟩ ?_ a _ e3) (sHd g r es h2)
      have := g.hu
      show X.A.units + 1 < cLine
      omega
    · cases h1
theorem sHw (g : GdS G Tt cl k W S X) {E : Ends} {c : Nat} {p : D} {env : Env} {st : AS} {μ : Nat → Addr} {n : Nat} {H : Hp} : ∀ (hs : List (Nat × List H1)) (es : List ExceptHandler), chkHs Tt S hs es = true →
    PostS G W E μ n H (match pickH c hs with
      | some h => runH c h p env st
      | none => .exn c p env st) → ∀ μ' dx H' σ', Nx μ n H μ' st.length H' → Rl G μ' st H' → ER G μ' st.length H' env σ' → Pay G μ' st.length H' c p dx → wMany X.K W E (hL G hs) (.ref (G.xA c)) dx σ' H'
  | [], [], _, h, μ', dx, H', σ', x, R, e, py => h μ' dx H' σ' x R e py
  | [], _ :: _, h, _, _, _, _, _, _, _, _, _ => by simp [chkHs] at h
  | (_, a) :: r, [], h, _, _, _, _, _, _, _, _, _ => by simp [chkHs] at h
  | (c0, a) :: r, e :: es, h, hp, μ', dx, H', σ', nx, R, er, py => by
    simp only [chkHs, Bool.and_eq_true] at h
    obtain ⟨h1, h2⟩ := h
    split at h1
    · simp only [Bool.and_eq_true, decide_eq_true_eq] at h1
      obtain ⟨⟨e1, e2⟩, e3⟩ := h1
      refine ⟨subX c c0, by rw [g.hK]; exact g.fx.exm c c0 _ e1, fun hs a' ha => ?_, fun hs => ?_⟩
      · unfold pickH at hp
        rw [if_pos hs] at hp
        refine ⟨μ', env, st, c, p, R, er, ?_⟩
        have q : PostS G W E μ' st.length H' (runH c a p env st) := PostS.trans nx hp
        rcases runH_next c a p env st with ⟨e, s, hr⟩ | hr
        · rw [hr] at q ⊢
          exact q
        · rw [hr] at q
          exact q.no
      · unfold pickH at hp
        rw [if_neg (by rw [hs]; exact Bool.false_ne_true)] at hp
        exact sHw g r es h2 hp μ' dx H' σ' nx R er py
    · cases h1
theorem GdS.tr (g : GdS G Tt cl k W S X) {W' : WX} {pn : List (Addr × Obj)} {xe : Value → Shared → Prop} (tk : Takes (X.tr pn xe) W') (hp : PassesOwn (model X.prog X.w) X.A X.env xe) : GdS G Tt cl k W' S (X.tr pn xe) :=
  ⟨⟨g.fx, g.hK, g.hw, g.hmg, g.nd, g.calm, tk, g.room, g.fns, g.sc, g.fn, g.N⟩, hp, g.hs, g.hf, g.kind⟩
mutual
theorem sS : ∀ (s : Ws.S) {W : WX} {S : Sx} {X : Cx}, GdS G Tt cl k W S X → ∀ (st : Stmt), chkS Tt s S st = true → PS X st (tS G W (exS cl s))
  | .bad, W, S, X, g, st, h => ⟨fun pins s σ H D I ⟨μ, env, st, R, e, p⟩ => p.no⟩
  | .asg tg e, W, S, X, g, st, h => by
    unfold chkS at h
    split at h
    · rename_i t v pos
      simp only [Bool.and_eq_true, Bool.or_eq_true] at h
      obtain ⟨⟨⟨h1, h2⟩, h3⟩, h4⟩ := h
      rcases h4 with h4 | h4
      · obtain ⟨w1, w2⟩ := asgB_ok (l := pos.line) g h4
        exact w_asg (sE e g.toGdE _ h2) (sTg g.toGdE tg _ h1) w1 w2 (by cases t <;> first | rfl | cases h3)
      · split at h4
        · rename_i i own elt tg2 src c x px x0 gens sc p0
          unfold chkE at h2
          split at h2
          · rename_i x1 q scope p1 heq
            cases heq
            obtain ⟨tg', iter, ifs, isa⟩ := q
            simp only [Bool.and_eq_true, decide_eq_true_eq, List.all_eq_true] at h2
            obtain ⟨⟨⟨⟨⟨⟨⟨rfl, k1⟩, k2⟩, k3⟩, k4⟩, k5⟩, k6⟩, k7⟩ := h2
            obtain ⟨l1, l2, l3⟩ := locB_ok g.toGdE (show locB S i x = true from h1)
            have hl : X.env.scope.names.lookup x = some .local := by
              unfold swapB at h4
              simp only [Bool.and_eq_true, beq_iff_eq] at h4
              rw [g.sc]
              exact h4.1.1
            refine (ps_setLc g.calm g.nd l1 hl (by rw [swap_eq g, h4]) (sSrc src g.toGdE _ _ k5) (blkOk_by (own := own) (by rw [g.N, g.sc]; exact k2)) (fun s H C c fp => sTg (g.blk s H C c fp sc) tg2 _ k4) (fun s H C c' fp => sTo c (g.blk s H C c' fp sc) _ k6)
              (fun s H C c' fp => sE elt (g.blk s H C c' fp sc) _ k7) (notSet_ok k1)).imp fun E σ H h => lc_ok k3 (asg_ok (t := .name i) h)
          · cases h2
        · cases h4
    · cases h
  | .par i j a b, W, S, X, g, st, h => by
    unfold chkS at h
    split at h
    · simp only [Bool.and_eq_true] at h
      obtain ⟨⟨h1, h2⟩, h3⟩ := h
      obtain ⟨p1, p2, p3, p4, p5, p6, p7, p8⟩ := parB_ok g h1
      exact w_par g.calm g.nd p1 p2 p3 p4 p5 (sE a g.toGdE _ h2) (sE b g.toGdE _ h3) (star_one p6) (star_one p7) p8
    · cases h
  | .setIx o i e, W, S, X, g, st, h => by
    unfold chkS at h
    split at h
    · simp only [Bool.and_eq_true] at h
      obtain ⟨⟨⟨h1, h2⟩, h3⟩, h4⟩ := h
      rename_i x y p v0 pos
      refine w_setIx (by have := g.hu; omega) (sE o g.toGdE _ h2) (sE i g.toGdE _ h3) (sE e g.toGdE _ h4) (fun v => ?_) (show swapsWith v0 (some (.Subscript x y p)) pos.line X.env = pure false from swaps_sub)
      cases y <;> first | rfl | cases h1
    · cases h
  | .setFld _ _ _, W, S, X, g, st, h => by simp [chkS] at h
  | .aug i op e, W, S, X, g, st, h => by
    unfold chkS at h
    split at h
    · simp only [Bool.and_eq_true, Bool.or_eq_true, decide_eq_true_eq] at h
      obtain ⟨⟨⟨h1, rfl⟩, h3⟩, h4⟩ := h
      obtain ⟨l1, l2, l3⟩ := locB_ok g.toGdE h1
      exact w_aug g.nd l1 l2 (sE e g.toGdE _ h4) h3 l3
    · cases h
  | .expr e, W, S, X, g, st, h => by
    unfold chkS at h
    split at h
    · rw [Bool.and_eq_true] at h
      exact w_expr (sE e g.toGdE _ h.2) (swaps_no h.1)
    · cases h
  | .pass, W, S, X, g, st, h => by
    unfold chkS at h
    split at h
    · exact w_pass
    · exact ps_doc.imp fun E σ H ⟨μ, env, st, R, e, p⟩ => p.next R e
    · cases h
  | .ite t a b, W, S, X, g, st, h => by
    unfold chkS at h
    split at h
    · simp only [Bool.and_eq_true] at h
      exact w_if (sT t g.toGdE _ h.1.1).1 (sSs a g _ h.1.2) (sSs b g _ h.2)
    · cases h
  | .forr tg src tmp body, W, S, X, g, st, h => by
    unfold chkS at h
    split at h
    · simp only [Bool.and_eq_true] at h
      obtain ⟨⟨⟨h1, h2⟩, h3⟩, h4⟩ := h
      exact w_for g.hp g.calm (sSrc src g.toGdE _ _ h3) (sTg g.toGdE tg _ h1) (sSs body g _ h4) (notSet_ok h2)
    · cases h
  | .whil t tmp body, W, S, X, g, st, h => by
    unfold chkS at h
    split at h
    · rw [Bool.and_eq_true] at h
      exact w_while g.hp (sT t g.toGdE _ h.1).1 (sSs body g _ h.2)
    · cases h
  | .ret e, W, S, X, g, st, h => by
    unfold chkS at h
    split at h
    · exact w_ret (sE e g.toGdE _ h)
    · cases h
  | .retN, W, S, X, g, st, h => by
    unfold chkS at h
    split at h
    · exact w_retN
    · cases h
  | .raise c f e, W, S, X, g, st, h => by
    unfold chkS at h
    split at h
    · simp only [Bool.and_eq_true, decide_eq_true_eq] at h
      obtain ⟨⟨h1, h2⟩, h3⟩ := h
      obtain ⟨k1, k2, bmB, B, n1, n2, F, q⟩ := g.fx.exr c h2
      obtain ⟨g1, g2, g3⟩ := glB_ok g.toGdE h3
      exact w_raise g.calm g.tk (pmk_own0 F (by rw [g.hK]; exact q) (by rw [g.hmg]; exact g.fx.exn c _ h1) (by rw [g.hK]; exact k1) (k2 X g.hK) g1 g2)
    · cases h
  | .tryx body hs, W, S, X, g, st, h => by
    unfold chkS at h
    split at h
    · rename_i b hd tl pos
      simp only [Bool.and_eq_true] at h
      obtain ⟨h1, h2⟩ := h
      refine (ps_try_many (tb := fun W => tS G W (exSs cl body)) g.hs g.hf g.tk (fun W' pn xe tk hp => sSs body (g.tr tk hp) _ h1) (sHd g hs _ h2)).imp fun E σ H ⟨μ, env, st, R, e, q⟩ => ⟨μ, env, st, R, e, ?_⟩
      unfold exS at q
      generalize exSs cl body env st = r at q
      cases r with
      | exn c p e s => exact sHw g hs _ h2 q
      | next e s => exact q
      | ret d s => exact q
      | brk e s => exact q
      | cont e s => exact q
      | bad => exact q
    · cases h
  | .tryAs _ _ _ _, W, S, X, g, st, h => by simp [chkS] at h
theorem sSs : ∀ (s : Ss) {W : WX} {S : Sx} {X : Cx}, GdS G Tt cl k W S X → ∀ (st : List Stmt), chkSs Tt s S st = true → PSs X st (tS G W (exSs cl s))
  | .nil, W, S, X, g, st, h => by
    unfold chkSs at h
    split at h
    · exact w_nil
    · cases h
  | .cons a r, W, S, X, g, st, h => by
    unfold chkSs at h
    split at h
    · rw [Bool.and_eq_true] at h
      exact w_cons (sS a g _ h.1) (sSs r g _ h.2)
    · cases h
end
end
end Ws
end
end

section
set_option Elab.async false
set_option linter.all false
set_option maxRecDepth 100000
set_option maxHeartbeats 4000000
/-! WsM: all defs of a text; the law's end. -/
noncomputable section
namespace Ws
open PySem PySem.Spec PyProof.Rows L2
theorem fn_ruleD {G : Gam} {base : Heap} {Pg : Program} {P : Nat → Option FDef} {n k f : Nat} {x qual : Str} {params : Arguments} {body : List Stmt} {scope : Scope} {dvs : List V} {kws : List (Str × V)} {N : List Str} {fd : FDef}
    (F : FunD G.K x qual params body scope dvs kws (G.fA f) (G.fD f)) (S : FnScope N (G.fP f) scope)
    (hP : P f = some fd) (np : fd.np = (G.fP f).length) (ns : fd.ns = N.length)
    (hbody : ∀ (cdv : Value) (A : Around) (outer : List PySem.Env) (s : Shared) (H : Hp) (E : XK), Room k (A.deeper (envOfC qual scope s.heap.objs.size (G.fA f) cdv)) →
      PSs (cxOf (L2.CX Pg G.w) Pg G.w G.K G.mg base N qual scope (G.fA f) cdv A outer s H E) body (tS G (fun c d _ H => E c d H) fun env st => exSs (callF P n) fd.body env st)) :
    FnOk Pg G.w G.K G.mg base (L2.CX Pg G.w) (k + 1) (G.fA f) (G.fD f) (G.fP f) (spI G (callF P (n + 1)) f) := by
  refine F.ok S (fun vs H Q E h => h.1) fun cdv A outer s H vs Q E hr hsp => ⟨_, hbody cdv A outer s H E hr, ?_⟩
  obtain ⟨hl, μ, st0, ds, R, rs, p⟩ := hsp
  refine ⟨μ, startE fd.ns ds, st0, R, rs.entry ns, ?_⟩
  unfold callF at p
  rw [hP] at p
  dsimp only at p
  rw [if_pos (by rw [np, rs.length, hl])] at p
  exact res_ok (gc_ok R p)
/-! ### a text -/
/-- a def of the text, its slots, its parameters, what it is in the small syntax -/
structure Df where
  d : He.DefD
  N : List Str
  ps : List Str
  fd : FDef
def Df.sx (d : Df) : Sx := ⟨d.d.scope, fun _ => true, d.N⟩
def scB (N P : List Str) (sc : Scope) : Bool :=
  decide (sc.kind = .function) && !sc.isCoroutine && !sc.isGenerator && decide N.Nodup && decide (N.take P.length = P) && P.all (fun x => decide (sc.names.lookup x = some .local) || decide (sc.names.lookup x = some .cell)) && sc.names.all (fun y => !decide (y.2 = .free))
theorem scB_ok {N P : List Str} {sc : Scope} (h : scB N P sc = true) : FnScope N P sc := by
  unfold scB at h
  simp only [Bool.and_eq_true, Bool.not_eq_true', decide_eq_true_eq, List.all_eq_true, Bool.or_eq_true, decide_eq_false_iff_not] at h
  obtain ⟨⟨⟨⟨⟨⟨h1, h2⟩, h3⟩, h4⟩, h5⟩, h6⟩, h7⟩ := h
  exact ⟨h1, h2, h3, h4, h5, h6, h7⟩
def Df.okB (Tt : Tab) (d : Df) : Bool := scB d.N d.ps d.d.scope && chkSs Tt d.fd.body d.sx d.d.body && decide (d.fd.np = d.ps.length) && decide (d.fd.ns = d.N.length)
def PF (ds : List (Option Df)) (f : Nat) : Option FDef := ((ds[f]?).getD none).map (·.fd)
structure Text (G : Gam) (Tt : Tab) (ds : List (Option Df)) : Prop where
  fx : Facts G Tt
  fns : ∀ f, (Tt.fns f).isSome = true → ∃ d, ds[f]? = some (some d) ∧ d.okB Tt = true ∧ G.fP f = d.ps ∧ FunD G.K d.d.name d.d.qual d.d.params d.d.body d.d.scope [] [] (G.fA f) (G.fD f)
theorem fns_ok {G : Gam} {Tt : Tab} {ds : List (Option Df)} (X : Text G Tt ds) {base : Heap} {Pg : Program} : ∀ (n f : Nat), (Tt.fns f).isSome = true →
    FnOk Pg G.w G.K G.mg base (L2.CX Pg G.w) (2 * n) (G.fA f) (G.fD f) (G.fP f) (spI G (callF (PF ds) n) f)
  | 0, f, hf => ⟨fun vs H Q E h => h.1, fun A outer s H args us vs Q E hr e0 hb r hsp => by
    obtain ⟨hl, μ, st0, d, R, rs, p⟩ := hsp
    exact p.elim⟩
  | n + 1, f, hf => by
    obtain ⟨d, hd, ok, hp, F⟩ := X.fns f hf
    unfold Df.okB at ok
    simp only [Bool.and_eq_true, decide_eq_true_eq] at ok
    obtain ⟨⟨⟨k1, k2⟩, k3⟩, k4⟩ := ok
    have S := scB_ok k1
    rw [← hp] at S k3
    refine (fn_ruleD (k := 2 * n + 1) F S (fd := d.fd) (by unfold PF; rw [hd]; rfl) k3 k4 fun cdv A outer s H E hr => sSs (Tt := Tt) (k := 2 * n) d.fd.body (S := d.sx) ⟨⟨X.fx, rfl, rfl, rfl, S.nd, rfl, takes_of rfl rfl rfl rfl, hr, fun g hg => fns_ok X n g hg, rfl, fun _ _ => rfl, rfl⟩, passes_of rfl, rfl, rfl, S.kind⟩ _ k2)
/-! ### the law's end -/
/-- the script: a list that stays -/
def Scr (st : AS) (d : D) (ns : List Int) : Prop := listD st d = some (ns.map D.int) ∧ ((∃ l, d = .ref l ∧ st = [.frz (ns.map D.int)] ∧ l = 0) ∨ (d = .kls (ns.map D.int) ∧ st = []))
theorem law_end {G : Gam} {cl : Call} {f : Nat} {x : Str} (hp : G.fP f = [x]) (hl : ∀ (ns : List Int) (st : AS) (d : D), ns.length ≤ 63 → Scr st d ns → ∃ st', cl f [d] st = .ok (.bl true) st')
    (H : Hp) (a : Addr) (ns : List Int) (hz : ns.length ≤ 63) (hO : Only H) (hS : SqL G.K H a (ns.map V.int)) : spI G cl f [.ref a] H (fun v _ => v = .bl true) fun _ _ _ => False := by
  have sz : (ns.map D.int).length ≤ szMax := by rw [List.length_map]; exact Nat.le_trans hz (by unfold szMax; omega)
  refine ⟨by rw [hp]; rfl, ?_⟩
  have fin : ∀ {st : AS} {d : D} {μ : Nat → Addr}, Rl G μ st H → Rep G μ st.length H d (.ref a) → Scr st d ns → ∃ μ st ds, Rl G μ st H ∧ Reps G μ st.length H ds [.ref a] ∧ PostR G (fun _ _ _ _ => False) [] μ st.length H (PV G fun v _ => v = .bl true) (cl f ds st) := fun {st d μ} R r s => by
    obtain ⟨st', e⟩ := hl ns st d hz s
    refine ⟨μ, st, [d], R, .one r, ?_⟩
    rw [e]
    exact fun μ' H' _ _ v rv => rv
  rcases hS with hS | ⟨o, its, n, h1, h2, h3, h4, h5, h6⟩
  · have hS' : ∃ ob, H a = some (.frz ob (.lst (ns.map V.int))) := by
      rcases hS with h | ⟨ob, h⟩
      · rcases hO a with z | ⟨o, xs, z⟩ <;> (rw [h] at z; cases z)
      · exact ⟨ob, h⟩
    obtain ⟨ob, hS'⟩ := hS'
    have R : Rl G (fun _ => a) [.frz (ns.map D.int)] H := by
      refine ⟨fun i j hi hj _ => ?_, fun i o e => ?_⟩
      · simp only [List.length_singleton] at hi hj; omega
      · have hi := (List.getElem?_eq_some_iff.mp e).1
        simp only [List.length_singleton] at hi
        have e0 : i = 0 := by omega
        subst e0
        simp only [List.getElem?_cons_zero, Option.some.injEq] at e
        subst e
        exact ⟨sz, ob, _, hS', Reps.ofInts ns⟩
    exact fin (d := .ref 0) R ⟨by simp, rfl⟩ ⟨rfl, .inl ⟨0, rfl, rfl, rfl⟩⟩
  · have R : Rl G (fun _ => a) [] H := ⟨fun i j hi => absurd hi (Nat.not_lt_zero _), fun i o e => by simp at e⟩
    exact fin (d := .kls (ns.map D.int)) R ⟨sz, a, _, rfl, ⟨o, its, n, h1, h2, h3, h4, h5, h6⟩, Reps.ofInts ns⟩ ⟨rfl, .inr ⟨rfl, rfl⟩⟩
theorem noCX {P : Program} {w : World} (H : Hp) (s : Shared) (e : Value) (s' : Shared) (h : L2.CX P w [] H s (fun _ _ _ => False) e s') : False := by
  obtain ⟨_, _, _, _, _, _, _, _, _, _, _, _, z⟩ := h
  exact z
end Ws
end
end

section
set_option Elab.async false
set_option linter.all false
set_option maxRecDepth 100000
set_option maxHeartbeats 4000000
/-! WsN: from the head's facts to a text. -/
noncomputable section
namespace Ws
open PySem PySem.Spec PyProof.Rows L2
theorem walk_ofX {l : PySem.W.OpenLaw} {n k : Nat} {q : Program} {loose : List Str} {XP : (Str → Option Value) → Heap → Prop} {YP : World → Heap → Prop} {d : DefRec} {x : Str}
    (hn : l.most = some n) (hn2 : n ≤ sizeLine) (hdf : d.params.defaults = []) (hr : Room k callerA)
    (F : ∀ (w : World) (mg : Str → Option Value) (fa : Addr) (h : Heap), YP w h → h.Ns mainGlobals mg → mg d.name = some (.ref fa) →
      ∃ (K : PySem.W.Frag) (fd : FuncData) (sp : Sp), K.In h ∧ (∀ (s : Shared) (u : Value), BindsTo s fd ⟨[u], []⟩ [(x, u)]) ∧
        (∀ (H : Hp) (a : Addr) (ns : List Int), ns.length ≤ n → Only H → SqL K H a (ns.map V.int) → sp [.ref a] H (fun v _ => v = .bl true) fun _ _ _ => False) ∧
        ∀ base : Heap, K.In base → base.Ns mainGlobals mg → FnOk l.prog w K mg base (L2.CX l.prog w) k fa fd [x] sp) :
    PySem.W.WalkO q loose XP YP l.row.toRowW d [] (fun f vs => PySem.call f vs) := by
  refine Att.attach_callB hn hdf fun w s₀ s₁ mg mb fa o pm cd doc a vs ns G Y ho hd hcd hmg hobj hints hlen hbits hg => ?_
  obtain ⟨K, fd, sp, KX, hb, hsp, hF⟩ := F w mg fa _ Y G.T.g hmg
  exact law_call KX G.T.g G.T.b G.T.builtins G.T.nolimit hg hobj hints (Nat.le_trans hlen hn2) hr hF hb (fun H hO hS => hsp H a ns hlen hO hS) fun H e s' h => noCX H s₁ e s' h
/-! ### the module's constants -/
def dvD : D → Option He.Dv
  | .non => some .non
  | .bl b => some (.bl b)
  | .int i => some (.int i)
  | .str x => some (.str x)
  | _ => none
def dvDs : List D → Option (List He.Dv)
  | [] => some []
  | d :: r => match dvD d, dvDs r with
    | some a, some b => some (a :: b)
    | _, _ => none
theorem dvD_rep {K : PySem.W.Frag} {d : D} {v : He.Dv} (h : dvD d = some v) (G : Gam) (μ : Nat → Addr) (n : Nat) (H : Hp) : Rep G μ n H d (He.Dv.v K v) := by
  cases d <;> simp only [dvD, Option.some.injEq, reduceCtorEq] at h <;> subst h <;> rfl
theorem dvDs_rep {K : PySem.W.Frag} : ∀ {ds : List D} {vs : List He.Dv}, dvDs ds = some vs → ∀ (G : Gam) (μ : Nat → Addr) (n : Nat) (H : Hp), Reps G μ n H ds (vs.map (He.Dv.v K))
  | [], vs, h, G, μ, n, H => by simp only [dvDs, Option.some.injEq] at h; subst h; rfl
  | d :: r, vs, h, G, μ, n, H => by
    unfold dvDs at h
    split at h
    · rename_i a b h1 h2
      cases h
      exact .cons (dvD_rep h1 G μ n H) (dvDs_rep h2 G μ n H)
    · cases h
def glbB (K : PySem.W.Frag) (p : Str × D) : Bool := match p.2 with
  | .int i => He.Fa.ok K (.int p.1 i)
  | .str z => He.Fa.ok K (.str p.1 z)
  | .tup ds => He.Fa.ok K (.glo p.1) && decide (ds.length ≤ 1000) && (match dvDs ds with
    | some vs => He.tupB K p.1 vs
    | none => false)
  | _ => false
theorem glbB_ok {K : PySem.W.Frag} {h : Heap} {mg : Str → Option Value} (X : K.In h) (Gn : h.Ns mainGlobals mg) {p : Str × D} (c : glbB K p = true) (G : Gam) (hG : G.K = K) :
    ∃ v u, mg p.1 = some u ∧ RelV v u ∧ ∀ μ n H, Rep G μ n H p.2 v := by
  obtain ⟨x, d⟩ := p
  cases d with
  | int i =>
    obtain ⟨t, e⟩ := He.int_ok X Gn (show (He.Fa.int x i).ok K = true from c)
    exact ⟨.int i, _, e, ⟨t, rfl⟩, fun _ _ _ => rfl⟩
  | str z =>
    obtain ⟨t, e⟩ := He.str_ok X Gn (show (He.Fa.str x z).ok K = true from c)
    exact ⟨.str z, _, e, ⟨t, rfl⟩, fun _ _ _ => rfl⟩
  | tup ds =>
    unfold glbB at c
    simp only [Bool.and_eq_true, decide_eq_true_eq] at c
    obtain ⟨⟨c1, c2⟩, c3⟩ := c
    split at c3
    · rename_i vs hv
      have q := He.tupB_ok c3 (fun _ => none)
      rcases q with q | q
      · rcases q with q | ⟨o, q⟩ <;> cases q
      · refine ⟨.ref (He.ga K x), _, He.glo_ok X Gn c1, (rfl : _ = _), fun μ n H => ⟨szOk c2, _, _, rfl, .inr ?_, dvDs_rep (K := K) hv G μ n H⟩⟩
        rw [hG]
        exact q
    · cases c3
  | _ => cases c
/-! ### a law's text -/
structure LawT where
  ds : List (Option Df)
  exs : List (Option Str)
  exr : List Nat
  blt : List Str
  glb : List (Nat × Str × D)
def gn (d : Df) : Option Str := match d.d.at_.2 with
  | none => some d.d.at_.1
  | some _ => none
def atO {α : Type} (l : List (Option α)) (i : Nat) : Option α := (l[i]?).getD none
theorem atO_some {α : Type} {l : List (Option α)} {i : Nat} {a : α} (h : atO l i = some a) : l[i]? = some (some a) := by
  unfold atO at h
  cases e : l[i]? with
  | none => rw [e] at h; cases h
  | some o => rw [e] at h; rw [show o = some a from h]
def LawT.dl (l : LawT) : List Df := l.ds.filterMap id
def LawT.tab (l : LawT) : Tab := ⟨fun f => (atO l.ds f).map fun d => (gn d, d.ps), atO l.exs, l.exr, l.blt, l.glb⟩
def LawT.exl (l : LawT) : List (Str × Nat) := l.exs.zipIdx.filterMap fun p => p.1.map fun x => (x, p.2)
def LawT.exNames (l : LawT) : List Str := l.exr.filterMap (atO l.exs)
def LawT.exPairs (l : LawT) : List He.Fa := l.exl.flatMap fun p => l.exl.map fun q => .exm p.1 q.1 (subX p.2 q.2)
def LawT.fa (l : LawT) : List He.Fa := (l.dl.filterMap gn).map .glo ++ (l.blt.map .free ++ (l.exl.map (fun p => .glo p.1) ++ (l.exNames.map .exc ++ l.exPairs)))
def LawT.fn (l : LawT) : List He.DefD := l.dl.map (·.d)
def LawT.ex (l : LawT) (K : PySem.W.Frag) : Bool := l.glb.all fun p => glbB K p.2
def LawT.okB (l : LawT) : Bool := (l.dl.all fun d => d.okB l.tab && d.d.dfl.isEmpty && d.d.kwd.isEmpty) && (l.exr.all fun c => (atO l.exs c).isSome) && decide (l.exs[0]? = some (some ("WeekError" : Str)))
def BindOk (d : Df) : Prop := ∀ (kV doc pm : Value) (an : Option Addr) (cdv ct : Value) (us : List Value), us.length = d.ps.length → bindArgs (PySem.W.fnOf d.d.name d.d.qual d.d.params d.d.body d.d.scope .none kV doc pm an cdv ct) ⟨us, []⟩ = pure (d.ps.zip us)
def LawT.gam (l : LawT) (K : PySem.W.Frag) (w : World) (mg : Str → Option Value) (fD : Nat → FuncData) : Gam where
  K := K
  w := w
  mg := mg
  cA := fun _ => 0
  xA := fun c => He.ga K ((atO l.exs c).getD "WeekError")
  fA := fun f => match atO l.ds f with
    | some d => He.fAd K d.d.at_
    | none => 0
  fD := fD
  fP := fun f => match atO l.ds f with
    | some d => d.ps
    | none => []
theorem LawT.mem_dl (l : LawT) {f : Nat} {d : Df} (h : atO l.ds f = some d) : d ∈ l.dl := List.mem_filterMap.mpr ⟨some d, List.mem_of_getElem? (atO_some h), rfl⟩
theorem LawT.mem_exl (l : LawT) {c : Nat} {x : Str} (h : atO l.exs c = some x) : (x, c) ∈ l.exl := List.mem_filterMap.mpr ⟨(some x, c), List.mem_zipIdx_iff_getElem?.mpr (atO_some h), rfl⟩
theorem subX_absent {c h : Nat} (hn : c ≠ h) : subX c h = subX 0 h := by
  unfold subX
  have e1 : (c == h) = false := by simpa using hn
  rw [e1]
  by_cases e : h = 0
  · subst e; rfl
  · have e2 : (h == 0) = false := by simpa using e
    have e3 : (0 == h) = false := by simpa using Ne.symm e
    rw [e2, e3]
theorem LawT.text (l : LawT) {K : PySem.W.Frag} {h : Heap} {w w' : World} {mg : Str → Option Value} (X : K.In h) (Gn : h.Ns mainGlobals mg) (c : He.SaysX l.fa l.fn [] [] l.ex w' h K) (ok : l.okB = true) (bo : ∀ d ∈ l.dl, BindOk d) :
    ∃ fD, Text (l.gam K w mg fD) l.tab l.ds := by
  classical
  have cd : He.SaysD l.fa l.fn K := c.t.d
  unfold LawT.okB at ok
  simp only [Bool.and_eq_true, List.all_eq_true, decide_eq_true_eq] at ok
  obtain ⟨⟨okd, okx⟩, ok0⟩ := ok
  have fdE : ∀ (f : Nat) (d : Df), atO l.ds f = some d → ∃ fd, FunD K d.d.name d.d.qual d.d.params d.d.body d.d.scope [] [] (He.fAd K d.d.at_) fd := fun f d hd => by
    have hm : d ∈ l.dl := l.mem_dl hd
    obtain ⟨fd, F⟩ := cd.defs (d := d.d) (List.mem_map.mpr ⟨d, hm, rfl⟩)
    obtain ⟨⟨_, h2⟩, h3⟩ := okd d hm
    have e2 : d.d.dfl = [] := List.isEmpty_iff.mp h2
    have e3 : d.d.kwd = [] := List.isEmpty_iff.mp h3
    unfold He.DefD.dvs He.DefD.kws at F
    rw [e2, e3] at F
    exact ⟨fd, F⟩
  have exfd : ∃ fD : Nat → FuncData, ∀ (f : Nat) (d : Df), atO l.ds f = some d → FunD K d.d.name d.d.qual d.d.params d.d.body d.d.scope [] [] (He.fAd K d.d.at_) (fD f) := by
    refine ⟨fun f => if hf : ∃ d, atO l.ds f = some d then Classical.choose (fdE f _ (Classical.choose_spec hf)) else default, fun f d hd => ?_⟩
    have hf : ∃ d, atO l.ds f = some d := ⟨d, hd⟩
    dsimp only
    rw [dif_pos hf]
    have e1 : Classical.choose hf = d := by
      exact Option.some.inj ((Classical.choose_spec hf).symm.trans hd)
    have q := Classical.choose_spec (fdE f _ (Classical.choose_spec hf))
    simp only [e1] at q ⊢
    exact q
  obtain ⟨fD, hfD⟩ := exfd
  have fact : ∀ f, f ∈ l.fa → f.ok K = true := fun f hf => cd.facts hf
  have gA : ∀ (f : Nat) (d : Df), atO l.ds f = some d → (l.gam K w mg fD).fA f = He.fAd K d.d.at_ ∧ (l.gam K w mg fD).fP f = d.ps := fun f d hd => by
    unfold LawT.gam
    dsimp only
    rw [hd]
    exact ⟨rfl, rfl⟩
  have xA : ∀ (c : Nat) (x : Str), atO l.exs c = some x → (l.gam K w mg fD).xA c = He.ga K x := fun c x hx => by
    unfold LawT.gam
    dsimp only
    rw [hx]
    rfl
  have xN : ∀ (c : Nat), atO l.exs c = none → (l.gam K w mg fD).xA c = He.ga K "WeekError" := fun c hx => by
    unfold LawT.gam
    dsimp only
    rw [hx]
    rfl
  have x0 : atO l.exs 0 = some "WeekError" := by unfold atO; rw [ok0]; rfl
  have tf : ∀ (f : Nat) (p : Option Str × List Str), l.tab.fns f = some p → ∃ d, atO l.ds f = some d ∧ p = (gn d, d.ps) := fun f p hp => by
    unfold LawT.tab at hp
    dsimp only at hp
    rw [Option.map_eq_some_iff] at hp
    obtain ⟨d, h1, h2⟩ := hp
    exact ⟨d, h1, h2.symm⟩
  have pairs : ∀ (c h : Nat) (x y : Str), atO l.exs c = some x → atO l.exs h = some y → (He.Fa.exm x y (subX c h)).ok K = true := fun c h x y hx hy => by
    refine fact _ (List.mem_append_right _ (List.mem_append_right _ (List.mem_append_right _ (List.mem_append_right _ ?_))))
    exact List.mem_flatMap.mpr ⟨(x, c), l.mem_exl hx, List.mem_map.mpr ⟨(y, h), l.mem_exl hy, rfl⟩⟩
  refine ⟨fD, ⟨⟨fun f x ps hf => ?_, fun x hx => ?_, fun c x hx => ?_, fun c hc => ?_, fun c h y hh => ?_, fun p hp => ?_⟩, fun f hf => ?_⟩⟩
  · obtain ⟨d, hd, e⟩ := tf f _ hf
    cases e
    obtain ⟨e1, e2⟩ := gA f d hd
    have F := hfD f d hd
    refine ⟨e2, fun z hz => ?_, by rw [e1]; exact F.kp, by rw [e2]; exact F.bindsN (bo d (l.mem_dl hd))⟩
    have m := fact (.glo z) (List.mem_append_left _ (List.mem_map.mpr ⟨z, List.mem_filterMap.mpr ⟨d, l.mem_dl hd, hz⟩, rfl⟩))
    have q := He.glo_ok X Gn m
    rw [e1]
    have e3 : He.fAd K d.d.at_ = He.ga K z := by
      unfold gn at hz
      split at hz
      · rename_i e
        cases hz
        unfold He.fAd
        rw [e]
      · cases hz
    rw [e3]
    exact q
  · exact He.free_ok X Gn (fact (.free x) (List.mem_append_right _ (List.mem_append_left _ (List.mem_map.mpr ⟨x, hx, rfl⟩))))
  · rw [xA c x hx]
    exact He.glo_ok X Gn (fact (.glo x) (List.mem_append_right _ (List.mem_append_right _ (List.mem_append_left _ (List.mem_map.mpr ⟨(x, c), l.mem_exl hx, rfl⟩)))))
  · obtain ⟨x, hx⟩ := Option.isSome_iff_exists.mp (okx c hc)
    rw [xA c _ hx]
    obtain ⟨q1, q2, q3, q4⟩ := He.exc_ok (fact (.exc x) (List.mem_append_right _ (List.mem_append_right _ (List.mem_append_right _ (List.mem_append_left _ (List.mem_map.mpr ⟨_, List.mem_filterMap.mpr ⟨c, hc, hx⟩, rfl⟩))))))
    refine ⟨q2, fun Y hY => raises_own (by rw [hY]; exact q3) (by rw [hY]; exact q4), _, _, _, _, PySem.F.excBase_ValueError, q1⟩
  · have hy : atO l.exs h = some y := hh
    rw [xA h y hy]
    cases e : atO l.exs c with
    | some x =>
      rw [xA c x e]
      exact He.exm_ok (pairs c h x y e hy)
    | none =>
      have hne : c ≠ h := fun z => by rw [z, hy] at e; cases e
      rw [xN c e, subX_absent hne]
      exact He.exm_ok (pairs 0 h _ y x0 hy)
  · exact glbB_ok X Gn (List.all_eq_true.mp (show (l.glb.all fun p => glbB K p.2) = true from c.more) p hp) _ rfl
  · obtain ⟨p, hp⟩ := Option.isSome_iff_exists.mp hf
    obtain ⟨d, hd, e⟩ := tf f p hp
    obtain ⟨e1, e2⟩ := gA f d hd
    refine ⟨d, atO_some hd, (okd d (l.mem_dl hd)).1.1, e2, ?_⟩
    rw [e1]
    exact hfD f d hd
end Ws
end
end

section
set_option Elab.async false
set_option linter.all false
set_option maxRecDepth 100000
set_option maxHeartbeats 4000000
/-! WsP: running the small syntax in plain Lean. -/
noncomputable section
namespace Ws
open PySem
/-! ### garbage -/
theorem GcOk.refl (st : AS) : GcOk st st := fun _ _ => .inl rfl
theorem gcR_same (st : AS) (d : D) : gcR st (.ok d st) = .ok d st := by
  unfold gcR
  dsimp only
  rw [if_pos (GcOk.refl st)]
  split
  · rw [List.take_length]
  · cases d with
    | ref r =>
      dsimp only
      split
      · rename_i h
        rw [List.getElem?_eq_none h]
      · rfl
    | _ => rfl
theorem gcR_exn (st : AS) (c : Nat) (p : D) : gcR st (.exn c p st) = .exn c p st := by
  unfold gcR
  dsimp only
  rw [if_pos (GcOk.refl st)]
  split
  · rw [List.take_length]
  · rfl
/-- what was made behind the old objects is forgotten -/
theorem gcR_cut {st st' : AS} {d : D} (g : GcOk st st') (h : d.refless = true) : gcR st (.ok d st') = .ok d (st'.take st.length) := by
  unfold gcR
  dsimp only
  rw [if_pos g, if_pos h]
theorem gcR_cutX {st st' : AS} {c : Nat} {p : D} (g : GcOk st st') (h : p.refless = true) : gcR st (.exn c p st') = .exn c p (st'.take st.length) := by
  unfold gcR
  dsimp only
  rw [if_pos g, if_pos h]
theorem GcOk.app (st gs : AS) : GcOk st (st ++ gs) := fun i hi => .inl (List.getElem?_append_left hi)
theorem gcR_app (st gs : AS) {d : D} (h : d.refless = true) : gcR st (.ok d (st ++ gs)) = .ok d st := by
  rw [gcR_cut (GcOk.app st gs) h]; simp
theorem gcR_appX (st gs : AS) {c : Nat} {p : D} (h : p.refless = true) : gcR st (.exn c p (st ++ gs)) = .exn c p st := by
  rw [gcR_cutX (GcOk.app st gs) h]; simp
/-- a flat new list is handed out -/
@[simp] theorem refless_non : D.non.refless = true := rfl
@[simp] theorem refless_bl (b : Bool) : (D.bl b).refless = true := rfl
@[simp] theorem refless_int (b : Int) : (D.int b).refless = true := rfl
@[simp] theorem refless_str (b : Str) : (D.str b).refless = true := rfl
@[simp] theorem refless_tup (b : List D) : (D.tup b).refless = reflessAll b := rfl
@[simp] theorem refless_nil : reflessAll [] = true := rfl
@[simp] theorem refless_cons (d : D) (b : List D) : reflessAll (d :: b) = (d.refless && reflessAll b) := rfl
theorem reflessAll_iff : ∀ {b : List D}, reflessAll b = true ↔ ∀ d ∈ b, d.refless = true
  | [] => by simp
  | d :: b => by simp [reflessAll_iff (b := b)]
theorem gcR_lst {st st' : AS} {r : Nat} {xs : List D} (g : GcOk st st') (hr : st.length ≤ r) (h : st'[r]? = some (.lst xs)) (hf : reflessAll xs = true) : gcR st (.ok (.ref r) st') = .ok (.ref st.length) (st'.take st.length ++ [.lst xs]) := by
  unfold gcR
  dsimp only
  rw [if_pos g, if_neg (by simp [D.refless]), if_pos hr, h]
  dsimp only
  rw [if_pos (show O.flat (.lst xs) = true from hf)]
theorem gcR_lstA (st gs : AS) {r : Nat} {xs : List D} (hr : st.length ≤ r) (h : (st ++ gs)[r]? = some (.lst xs)) (hf : reflessAll xs = true) : gcR st (.ok (.ref r) (st ++ gs)) = .ok (.ref st.length) (st ++ [.lst xs]) := by
  rw [gcR_lst (GcOk.app st gs) hr h hf]; simp
theorem callF_eq {P : Nat → Option FDef} {f : Nat} {fd : FDef} (h : P f = some fd) (n : Nat) (ds : List D) (hl : ds.length = fd.np) (st : AS) : callF P (n + 1) f ds st = gcR st (exSs (callF P n) fd.body (startE fd.ns ds) st).res := by
  unfold callF
  rw [h]
  dsimp only
  rw [if_pos hl]
/-! ### small steps -/
theorem boolsD_map {α : Type} (f : α → Bool) : ∀ xs : List α, boolsD (xs.map fun x => D.bl (f x)) = some (xs.map f)
  | [] => rfl
  | x :: xs => by
    simp only [List.map_cons, boolsD, boolsD_map f xs, Option.map_some]
theorem intsD_map {α : Type} (f : α → Int) : ∀ xs : List α, intsD (xs.map fun x => D.int (f x)) = some (xs.map f)
  | [] => rfl
  | x :: xs => by
    simp only [List.map_cons, intsD, intsD_map f xs, Option.map_some]

@[simp] theorem ofB_some (st : AS) (b : Bool) : ofB st (some b) = .ok (.bl b) st := rfl
@[simp] theorem ofBT_some (st : AS) (b : Bool) : ofBT st (some b) = .ok b st := rfl
@[simp] theorem ofD_some (st : AS) (d : D) : ofD st (some d) = .ok d st := rfl
@[simp] theorem boolR_bl (b : Bool) (st : AS) : boolR (.ok (.bl b) st) = .ok b st := rfl
@[simp] theorem boolR_exn (c : Nat) (p : D) (st : AS) : boolR (.exn c p st) = .exn c p st := rfl
@[simp] theorem truR_bl (b : Bool) (st : AS) : truR (.ok (.bl b) st) = .ok b st := rfl
@[simp] theorem truR_exn (c : Nat) (p : D) (st : AS) : truR (.exn c p st) = .exn c p st := rfl
theorem truR_ok {d : D} {st : AS} {b : Bool} (h : truD st d = some b) : truR (.ok d st) = .ok b st := by
  unfold truR
  simp only [bind_ok, h]
@[simp] theorem res_next (env : Env) (st : AS) : (RS.next env st).res = .ok .non st := rfl
@[simp] theorem res_ret (d : D) (st : AS) : (RS.ret d st).res = .ok d st := rfl
@[simp] theorem res_exn (c : Nat) (p : D) (env : Env) (st : AS) : (RS.exn c p env st).res = .exn c p st := rfl
@[simp] theorem chR_some {α : Type} (b : Bool) (x y : Res α) : chR (some b) x y = if b = true then x else y := by
  cases b <;> rfl
@[simp] theorem isi_non (st : AS) (t : String) : isiD st t .non = some (t == "NoneType") := rfl
@[simp] theorem isi_bl (st : AS) (t : String) (b : Bool) : isiD st t (.bl b) = some (t == "bool" || t == "int") := rfl
@[simp] theorem isi_int (st : AS) (t : String) (b : Int) : isiD st t (.int b) = some (t == "int") := rfl
@[simp] theorem isi_str (st : AS) (t : String) (b : Str) : isiD st t (.str b) = some (t == "str") := rfl
@[simp] theorem isi_tup (st : AS) (t : String) (b : List D) : isiD st t (.tup b) = some (t == "tuple") := rfl
@[simp] theorem eq_ii (st : AS) (i j : Int) : eqD st (.int i) (.int j) = some (i == j) := rfl
@[simp] theorem eq_ss (st : AS) (i j : Str) : eqD st (.str i) (.str j) = some (i == j) := rfl
@[simp] theorem eq_bb (st : AS) (i j : Bool) : eqD st (.bl i) (.bl j) = some (i == j) := rfl
@[simp] theorem eq_nn (st : AS) : eqD st .non .non = some true := rfl
@[simp] theorem eq_is (st : AS) (i : Int) (j : Str) : eqD st (.int i) (.str j) = some false := rfl
@[simp] theorem eq_si (st : AS) (i : Str) (j : Int) : eqD st (.str i) (.int j) = some false := rfl
@[simp] theorem eq_ni (st : AS) (j : Int) : eqD st .non (.int j) = some false := rfl
@[simp] theorem eq_in (st : AS) (i : Int) : eqD st (.int i) .non = some false := rfl
@[simp] theorem eq_ns (st : AS) (j : Str) : eqD st .non (.str j) = some false := rfl
@[simp] theorem eq_sn (st : AS) (i : Str) : eqD st (.str i) .non = some false := rfl
@[simp] theorem lt_ii (i j : Int) (f : Int → Int → Bool) : cmpI f (.int i) (.int j) = some (f i j) := rfl
@[simp] theorem atI_0 {α : Type} (x : α) (xs : List α) : atI (x :: xs) 0 = some x := by
  unfold atI ixN
  simp only [Int.le_refl, if_true, List.length_cons]
  rw [if_pos (by omega)]
  rfl
@[simp] theorem atI_1 {α : Type} (x y : α) (xs : List α) : atI (x :: y :: xs) 1 = some y := by
  unfold atI ixN
  rw [if_pos (by omega), if_pos (by simp only [List.length_cons]; omega)]
  rfl
@[simp] theorem atI_2 {α : Type} (x y z : α) (xs : List α) : atI (x :: y :: z :: xs) 2 = some z := by
  unfold atI ixN
  rw [if_pos (by omega), if_pos (by simp only [List.length_cons]; omega)]
  rfl
@[simp] theorem atI_3 {α : Type} (x y z u : α) (xs : List α) : atI (x :: y :: z :: u :: xs) 3 = some u := by
  unfold atI ixN
  rw [if_pos (by omega), if_pos (by simp only [List.length_cons]; omega)]
  rfl
@[simp] theorem atI_4 {α : Type} (x y z u w : α) (xs : List α) : atI (x :: y :: z :: u :: w :: xs) 4 = some w := by
  unfold atI ixN
  rw [if_pos (by omega), if_pos (by simp only [List.length_cons]; omega)]
  rfl
theorem atI_nat {α : Type} {xs : List α} {i : Nat} (h : i < xs.length) : atI xs (i : Int) = some xs[i] := by
  unfold atI ixN
  rw [if_pos (by omega), if_pos (by omega)]
  simp [h]
theorem atI_last {α : Type} {xs : List α} (x : α) : atI (xs ++ [x]) (-1) = some x := by
  unfold atI ixN
  rw [if_neg (by omega), if_pos (by simp only [List.length_append, List.length_singleton]; omega)]
  have e : (-1 + ((xs ++ [x]).length : Int)).toNat = xs.length := by simp only [List.length_append, List.length_singleton]; omega
  simp only [Option.bind_some, e]
  simp
@[simp] theorem ixD_tup (st : AS) (xs : List D) (i : Int) : ixD st (.tup xs) (.int i) = atI xs i := rfl
theorem ixD_lst {st : AS} {l : Nat} {xs : List D} (h : st[l]? = some (.lst xs)) (i : Int) : ixD st (.ref l) (.int i) = atI xs i := by
  unfold ixD
  simp only [h]
@[simp] theorem len_tup (st : AS) (xs : List D) : biD st .len [.tup xs] = .ok (.int xs.length) st := rfl
theorem len_lst {st : AS} {l : Nat} {xs : List D} (h : st[l]? = some (.lst xs)) : biD st .len [.ref l] = .ok (.int xs.length) st := by
  unfold biD
  simp only [h]
theorem all_lst {st : AS} {l : Nat} {xs : List D} {bs : List Bool} (h : st[l]? = some (.lst xs)) (hb : boolsD xs = some bs) : biD st .all [.ref l] = .ok (.bl (bs.all id)) st := by
  unfold biD
  simp only [h, hb]
theorem all_map {st : AS} {l : Nat} {α : Type} {f : α → Bool} {xs : List α} (h : st[l]? = some (.lst (xs.map fun x => D.bl (f x)))) : biD st .all [.ref l] = .ok (.bl (xs.all f)) st := by
  rw [all_lst h (boolsD_map f xs)]
  simp
theorem any_map {st : AS} {l : Nat} {α : Type} {f : α → Bool} {xs : List α} (h : st[l]? = some (.lst (xs.map fun x => D.bl (f x)))) : biD st .any [.ref l] = .ok (.bl (xs.any f)) st := by
  have e : biD st .any [.ref l] = .ok (.bl ((xs.map f).any id)) st := by
    unfold biD
    simp only [h, boolsD_map f xs]
  rw [e]
  simp
theorem any_lst {st : AS} {l : Nat} {xs : List D} {bs : List Bool} (h : st[l]? = some (.lst xs)) (hb : boolsD xs = some bs) : biD st .any [.ref l] = .ok (.bl (bs.any id)) st := by
  unfold biD
  simp only [h, hb]
theorem tuple_lst {st : AS} {l : Nat} {xs : List D} (h : st[l]? = some (.lst xs)) : biD st .tuple [.ref l] = .ok (.tup xs) st := by
  unfold biD
  simp only [h]
@[simp] theorem int_int (st : AS) (i : Int) : biD st .int [.int i] = .ok (.int i) st := rfl
theorem set_lst {st : AS} {l : Nat} {xs : List D} {bs : List Int} (h : st[l]? = some (.lst xs)) (hb : intsD xs = some bs) (hz : bs.length ≤ 1000) : biD st .set [.ref l] = .ok (.ref st.length) (st ++ [.iset bs]) := by
  unfold biD
  simp only [h, hb, hz, if_true]
theorem sorted_set {st : AS} {l : Nat} {xs : List Int} (h : st[l]? = some (.iset xs)) (hz : xs.length < 64) : biD st .sorted [.ref l] = newL st ((sortS (dedS xs)).map .int) := by
  unfold biD
  simp only [h, hz, if_true]
theorem sorted_lst {st : AS} {l : Nat} {xs : List D} {bs : List Int} (h : st[l]? = some (.lst xs)) (hb : intsD xs = some bs) : biD st .sorted [.ref l] = newL st ((sortS bs).map .int) := by
  unfold biD
  simp only [h, hb]
theorem min_lst {st : AS} {l : Nat} {xs : List D} {a : Int} {bs : List Int} (h : st[l]? = some (.lst xs)) (hb : intsD xs = some (a :: bs)) : biD st .min [.ref l] = .ok (.int (minL a bs)) st := by
  unfold biD
  simp only [h, hb]
theorem list_of {st : AS} {d : D} {xs : List D} (h : listD st d = some xs) : biD st .list [d] = newL st xs := by
  unfold biD
  simp only [h]
@[simp] theorem items_tup (st : AS) (xs : List D) : itemsD st (.tup xs) = some xs := rfl
theorem items_lst {st : AS} {l : Nat} {xs : List D} (h : st[l]? = some (.lst xs)) : itemsD st (.ref l) = some xs := by
  unfold itemsD
  simp only [h]
@[simp] theorem sl_tup (st : AS) (xs : List D) (lo hi : Option Int) : slD st (.tup xs) lo hi = .ok (.tup (cutD xs lo hi)) st := rfl
theorem tru_lst {st : AS} {l : Nat} {xs : List D} (h : st[l]? = some (.lst xs)) : truD st (.ref l) = some (!xs.isEmpty) := by
  unfold truD
  simp only [h]
@[simp] theorem tru_tup (st : AS) (xs : List D) : truD st (.tup xs) = some (!xs.isEmpty) := rfl
theorem set_ix {st : AS} {l : Nat} {xs : List D} {i : Int} {j : Nat} (h : st[l]? = some (.lst xs)) (hj : ixN xs.length i = some j) (v : D) (env : Env) : setD v (.ref l) (.int i) env st = .next env (st.set l (.lst (xs.set j v))) := by
  unfold setD
  simp only [h, hj]
theorem sized_ok {xs : List D} {w : Option (Nat × List D)} {st : AS} (h : xs.length ≤ szMax) : sized xs w st = .ok (xs, w) st := by
  unfold sized
  rw [if_pos h]
@[simp] theorem asg_name (i : Nat) (d : D) (env : Env) : assign (.name i) d env = some (env.set i (some d)) := rfl
@[simp] theorem asg_tup (ts : Tgs) (ds : List D) (env : Env) : assign (.tup ts) (.tup ds) env = assigns ts ds env := rfl
@[simp] theorem asgs_nil (env : Env) : assigns .nil [] env = some env := rfl
@[simp] theorem asgs_cons (t : Tg) (r : Tgs) (d : D) (ds : List D) (env : Env) : assigns (.cons t r) (d :: ds) env = (assign t d env).bind fun e => assigns r ds e := by
  show (match assign t d env with | some env' => assigns r ds env' | none => none) = _
  cases assign t d env <;> rfl
@[simp] theorem bin_add (st : AS) (i j : Int) : binD .add (.int i) (.int j) st = .ok (.int (i + j)) st := rfl
@[simp] theorem bin_sub (st : AS) (i j : Int) : binD .sub (.int i) (.int j) st = .ok (.int (i - j)) st := rfl
@[simp] theorem bin_mul {i j : Int} (h : -18446744073709551616 < j ∧ j < 18446744073709551616) (st : AS) : binD .mul (.int i) (.int j) st = .ok (.int (i * j)) st := by
  unfold binD
  dsimp only
  rw [if_pos (.inr h)]
@[simp] theorem bin_div {i j : Int} (h : 0 < j ∧ j < 1073741824) (st : AS) : binD .fdiv (.int i) (.int j) st = .ok (.int (i / j)) st := by
  unfold binD
  dsimp only
  rw [if_pos h]
@[simp] theorem bin_mod {i j : Int} (h : 0 < j) (st : AS) : binD .mod (.int i) (.int j) st = .ok (.int (i % j)) st := by
  unfold binD
  dsimp only
  rw [if_pos h]
@[simp] theorem bin_pow {i j : Int} (h : 0 ≤ j ∧ j ≤ 1000000 ∧ i.natAbs < 18446744073709551616) (st : AS) : binD .pow (.int i) (.int j) st = .ok (.int (i ^ j.toNat)) st := by
  unfold binD
  dsimp only
  rw [if_pos h]
@[simp] theorem aug_add (st : AS) (i j : Int) : augD .add (.int i) (.int j) st = .ok (.int (i + j)) st := rfl
theorem bin_lst {st : AS} {a b : Nat} {xs ys : List D} (h : st[a]? = some (.lst xs)) (h2 : st[b]? = some (.lst ys)) (hz : xs.length + ys.length ≤ szMax) : binD .add (.ref a) (.ref b) st = newL st (xs ++ ys) := by
  unfold binD
  simp only [h, h2, hz, if_true]
@[simp] theorem rangeD_len (a : Int) (n : Nat) : (rangeD a n).length = n := by unfold rangeD; rw [List.length_map, List.length_range]
theorem small_ok {i : Int} (h : -1000000000000000 ≤ i) (h2 : i ≤ 1000000000000000) : small i = true := by
  unfold small
  exact @decide_eq_true _ (Classical.propDecidable _) ⟨by omega, by omega⟩
theorem sized_rng {a : Int} {n : Nat} {w : Option (Nat × List D)} {st : AS} (h : n ≤ 16777216) : sized (rangeD a n) w st = .ok (rangeD a n, w) st := sized_ok (by rw [rangeD_len]; exact h)
/-- its type is told -/
def tyB (st : AS) : D → Bool
  | .ref l => match st[l]? with
    | some (.lst _) => true
    | some (.dic _ _) => true
    | _ => false
  | .clo _ _ => false
  | .kls _ => false
  | _ => true
theorem isi_ref {st : AS} {l : Nat} {t : String} (h : tyB st (.ref l) = true) (h1 : (t == "list") = false) (h2 : (t == "dict") = false) : isiD st t (.ref l) = some false := by
  unfold tyB at h
  unfold isiD
  dsimp only at h ⊢
  split at h
  · rename_i e; (try rw [e]); simp [h1]
  · rename_i e; (try rw [e]); simp [h2]
  · cases h
@[simp] theorem if_ret (c : Prop) [Decidable c] (a b : D) (st : AS) : (if c then RS.ret a st else RS.ret b st) = RS.ret (if c then a else b) st := by split <;> rfl
@[simp] theorem if_okB (c b1 b2 : Bool) (st : AS) : (if c = true then Res.ok (D.bl b1) st else Res.ok (D.bl b2) st) = Res.ok (D.bl (if c = true then b1 else b2)) st := by cases c <;> rfl
@[simp] theorem if_okT (c b1 b2 : Bool) (st : AS) : (if c = true then Res.ok b1 st else Res.ok b2 st) = Res.ok (if c = true then b1 else b2) st := by cases c <;> rfl
/-! ### comprehensions -/
theorem watchOk_none (st : AS) : watchOk none st := trivial
theorem lcLoop_pure {w : Option (Nat × List D)} {asg : D → Option Env} {tst : Env → AS → Res Bool} {elt : Env → AS → Res D} {st : AS} (hw : watchOk w st) (en : D → Env) (t : D → Bool) (e : D → D) : ∀ (xs : List D),
    (∀ x ∈ xs, asg x = some (en x) ∧ tst (en x) st = .ok (t x) st ∧ (t x = true → elt (en x) st = .ok (e x) st)) → lcLoop w asg tst elt xs st = .ok ((xs.filter t).map e) st
  | [], _ => by unfold lcLoop; rw [if_pos hw]; rfl
  | x :: xs, h => by
    obtain ⟨h1, h2, h3⟩ := h x List.mem_cons_self
    unfold lcLoop
    rw [if_pos hw, h1]
    dsimp only
    rw [h2]
    simp only [noX_ok, bind_ok]
    have ih := lcLoop_pure (tst := tst) (elt := elt) hw en t e xs fun y hy => h y (List.mem_cons_of_mem _ hy)
    cases ht : t x with
    | true =>
      rw [if_pos rfl, h3 ht]
      simp only [noX_ok, bind_ok]
      rw [ih]
      simp [List.filter_cons, ht]
    | false =>
      rw [if_neg Bool.false_ne_true, ih]
      simp [List.filter_cons, ht]
theorem lcLoop_map {w : Option (Nat × List D)} {asg : D → Option Env} {elt : Env → AS → Res D} {st : AS} (hw : watchOk w st) (en : D → Env) (e : D → D) (xs : List D)
    (h : ∀ x ∈ xs, asg x = some (en x) ∧ elt (en x) st = .ok (e x) st) : lcLoop w asg (fun _ st => .ok true st) elt xs st = .ok (xs.map e) st := by
  rw [lcLoop_pure hw en (fun _ => true) e xs fun x hx => ⟨(h x hx).1, rfl, fun _ => (h x hx).2⟩, List.filter_eq_self.mpr fun _ _ => rfl]
theorem lcLoop_rangeF {w : Option (Nat × List D)} {asg : D → Option Env} {tst : Env → AS → Res Bool} {elt : Env → AS → Res D} {st : AS} (hw : watchOk w st) (en : Nat → Env) (t : Nat → Bool) (e : Nat → D) (a : Int) (n : Nat)
    (h : ∀ i, i < n → asg (.int (a + (i : Nat))) = some (en i) ∧ tst (en i) st = .ok (t i) st ∧ (t i = true → elt (en i) st = .ok (e i) st)) : lcLoop w asg tst elt (rangeD a n) st = .ok (((List.range n).filter t).map e) st := by
  have key : ∀ i : Nat, (a + (i : Int) - a).toNat = i := fun i => by omega
  rw [lcLoop_pure hw (fun d => match d with
    | .int j => en (j - a).toNat
    | _ => []) (fun d => match d with
    | .int j => t (j - a).toNat
    | _ => false) (fun d => match d with
    | .int j => e (j - a).toNat
    | _ => .non) (rangeD a n) fun x hx => ?_]
  · unfold rangeD
    rw [List.filter_map, List.map_map]
    congr 1
    have e1 : ((fun d => match d with
      | .int j => e (j - a).toNat
      | _ => D.non) ∘ fun i : Nat => D.int (a + (i : Int))) = e := by
      funext i
      show e _ = _
      rw [key]
    have e2 : ((fun d => match d with
      | .int j => t (j - a).toNat
      | _ => false) ∘ fun i : Nat => D.int (a + (i : Int))) = t := by
      funext i
      show t _ = _
      rw [key]
    rw [e1, e2]
  · unfold rangeD at hx
    obtain ⟨i, hi, rfl⟩ := List.mem_map.mp hx
    have hi' : i < n := List.mem_range.mp hi
    dsimp only
    rw [key]
    exact h i hi'
theorem lcLoop_range {w : Option (Nat × List D)} {asg : D → Option Env} {elt : Env → AS → Res D} {st : AS} (hw : watchOk w st) (en : Nat → Env) (e : Nat → D) (a : Int) (n : Nat)
    (h : ∀ i, i < n → asg (.int (a + (i : Nat))) = some (en i) ∧ elt (en i) st = .ok (e i) st) : lcLoop w asg (fun _ st => .ok true st) elt (rangeD a n) st = .ok ((List.range n).map e) st := by
  rw [lcLoop_rangeF hw en (fun _ => true) e a n fun i hi => ⟨(h i hi).1, rfl, fun _ => (h i hi).2⟩, List.filter_eq_self.mpr fun _ _ => rfl]
theorem cutD_from1 (xs : List D) : cutD xs (some 1) none = xs.drop 1 := by
  unfold cutD sIx
  dsimp only
  rw [if_neg (by omega)]
  have e : (1 : Int).toNat = 1 := rfl
  rw [e]
  cases xs with
  | nil => rfl
  | cons x r =>
    have e2 : min 1 (x :: r).length = 1 := by simp only [List.length_cons]; omega
    rw [e2]
    simp
def All2 {α β : Type} (R : α → β → Prop) : List α → List β → Prop
  | [], [] => True
  | a :: r, b :: s => R a b ∧ All2 R r s
  | _, _ => False
/-- each item's state goes on -/
theorem lcLoop_inv {w : Option (Nat × List D)} {asg : D → Option Env} {elt : Env → AS → Res D} (Iv : AS → Prop) (Pv : D → D → Prop) (hw : ∀ st, Iv st → watchOk w st) (en : D → Env) : ∀ (xs : List D) (st : AS), Iv st →
    (∀ x ∈ xs, asg x = some (en x) ∧ ∀ st, Iv st → ∃ d st', elt (en x) st = .ok d st' ∧ Iv st' ∧ Pv x d) → ∃ ds st', lcLoop w asg (fun env st => .ok true st) elt xs st = .ok ds st' ∧ Iv st' ∧ ds.length = xs.length ∧ All2 Pv xs ds
  | [], st, hi, _ => ⟨[], st, by unfold lcLoop; rw [if_pos (hw st hi)], hi, rfl, trivial⟩
  | x :: xs, st, hi, h => by
    obtain ⟨h1, h2⟩ := h x List.mem_cons_self
    obtain ⟨d, st1, e1, i1, p1⟩ := h2 st hi
    obtain ⟨ds, st2, e2, i2, l2, f2⟩ := lcLoop_inv (elt := elt) Iv Pv hw en xs st1 i1 fun y hy => h y (List.mem_cons_of_mem _ hy)
    refine ⟨d :: ds, st2, ?_, i2, by simp [l2], ⟨p1, f2⟩⟩
    unfold lcLoop
    rw [if_pos (hw st hi), h1]
    simp only [noX_ok, bind_ok, if_true]
    rw [e1]
    simp only [noX_ok, bind_ok]
    rw [e2]
    rfl
theorem getLast_app {α : Type} (st : List α) (o : α) : (st ++ [o])[st.length]? = some o := by simp
/-! ### for -/
/-- the loop ends or returns; J i env: ahead of turn i -/
theorem forL_inv {w : Option (Nat × List D)} {asg : D → Env → Option Env} {tmp : List Nat} {body : Env → AS → RS} (all : List D) (J : Nat → Env → AS → Prop) (Q : RS → Prop) (hw : ∀ i env st, J i env st → watchOk w st)
    (hd : ∀ env st, J all.length env st → Q (.next (wipeE env tmp) st))
    (hs : ∀ i x env st, all[i]? = some x → J i env st → ∃ env1, asg x (wipeE env tmp) = some env1 ∧ match body env1 st with
      | .next e s => J (i + 1) e s
      | .cont e s => J (i + 1) e s
      | .brk e s => Q (.next (wipeE e tmp) s)
      | r => Q r) : ∀ (k i : Nat) (xs : List D), xs.length = k → i + k = all.length → xs = all.drop i → ∀ env st, J i env st → Q (forL w asg tmp body xs env st)
  | 0, i, xs, h1, h2, h3, env, st, hj => by
    have e : xs = [] := List.length_eq_zero_iff.mp h1
    subst e
    unfold forL
    rw [if_pos (hw i env st hj)]
    have : i = all.length := by omega
    subst this
    exact hd env st hj
  | k + 1, i, xs, h1, h2, h3, env, st, hj => by
    cases xs with
    | nil => simp at h1
    | cons x xs =>
      have hx : all[i]? = some x := by
        have := congrArg (·[0]?) h3
        simp only [List.getElem?_cons_zero, List.getElem?_drop, Nat.add_zero] at this
        exact this.symm
      have hr : xs = all.drop (i + 1) := by
        have := congrArg List.tail h3
        simpa using this
      obtain ⟨env1, ha, hb⟩ := hs i x env st hx hj
      unfold forL
      rw [if_pos (hw i env st hj), ha]
      dsimp only
      cases hbr : body env1 st with
      | next e s => rw [hbr] at hb; exact forL_inv all J Q hw hd hs k (i + 1) xs (by simpa using h1) (by omega) hr e s hb
      | cont e s => rw [hbr] at hb; exact forL_inv all J Q hw hd hs k (i + 1) xs (by simpa using h1) (by omega) hr e s hb
      | brk e s => rw [hbr] at hb; exact hb
      | ret d s => rw [hbr] at hb; exact hb
      | exn c p e s => rw [hbr] at hb; exact hb
      | bad => rw [hbr] at hb; exact hb
theorem for_run {w : Option (Nat × List D)} {asg : D → Env → Option Env} {tmp : List Nat} {body : Env → AS → RS} (all : List D) (J : Nat → Env → AS → Prop) (Q : RS → Prop) (hw : ∀ i env st, J i env st → watchOk w st)
    (hd : ∀ env st, J all.length env st → Q (.next (wipeE env tmp) st))
    (hs : ∀ i x env st, all[i]? = some x → J i env st → ∃ env1, asg x (wipeE env tmp) = some env1 ∧ match body env1 st with
      | .next e s => J (i + 1) e s
      | .cont e s => J (i + 1) e s
      | .brk e s => Q (.next (wipeE e tmp) s)
      | r => Q r) (env : Env) (st : AS) (h0 : J 0 env st) : Q (forL w asg tmp body all env st) :=
  forL_inv all J Q hw hd hs all.length 0 all rfl (by simp) (by simp) env st h0
end Ws
end
end

section
set_option Elab.async false
set_option linter.all false
set_option maxRecDepth 100000
set_option maxHeartbeats 1000000
/-! WsQ: the laws' draws. -/
noncomputable section
namespace Ws
open PySem
/-- all but place l is as it was -/
structure But (l : Nat) (st st' : AS) : Prop where
  len : st'.length = st.length
  at_ : ∀ i, i ≠ l → st'[i]? = st[i]?
theorem But.refl (l : Nat) (st : AS) : But l st st := ⟨rfl, fun _ _ => rfl⟩
theorem But.trans {l : Nat} {a b c : AS} (x : But l a b) (y : But l b c) : But l a c := ⟨y.len.trans x.len, fun i hi => (y.at_ i hi).trans (x.at_ i hi)⟩
theorem But.set (l : Nat) (st : AS) (o : O) : But l st (st.set l o) := ⟨List.length_set .., fun i hi => List.getElem?_set_ne (Ne.symm hi)⟩
/-- the draws stand at l, the script's numbers at s -/
structure Dw (st : AS) (l s : Nat) (xs : List Int) : Prop where
  ne : s ≠ l
  src : st[s]? = some (.lst (xs.map D.int))
  at_ : ∃ a b c, st[l]? = some (.lst [.ref s, .int a, .int b, .int c]) ∧ 0 ≤ a
theorem Dw.lt {st : AS} {l s : Nat} {xs : List Int} (h : Dw st l s xs) : l < st.length := by
  obtain ⟨a, b, c, e, _⟩ := h.at_
  exact (List.getElem?_eq_some_iff.mp e).1
theorem Dw.lts {st : AS} {l s : Nat} {xs : List Int} (h : Dw st l s xs) : s < st.length := (List.getElem?_eq_some_iff.mp h.src).1
theorem Dw.app {st : AS} {l s : Nat} {xs : List Int} (h : Dw st l s xs) (gs : AS) : Dw (st ++ gs) l s xs := by
  obtain ⟨a, b, c, e, p⟩ := h.at_
  exact ⟨h.ne, by rw [List.getElem?_append_left h.lts]; exact h.src, a, b, c, by rw [List.getElem?_append_left h.lt]; exact e, p⟩
theorem Dw.set {st : AS} {l s : Nat} {xs : List Int} (h : Dw st l s xs) (a b c : Int) (p : 0 ≤ a) : Dw (st.set l (.lst [.ref s, .int a, .int b, .int c])) l s xs :=
  ⟨h.ne, by rw [List.getElem?_set_ne h.ne.symm]; exact h.src, a, b, c, by rw [List.getElem?_set_self h.lt], p⟩
def drawA : S := .ite (.cmp .eq (.ix (.var 0) (.lit (.int 2))) (.lit (.int 0)))
    (.cons (.ite (.cmp .lt (.ix (.var 0) (.lit (.int 1))) (.bi .len (.cons (.ix (.var 0) (.lit (.int 0))) .nil)))
      (.cons (.asg (.name 2) (.ix (.ix (.var 0) (.lit (.int 0))) (.ix (.var 0) (.lit (.int 1)))))
      (.cons (.setIx (.var 0) (.lit (.int 1)) (.bin .add (.ix (.var 0) (.lit (.int 1))) (.lit (.int 1))))
      (.cons (.ite (.cmp .ge (.var 2) (.bin .pow (.lit (.int 10)) (.lit (.int 18))))
        (.cons (.setIx (.var 0) (.lit (.int 2)) (.var 2)) .nil)
        (.cons (.setIx (.var 0) (.lit (.int 3)) (.bin .mod (.bi .int (.cons (.bin .add (.bin .add (.bin .mul (.ix (.var 0) (.lit (.int 3))) (.lit (.int 48271))) (.bin .mul (.var 2) (.lit (.int 69621)))) (.lit (.int 11))) .nil)) (.lit (.int 2147483647)))) .nil)) .nil)))
      (.cons (.setIx (.var 0) (.lit (.int 3)) (.bin .mod (.bi .int (.cons (.bin .add (.bin .mul (.ix (.var 0) (.lit (.int 3))) (.lit (.int 48271))) (.lit (.int 7))) .nil)) (.lit (.int 2147483647)))) .nil)) .nil)
    .nil
def drawB : Ss := .cons (.ite (.cmp .gt (.ix (.var 0) (.lit (.int 2))) (.lit (.int 0)))
    (.cons (.asg (.name 3) (.bin .mod (.bi .int (.cons (.ix (.var 0) (.lit (.int 2))) .nil)) (.var 1)))
    (.cons (.setIx (.var 0) (.lit (.int 2)) (.bin .fdiv (.ix (.var 0) (.lit (.int 2))) (.var 1)))
    (.cons (.ret (.var 3)) .nil)))
    .nil)
  (.cons (.ret (.bin .mod (.bin .mod (.bi .int (.cons (.bin .mul (.ix (.var 0) (.lit (.int 3))) (.lit (.int 16807))) .nil)) (.lit (.int 2147483629))) (.var 1))) .nil)
def drawF : FDef := ⟨2, 4, .cons drawA drawB⟩
theorem set4_1 {st : AS} {l : Nat} {s : D} {a b c : D} (h : st[l]? = some (.lst [s, a, b, c])) (v : D) (env : Env) : setD v (.ref l) (.int 1) env st = .next env (st.set l (.lst [s, v, b, c])) := set_ix h (j := 1) rfl v env
theorem set4_2 {st : AS} {l : Nat} {s : D} {a b c : D} (h : st[l]? = some (.lst [s, a, b, c])) (v : D) (env : Env) : setD v (.ref l) (.int 2) env st = .next env (st.set l (.lst [s, a, v, c])) := set_ix h (j := 2) rfl v env
theorem set4_3 {st : AS} {l : Nat} {s : D} {a b c : D} (h : st[l]? = some (.lst [s, a, b, c])) (v : D) (env : Env) : setD v (.ref l) (.int 3) env st = .next env (st.set l (.lst [s, a, b, v])) := set_ix h (j := 3) rfl v env
/-- the second half of a draw -/
theorem draw_end {cl : Call} {st : AS} {l s : Nat} {xs : List Int} (h : Dw st l s xs) (many : Int) (hm : 0 < many) (hm2 : many < 1073741824) (o2 o3 : Option D) :
    ∃ k st', (exSs cl drawB [some (.ref l), some (.int many), o2, o3] st) = .ret (.int k) st' ∧ 0 ≤ k ∧ k < many ∧ Dw st' l s xs ∧ But l st st' := by
  obtain ⟨a, b, c, e, p⟩ := h.at_
  by_cases hb : 0 < b
  · refine ⟨b % many, st.set l (.lst [.ref s, .int a, .int (b / many), .int c]), ?_, Int.emod_nonneg _ (by omega), Int.emod_lt_of_pos _ hm, h.set _ _ _ p, .set _ _ _⟩
    simp [drawB, ixD_lst e, hb, hm, hm2, set4_2 e]
  · refine ⟨(c * 16807) % 2147483629 % many, st, ?_, Int.emod_nonneg _ (by omega), Int.emod_lt_of_pos _ hm, h, .refl _ _⟩
    simp [drawB, ixD_lst e, hb, hm]
theorem GcOk.but {st st' : AS} {l : Nat} (h : But l st st') (o : O) (ho : st'[l]? = some o) (hl : o.lowB st.length = true) : GcOk st st' := fun i hi => by
  by_cases e : i = l
  · subst e; exact .inr ⟨o, ho, hl⟩
  · exact .inl (h.at_ i e)
theorem Dw.gc {st st' : AS} {l s : Nat} {xs : List Int} (h : Dw st' l s xs) (b : But l st st') : GcOk st st' := by
  obtain ⟨a, c, d, e, _⟩ := h.at_
  refine .but b _ e ?_
  show ((decide (s < st.length)) && _) = true
  rw [decide_eq_true (by rw [← b.len]; exact h.lts)]
  rfl
theorem draw_beg {cl : Call} {st : AS} {l s : Nat} {xs : List Int} (h : Dw st l s xs) (o1 : Option D) : ∃ st' o3, exS cl drawA [some (.ref l), o1, none, none] st = .next [some (.ref l), o1, o3, none] st' ∧ Dw st' l s xs ∧ But l st st' := by
  obtain ⟨a, b, c, e, p⟩ := h.at_
  by_cases hb : b = 0
  · subst hb
    by_cases ha : a < xs.length
    · obtain ⟨m, rfl⟩ := Int.eq_ofNat_of_zero_le p
      have hm' : m < xs.length := by omega
      have hc : atI (xs.map D.int) (m : Int) = some (D.int xs[m]) := by
        rw [atI_nat (by rw [List.length_map]; exact hm')]
        simp
      have d1 := h.set (m + 1) 0 c (by omega)
      have e1 : (st.set l (.lst [.ref s, .int (m + 1), .int 0, .int c]))[l]? = some (.lst [.ref s, .int (m + 1), .int 0, .int c]) := by rw [List.getElem?_set_self h.lt]
      by_cases hbig : (1000000000000000000 : Int) ≤ xs[m]
      · refine ⟨st.set l (.lst [.ref s, .int (m + 1), .int xs[m], .int c]), some (.int xs[m]), ?_, h.set _ _ _ (by omega), .set _ _ _⟩
        simp [drawA, ixD_lst e, len_lst h.src, hm', ixD_lst h.src, hc, set4_1 e, set4_2 e1, hbig]
      · refine ⟨st.set l (.lst [.ref s, .int (m + 1), .int 0, .int ((c * 48271 + xs[m] * 69621 + 11) % 2147483647)]), some (.int xs[m]), ?_, h.set _ _ _ (by omega), .set _ _ _⟩
        simp [drawA, ixD_lst e, len_lst h.src, hm', ixD_lst h.src, hc, set4_1 e, set4_3 e1, hbig, ixD_lst e1]
    · refine ⟨st.set l (.lst [.ref s, .int a, .int 0, .int ((c * 48271 + 7) % 2147483647)]), none, ?_, h.set _ _ _ p, .set _ _ _⟩
      simp [drawA, ixD_lst e, len_lst h.src, ha, set4_3 e]
  · refine ⟨st, none, ?_, h, .refl _ _⟩
    simp [drawA, ixD_lst e, hb]
/-- a drawn number -/
theorem draw_ok {P : Nat → Option FDef} {i : Nat} (hP : P i = some drawF) (n : Nat) {st : AS} {l s : Nat} {xs : List Int} (h : Dw st l s xs) (many : Int) (hm : 0 < many) (hm2 : many < 1073741824) :
    ∃ k st', callF P (n + 1) i [.ref l, .int many] st = .ok (.int k) st' ∧ 0 ≤ k ∧ k < many ∧ Dw st' l s xs ∧ But l st st' := by
  rw [callF_eq hP n _ rfl]
  obtain ⟨st1, o3, r1, d1, b1⟩ := draw_beg (cl := callF P n) h (some (.int many))
  obtain ⟨k, st2, r2, k1, k2, d2, b2⟩ := draw_end (cl := callF P n) d1 many hm hm2 o3 none
  refine ⟨k, st2, ?_, k1, k2, d2, b1.trans b2⟩
  have e : exSs (callF P n) drawF.body (startE drawF.ns [.ref l, .int many]) st = .ret (.int k) st2 := by
    show exSs (callF P n) (.cons drawA drawB) [some (.ref l), some (.int many), none, none] st = _
    rw [exSs, r1, seq_next, r2]
  rw [e, res_ret, gcR_cut (d2.gc (b1.trans b2)) rfl, ← (b1.trans b2).len, List.take_length]
/-- a list of drawn numbers -/
theorem draws_lc {P : Nat → Option FDef} {i : Nat} (hP : P i = some drawF) (n : Nat) {st0 st : AS} {l s : Nat} {xs : List Int} (many : Int) (hm : 0 < many) (hm2 : many < 1073741824) {w : Option (Nat × List D)} {asg : D → Option Env} {elt : Env → AS → Res D}
    (hw : ∀ st', But l st0 st' → watchOk w st') (en : D → Env) (g : D → D → D) : ∀ (items : List D) (st : AS), Dw st l s xs → But l st0 st →
    (∀ x ∈ items, asg x = some (en x) ∧ ∀ st', But l st0 st' → elt (en x) st' = (callF P (n + 1) i [.ref l, .int many] st').bind fun d st => .ok (g x d) st) →
    ∃ (ks : List Int) (st' : AS), lcLoop w asg (fun _ st => .ok true st) elt items st = .ok (List.zipWith g items (ks.map D.int)) st' ∧ ks.length = items.length ∧ (∀ k ∈ ks, 0 ≤ k ∧ k < many) ∧ Dw st' l s xs ∧ But l st0 st'
  | [], st, d, b, _ => ⟨[], st, by unfold lcLoop; rw [if_pos (hw st b)]; rfl, rfl, by simp, d, b⟩
  | x :: items, st, d, b, h => by
    obtain ⟨h1, h2⟩ := h x List.mem_cons_self
    obtain ⟨k, st1, r1, k1, k2, d1, b1⟩ := draw_ok hP n d many hm hm2
    obtain ⟨ks, st2, r2, l2, q2, d2, b2⟩ := draws_lc hP n (st0 := st0) (st := st) many hm hm2 hw en g items st1 d1 (b.trans b1) fun y hy => h y (List.mem_cons_of_mem _ hy)
    refine ⟨k :: ks, st2, ?_, by simp [l2], ?_, d2, b2⟩
    · unfold lcLoop
      rw [if_pos (hw st b), h1]
      dsimp only
      simp only [noX_ok, bind_ok, if_true]
      rw [h2 st b, r1]
      simp only [noX_ok, bind_ok]
      rw [r2]
      rfl
    · intro z hz
      rcases List.mem_cons.mp hz with rfl | hz
      · exact ⟨k1, k2⟩
      · exact q2 z hz
def beginF : FDef := ⟨1, 1,
  (.cons (.ret (.lst (.cons (.bi .list (.cons (.var 0) .nil)) (.cons (.lit (.int 0)) (.cons (.lit (.int 0)) (.cons (.lit (.int 7)) .nil)))))) .nil)⟩
theorem begin_ok {P : Nat → Option FDef} {i : Nat} (hP : P i = some beginF) (n : Nat) {st : AS} {d : D} {ns : List Int} (h : Scr st d ns) :
    ∃ st', callF P (n + 1) i [d] st = .ok (.ref (st.length + 1)) st' ∧ Dw st' (st.length + 1) st.length ns ∧ st'.length = st.length + 2 := by
  refine ⟨st ++ [.lst (ns.map .int)] ++ [.lst [.ref st.length, .int 0, .int 0, .int 7]], ?_, ⟨by omega, by simp, 0, 0, 7, by simp, by omega⟩, by simp⟩
  rw [callF_eq hP n _ rfl]
  have e : exSs (callF P n) beginF.body (startE beginF.ns [d]) st = .ret (.ref (st.length + 1)) (st ++ [.lst (ns.map .int)] ++ [.lst [.ref st.length, .int 0, .int 0, .int 7]]) := by
    simp [beginF, list_of h.1]
  rw [e, res_ret]
  unfold gcR
  dsimp only
  split
  · rw [if_neg (by simp [D.refless]), if_pos (by omega)]
    simp [O.flat, reflessAll, D.refless]
  · rfl
end Ws
end
end

section
set_option Elab.async false
set_option linter.all false
set_option maxRecDepth 100000
set_option maxHeartbeats 1000000
/-! WsR: drawn places, drawn plans. -/
noncomputable section
namespace Ws
open PySem
/-- the old objects but l are as they were -/
structure Old (l : Nat) (st st' : AS) : Prop where
  le : st.length ≤ st'.length
  at_ : ∀ i, i < st.length → i ≠ l → st'[i]? = st[i]?
theorem Old.refl (l : Nat) (st : AS) : Old l st st := ⟨Nat.le_refl _, fun _ _ _ => rfl⟩
theorem Old.trans {l : Nat} {a b c : AS} (x : Old l a b) (y : Old l b c) : Old l a c := ⟨Nat.le_trans x.le y.le, fun i h1 h2 => (y.at_ i (Nat.lt_of_lt_of_le h1 x.le) h2).trans (x.at_ i h1 h2)⟩
theorem But.old {l : Nat} {a b : AS} (x : But l a b) : Old l a b := ⟨Nat.le_of_eq x.len.symm, fun i _ h => x.at_ i h⟩
theorem Old.app (l : Nat) (st gs : AS) : Old l st (st ++ gs) := ⟨by simp, fun i h _ => List.getElem?_append_left h⟩
def placesE (iD dv kv : Nat) (own : List (Str × Nat)) (big cnt : Int) : E := .bi .sorted (.cons (.bi .set (.cons (.lc own (.call iD (.cons (.var dv) (.cons (.lit (.int big)) .nil))) (.name kv) (.rng1 (.call iD (.cons (.var dv) (.cons (.lit (.int cnt)) .nil)))) .no) .nil)) .nil)
theorem sortS_lt (ks : List Int) : (sortS (dedS ks)).Pairwise (· < ·) := by
  have h1 := sortS_pw (dedS ks)
  have h2 : (sortS (dedS ks)).Nodup := (sortS_perm _).nodup_iff.mpr (dedS_nodup ks)
  have h3 := h1.and h2
  exact h3.imp fun ⟨a, b⟩ => by omega
theorem sortS_mem (k : Int) (ks : List Int) : k ∈ sortS (dedS ks) ↔ k ∈ ks := by
  rw [(sortS_perm _).mem_iff]
  exact dedS_mem k ks
theorem sortS_len (ks : List Int) : (sortS (dedS ks)).length ≤ ks.length := by
  rw [(sortS_perm _).length_eq]
  exact dedS_len ks
theorem places_ok {P : Nat → Option FDef} {iD : Nat} (hP : P iD = some drawF) (n : Nat) {st : AS} {l s : Nat} {xs : List Int} (h : Dw st l s xs) {dv kv : Nat} {x : Str} {big cnt : Int} (hb : 0 < big) (hb2 : big < 1073741824) (hc : 0 < cnt) (hc2 : cnt ≤ 60)
    {env : Env} (he : env[dv]? = some (some (.ref l))) (hk : kv ≠ dv) :
    ∃ (r : Nat) (pl : List Int) (st' : AS), evE (callF P (n + 1)) (placesE iD dv kv [(x, kv)] big cnt) env st = .ok (.ref r) st' ∧ st'[r]? = some (.lst (pl.map D.int)) ∧ r ≠ l ∧ r < st'.length ∧ pl.Pairwise (· < ·) ∧ (∀ p ∈ pl, 0 ≤ p ∧ p < big) ∧ (pl.length : Int) < cnt ∧ Dw st' l s xs ∧ Old l st st' := by
  obtain ⟨k, st1, r1, k1, k2, d1, b1⟩ := draw_ok hP n h cnt hc (by omega)
  have hsm : small k = true := small_ok (by omega) (by omega)
  have hsz : sized (rangeD 0 k.toNat) none st1 = .ok (rangeD 0 k.toNat, none) st1 := sized_rng (by omega)
  obtain ⟨ks, st2, r2, l2, q2, d2, b2⟩ := draws_lc hP n (st0 := st1) (st := st1) (w := none) (asg := fun d => assign (.name kv) d (wipeE env [kv])) (elt := fun env st => evE (callF P (n + 1)) (.call iD (.cons (.var dv) (.cons (.lit (.int big)) .nil))) env st) big hb hb2 (fun st _ => watchOk_none st)
    (fun d => (env.set kv none).set kv (some d)) (fun _ d => d) (rangeD 0 k.toNat) st1 d1 (.refl _ _) fun y hy => ⟨rfl, fun st' _ => by
      have e2 : ((env.set kv none).set kv (some y))[dv]? = some (some (.ref l)) := by rw [List.getElem?_set_ne hk, List.getElem?_set_ne hk]; exact he
      simp only [evE, evEs, e2, bind_ok]
      generalize callF P (n + 1) iD [.ref l, .int big] st' = rr
      cases rr <;> rfl⟩
  have ez : List.zipWith (fun _ d => d) (rangeD 0 k.toNat) (ks.map D.int) = ks.map D.int := by
    have key : ∀ (a : List D) (b : List D), b.length = a.length → List.zipWith (fun _ d => d) a b = b := by
      intro a
      induction a with
      | nil => intro b hb; simp at hb; simp [hb]
      | cons u a ih => intro b hb; cases b with
        | nil => simp at hb
        | cons v b => simp only [List.zipWith_cons_cons]; rw [ih b (by simpa using hb)]
    exact key _ _ (by rw [List.length_map, l2])
  rw [ez] at r2
  rw [rangeD_len] at l2
  have hlen : ks.length ≤ 60 := by omega
  have i1 : intsD (ks.map D.int) = some ks := by simpa using intsD_map (fun i : Int => i) ks
  have s1 := set_lst (st := st2 ++ [.lst (ks.map D.int)]) (l := st2.length) (by simp) i1 (by omega)
  have s2 := sorted_set (st := st2 ++ [.lst (ks.map D.int)] ++ [.iset ks]) (l := (st2 ++ [O.lst (ks.map D.int)]).length) (xs := ks) (by simp) (by omega)
  refine ⟨(st2 ++ [O.lst (ks.map D.int)] ++ [O.iset ks]).length, sortS (dedS ks), st2 ++ [.lst (ks.map D.int)] ++ [.iset ks] ++ [.lst ((sortS (dedS ks)).map D.int)], ?_, by simp, ?_, by simp, sortS_lt ks, fun p hp => q2 p ((sortS_mem p ks).mp hp), ?_, ((d2.app _).app _).app _, ?_⟩
  · have es : evSrc (callF P (n + 1)) (.rng1 (.call iD (.cons (.var dv) (.cons (.lit (.int cnt)) .nil)))) env st = .ok (rangeD 0 k.toNat, none) st1 := by
      simp only [evSrc, evE, evEs, he, bind_ok, r1, hsm, if_true, hsz]
    have e4 : evE (callF P (n + 1)) (.lc [(x, kv)] (.call iD (.cons (.var dv) (.cons (.lit (.int big)) .nil))) (.name kv) (.rng1 (.call iD (.cons (.var dv) (.cons (.lit (.int cnt)) .nil)))) .no) env st = .ok (.ref st2.length) (st2 ++ [.lst (ks.map D.int)]) := by
      rw [evE, es, bind_ok]
      exact congrArg (fun r => Res.bind r fun ds st => newL st ds) r2
    unfold placesE
    generalize E.lc [(x, kv)] (.call iD (.cons (.var dv) (.cons (.lit (.int big)) .nil))) (.name kv) (.rng1 (.call iD (.cons (.var dv) (.cons (.lit (.int cnt)) .nil)))) .no = LC at e4 ⊢
    simp only [evE, evEs, e4, bind_ok, s1, s2]
    rfl
  · have := d2.lt
    simp; omega
  · have := sortS_len ks; omega
  · exact ((b1.old.trans b2.old).trans (.app l _ _)).trans ((Old.app l _ _).trans (.app l _ _))
def planE (iD dv pv kv : Nat) (own : List (Str × Nat)) (big : Int) : E := .bi .tuple (.cons (.lc own (.tup (.cons (.var kv) (.cons (.call iD (.cons (.var dv) (.cons (.lit (.int big)) .nil))) .nil))) (.name kv) (.of (.var pv)) .no) .nil)
theorem planE_ok {P : Nat → Option FDef} {iD : Nat} (hP : P iD = some drawF) (n : Nat) {st : AS} {l s : Nat} {xs : List Int} (h : Dw st l s xs) {dv pv kv r : Nat} {x : Str} {big : Int} {pl : List Int} (hb : 0 < big) (hb2 : big < 1073741824)
    {env : Env} (he : env[dv]? = some (some (.ref l))) (hk : kv ≠ dv) (hkl : kv < env.length) (hp : env[pv]? = some (some (.ref r))) (hr : st[r]? = some (.lst (pl.map D.int))) (hrl : r ≠ l) :
    ∃ (ks : List Int) (st' : AS), evE (callF P (n + 1)) (planE iD dv pv kv [(x, kv)] big) env st = .ok (.tup (List.zipWith (fun p k => D.tup [.int p, .int k]) pl ks)) st' ∧ ks.length = pl.length ∧ (∀ k ∈ ks, 0 ≤ k ∧ k < big) ∧ Dw st' l s xs ∧ Old l st st' := by
  obtain ⟨ks, st2, r2, l2, q2, d2, b2⟩ := draws_lc hP n (st0 := st) (st := st) (w := some (r, pl.map D.int)) (asg := fun d => assign (.name kv) d (wipeE env [kv])) (elt := fun env st => evE (callF P (n + 1)) (.tup (.cons (.var kv) (.cons (.call iD (.cons (.var dv) (.cons (.lit (.int big)) .nil))) .nil))) env st) big hb hb2
    (fun st' b => by
      show itemsD st' (.ref r) = some (pl.map D.int)
      exact items_lst (by rw [b.at_ r hrl]; exact hr))
    (fun d => (env.set kv none).set kv (some d)) (fun p d => .tup [p, d]) (pl.map D.int) st h (.refl _ _) fun y hy => ⟨rfl, fun st' _ => by
      have e2 : ((env.set kv none).set kv (some y))[dv]? = some (some (.ref l)) := by rw [List.getElem?_set_ne hk, List.getElem?_set_ne hk]; exact he
      have e3 : ((env.set kv none).set kv (some y))[kv]? = some (some y) := by rw [List.getElem?_set_self (by rw [List.length_set]; exact hkl)]
      simp only [evE, evEs, e2, e3, bind_ok]
      generalize callF P (n + 1) iD [.ref l, .int big] st' = rr
      cases rr <;> rfl⟩
  have ez : List.zipWith (fun p d => D.tup [p, d]) (pl.map D.int) (ks.map D.int) = List.zipWith (fun p k => D.tup [.int p, .int k]) pl ks := by
    rw [List.zipWith_map]
  rw [ez] at r2
  rw [List.length_map] at l2
  refine ⟨ks, st2 ++ [.lst (List.zipWith (fun p k => D.tup [.int p, .int k]) pl ks)], ?_, l2, q2, d2.app _, b2.old.trans (.app l _ _)⟩
  have es : evSrc (callF P (n + 1)) (.of (.var pv)) env st = .ok (pl.map D.int, some (r, pl.map D.int)) st := by
    simp only [evSrc, evE, hp, bind_ok, items_lst hr]
  have e4 : evE (callF P (n + 1)) (.lc [(x, kv)] (.tup (.cons (.var kv) (.cons (.call iD (.cons (.var dv) (.cons (.lit (.int big)) .nil))) .nil))) (.name kv) (.of (.var pv)) .no) env st = .ok (.ref st2.length) (st2 ++ [.lst (List.zipWith (fun p k => D.tup [.int p, .int k]) pl ks)]) := by
    rw [evE, es, bind_ok]
    exact congrArg (fun r => Res.bind r fun ds st => newL st ds) r2
  unfold planE
  generalize E.lc [(x, kv)] (.tup (.cons (.var kv) (.cons (.call iD (.cons (.var dv) (.cons (.lit (.int big)) .nil))) .nil))) (.name kv) (.of (.var pv)) .no = LC at e4 ⊢
  simp only [evE, evEs, e4, bind_ok]
  exact tuple_lst (by simp)
end Ws
end
end

section
set_option Elab.async false
set_option linter.all false
set_option maxRecDepth 100000
set_option maxHeartbeats 1000000
/-! WsW: walking a block statement by statement. -/
noncomputable section
namespace Ws
open PySem
def Wp (r : RS) (Q : RS → Prop) : Prop := Q r
theorem Wp.of {r : RS} {Q Q' : RS → Prop} (h : Wp r Q) (k : ∀ r, Q r → Q' r) : Wp r Q' := k r h
section
variable {cl : Call} {r a b : Ss} {e : E} {t : T} {env env' : Env} {st st' : AS} {d : D} {Q : RS → Prop} {i : Nat} {c : Bool}
theorem exSs_cons (cl : Call) (s : S) (r : Ss) (env : Env) (st : AS) : exSs cl (.cons s r) env st = (exS cl s env st).seq fun env st => exSs cl r env st := by rw [exSs]
theorem to_asg (h : evE cl e env st = .ok d st') (k : Wp (exSs cl r (env.set i (some d)) st') Q) : Wp (exSs cl (.cons (.asg (.name i) e) r) env st) Q := by
  unfold Wp
  rw [exSs_cons, exS, h, stm_ok, asg_name]
  exact k
theorem to_asgT {tg : Tg} (h : evE cl e env st = .ok d st') (ha : assign tg d env = some env') (k : Wp (exSs cl r env' st') Q) : Wp (exSs cl (.cons (.asg tg e) r) env st) Q := by
  unfold Wp
  rw [exSs_cons, exS, h, stm_ok, ha]
  exact k
theorem to_expr (h : evE cl e env st = .ok d st') (k : Wp (exSs cl r env st') Q) : Wp (exSs cl (.cons (.expr e) r) env st) Q := by
  unfold Wp
  rw [exSs_cons, exS, h, stm_ok]
  exact k
theorem to_ret (h : evE cl e env st = .ok d st') (k : Q (.ret d st')) : Wp (exSs cl (.cons (.ret e) r) env st) Q := by
  unfold Wp
  rw [exSs_cons, exS, h, stm_ok]
  exact k
theorem to_retX {p : D} {n : Nat} (h : evE cl e env st = .exn n p st') (k : Q (.exn n p env st')) : Wp (exSs cl (.cons (.ret e) r) env st) Q := by
  unfold Wp
  rw [exSs_cons, exS, h, stm_exn]
  exact k
theorem to_asgX {tg : Tg} {p : D} {n : Nat} (h : evE cl e env st = .exn n p st') (k : Q (.exn n p env st')) : Wp (exSs cl (.cons (.asg tg e) r) env st) Q := by
  unfold Wp
  rw [exSs_cons, exS, h, stm_exn]
  exact k
theorem to_exprX {p : D} {n : Nat} (h : evE cl e env st = .exn n p st') (k : Q (.exn n p env st')) : Wp (exSs cl (.cons (.expr e) r) env st) Q := by
  unfold Wp
  rw [exSs_cons, exS, h, stm_exn]
  exact k
theorem to_ite (h : evT cl t env st = .ok c st') (k1 : c = true → Wp (exSs cl a env st') fun r' => Wp (r'.seq fun e s => exSs cl r e s) Q) (k2 : c = false → Wp (exSs cl b env st') fun r' => Wp (r'.seq fun e s => exSs cl r e s) Q) : Wp (exSs cl (.cons (.ite t a b) r) env st) Q := by
  unfold Wp at *
  rw [exSs_cons, exS, h, stm_ok]
  cases c with
  | true => rw [if_pos rfl]; exact k1 rfl
  | false => rw [if_neg Bool.false_ne_true]; exact k2 rfl
theorem to_iteT (h : evT cl t env st = .ok true st') (k1 : Wp (exSs cl a env st') fun r' => Wp (r'.seq fun e s => exSs cl r e s) Q) : Wp (exSs cl (.cons (.ite t a b) r) env st) Q := to_ite h (fun _ => k1) fun e => by cases e
theorem to_iteF (h : evT cl t env st = .ok false st') (k1 : Wp (exSs cl b env st') fun r' => Wp (r'.seq fun e s => exSs cl r e s) Q) : Wp (exSs cl (.cons (.ite t a b) r) env st) Q := to_ite h (fun e => by cases e) fun _ => k1
/-- no else -/
theorem to_iteN (h : evT cl t env st = .ok false st') (k1 : Wp (exSs cl r env st') Q) : Wp (exSs cl (.cons (.ite t a .nil) r) env st) Q := to_iteF h (by unfold Wp; rw [exSs]; exact k1)
theorem to_nil (k : Q (.next env st)) : Wp (exSs cl .nil env st) Q := by
  unfold Wp; rw [exSs]; exact k
theorem to_if1 (h : evT cl t env st = .ok c st') (k1 : c = true → Wp (exSs cl a env st') fun r' => Wp (r'.seq fun e s => exSs cl r e s) Q) (k2 : c = false → Wp (exSs cl r env st') Q) : Wp (exSs cl (.cons (.ite t a .nil) r) env st) Q := by
  cases c with
  | true => exact to_iteT h (k1 rfl)
  | false => exact to_iteN h (k2 rfl)
theorem to_for {tg : Tg} {src : Src} {tmp : List Nat} {body : Ss} {xs : List D} {w : Option (Nat × List D)} (h : evSrc cl src env st = .ok (xs, w) st') (J : Nat → Env → AS → Prop) (h0 : J 0 env st') (hw : ∀ i env st, J i env st → watchOk w st)
    (hs : ∀ i x env st, xs[i]? = some x → J i env st → ∃ env1, assign tg x (wipeE env tmp) = some env1 ∧ Wp (exSs cl body env1 st) fun r' => match r' with
      | .next e s => J (i + 1) e s
      | .cont e s => J (i + 1) e s
      | .brk e s => Wp (exSs cl r (wipeE e tmp) s) Q
      | r' => Q r')
    (hd : ∀ env st, J xs.length env st → Wp (exSs cl r (wipeE env tmp) st) Q) : Wp (exSs cl (.cons (.forr tg src tmp body) r) env st) Q := by
  unfold Wp at *
  rw [exSs_cons, exS, h, stm_ok]
  refine for_run xs J (fun r' => Q (r'.seq fun env st => exSs cl r env st)) hw hd (fun i x env st hx hj => ?_) env st' h0
  obtain ⟨env1, h1, h2⟩ := hs i x env st hx hj
  refine ⟨env1, h1, ?_⟩
  generalize exSs cl body env1 st = r' at h2
  cases r' <;> exact h2
end
/-- a def's run by its block's -/
theorem run_of {P : Nat → Option FDef} {f : Nat} {fd : FDef} (h : P f = some fd) {n : Nat} {ds : List D} (hl : ds.length = fd.np) {st : AS} {R : Res D} (k : Wp (exSs (callF P n) fd.body (startE fd.ns ds) st) fun r => gcR st r.res = R) : callF P (n + 1) f ds st = R := by
  rw [callF_eq h n ds hl]
  exact k
theorem run_ex {P : Nat → Option FDef} {f : Nat} {fd : FDef} (h : P f = some fd) {n : Nat} {ds : List D} (hl : ds.length = fd.np) {st : AS} {Q : Res D → Prop} (k : Wp (exSs (callF P n) fd.body (startE fd.ns ds) st) fun r => Q (gcR st r.res)) : Q (callF P (n + 1) f ds st) := by
  rw [callF_eq h n ds hl]
  exact k
theorem gcR_bl (st st2 : AS) (b : Bool) : ∃ st', gcR st (.ok (.bl b) st2) = .ok (.bl b) st' := by
  unfold gcR
  dsimp only
  split
  · exact ⟨_, rfl⟩
  · exact ⟨_, rfl⟩
end Ws
end
end

section
set_option Elab.async false
set_option linter.all false
set_option maxRecDepth 100000
/-! The defs of the program and of the laws in the small syntax (printed by gen.py). -/
noncomputable section
namespace Pg
open PySem Ws
/-! 0: BadDeed_init -/
/-- 0=self 1=index -/
def f_BadDeed_init : FDef := ⟨2, 2,
  (.cons (.setFld "index" (.var 0) (.var 1)) .nil)⟩
/-! 1: is_number -/
/-- 0=value 1=least 2=most -/
def f_is_number : FDef := ⟨3, 3,
  (.cons (.ret (.and (.isi "int" (.var 0)) (.and (.nt (.isi "bool" (.var 0))) (.chain .le .le (.var 1) (.var 0) (.var 2))))) .nil)⟩
/-! 2: is_switch -/
/-- 0=value -/
def f_is_switch : FDef := ⟨1, 1,
  (.cons (.ite (.or (.nt (.of (.isi "tuple" (.var 0)))) (.cmp .ne (.bi .len (.cons (.var 0) .nil)) (.lit (.int 2))))
    (.cons (.ret (.lit (.bl false))) .nil)
    .nil)
  (.cons (.ret (.and (.call 1 (.cons (.ix (.var 0) (.lit (.int 0))) (.cons (.lit (.int 0)) (.cons (.bin .sub (.glo 0 (.int 168)) (.lit (.int 1))) .nil)))) (.call 1 (.cons (.ix (.var 0) (.lit (.int 1))) (.cons (.lit (.int 0)) (.cons (.lit (.int 9)) .nil)))))) .nil))⟩
/-! 3: is_plan -/
/-- 0=value 1=one 2=two -/
def f_is_plan : FDef := ⟨1, 3,
  (.cons (.ite (.or (.nt (.of (.isi "tuple" (.var 0)))) (.or (.cmp .gt (.bi .len (.cons (.var 0) .nil)) (.glo 1 (.int 14))) (.nt (.of (.bi .all (.cons (.lc [("one", 1)] (.call 2 (.cons (.var 1) .nil)) (.name 1) (.of (.var 0)) .no) .nil))))))
    (.cons (.ret (.lit (.bl false))) .nil)
    .nil)
  (.cons (.ret (.bi .all (.cons (.lc [("one", 1), ("two", 2)] (.cmp .lt (.ix (.var 1) (.lit (.int 0))) (.ix (.var 2) (.lit (.int 0)))) (.tup (.cons (.name 1) (.cons (.name 2) .nil))) (.zip (.var 0) (.sl (.var 0) (.of (.lit (.int 1))) .no)) .no) .nil))) .nil))⟩
/-! 4: check_plan -/
/-- 0=plan -/
def f_check_plan : FDef := ⟨1, 1,
  (.cons (.ite (.nt (.of (.call 3 (.cons (.var 0) .nil))))
    (.cons (.raise 1 none .no) .nil)
    .nil) .nil)⟩
/-! 5: plan_value -/
/-- 0=plan 1=hour 2=found 3=place 4=value -/
def f_plan_value : FDef := ⟨2, 5,
  (.cons (.ite (.nt (.of (.var 0)))
    (.cons (.ret (.lit .non)) .nil)
    .nil)
  (.cons (.asg (.name 2) (.ix (.ix (.var 0) (.neg (.lit (.int 1)))) (.lit (.int 1))))
  (.cons (.forr (.tup (.cons (.name 3) (.cons (.name 4) .nil))) (.of (.var 0)) [3, 4]
    (.cons (.ite (.cmp .le (.var 3) (.bin .mod (.var 1) (.glo 0 (.int 168))))
      (.cons (.asg (.name 2) (.var 4)) .nil)
      .nil) .nil))
  (.cons (.ret (.var 2)) .nil))))⟩
/-! 6: next_switch -/
/-- 0=plan 1=hour 2=rests 3=place 4=value -/
def f_next_switch : FDef := ⟨2, 5,
  (.cons (.ite (.nt (.of (.var 0)))
    (.cons (.ret (.lit .non)) .nil)
    .nil)
  (.cons (.asg (.name 2) (.lc [("place", 3), ("value", 4)] (.bin .mod (.bin .sub (.var 3) (.var 1)) (.glo 0 (.int 168))) (.tup (.cons (.name 3) (.cons (.name 4) .nil))) (.of (.var 0)) .no))
  (.cons (.ret (.bin .add (.var 1) (.bi .min (.cons (.var 2) .nil)))) .nil)))⟩
/-! 7: fewest -/
/-- 0=plan 1=found 2=at -/
def f_fewest : FDef := ⟨1, 3,
  (.cons (.expr (.call 4 (.cons (.var 0) .nil)))
  (.cons (.asg (.name 1) (.lc [("at", 2)] (.ix (.var 0) (.var 2)) (.name 2) (.rng1 (.bi .len (.cons (.var 0) .nil))) (.of (.cmp .ne (.ix (.ix (.var 0) (.var 2)) (.lit (.int 1))) (.ix (.ix (.var 0) (.bin .sub (.var 2) (.lit (.int 1)))) (.lit (.int 1)))))))
  (.cons (.ret (.ite (.of (.var 1)) (.bi .tuple (.cons (.var 1) .nil)) (.sl (.var 0) .no (.of (.lit (.int 1)))))) .nil)))⟩
/-! 8: check_order -/
/-- 0=order -/
def f_check_order : FDef := ⟨1, 1,
  (.cons (.ite (.or (.nt (.of (.isi "str" (.var 0)))) (.cmp .nin (.var 0) (.glo 3 (.tup [.str "newest", .str "away"]))))
    (.cons (.raise 3 none .no) .nil)
    .nil) .nil)⟩
/-! 9: is_value -/
/-- 0=value -/
def f_is_value : FDef := ⟨1, 1,
  (.cons (.ret (.call 1 (.cons (.var 0) (.cons (.lit (.int 0)) (.cons (.lit (.int 9)) .nil))))) .nil)⟩
/-! 10: is_until -/
/-- 0=value -/
def f_is_until : FDef := ⟨1, 1,
  (.cons (.ite (.or (.nt (.of (.isi "tuple" (.var 0)))) (.or (.nt (.of (.var 0))) (.nt (.of (.isi "str" (.ix (.var 0) (.lit (.int 0))))))))
    (.cons (.ret (.lit (.bl false))) .nil)
    .nil)
  (.cons (.ite (.cmp .eq (.ix (.var 0) (.lit (.int 0))) (.lit (.str "till")))
    (.cons (.ret (.and (.cmp .eq (.bi .len (.cons (.var 0) .nil)) (.lit (.int 2))) (.call 1 (.cons (.ix (.var 0) (.lit (.int 1))) (.cons (.lit (.int 0)) (.cons (.bin .mul (.lit (.int 2)) (.glo 2 (.int 1000000000))) .nil)))))) .nil)
    .nil)
  (.cons (.ret (.and (.cmp .inn (.ix (.var 0) (.lit (.int 0))) (.tup (.cons (.lit (.str "next")) (.cons (.lit (.str "hold")) .nil)))) (.cmp .eq (.bi .len (.cons (.var 0) .nil)) (.lit (.int 1))))) .nil)))⟩
/-! 11: is_stretch -/
/-- 0=begin 1=end -/
def f_is_stretch : FDef := ⟨2, 2,
  (.cons (.ite (.nt (.of (.call 1 (.cons (.var 0) (.cons (.lit (.int 0)) (.cons (.bin .mul (.lit (.int 2)) (.glo 2 (.int 1000000000))) .nil))))))
    (.cons (.ret (.lit (.bl false))) .nil)
    .nil)
  (.cons (.ret (.or (.isN (.var 1)) (.call 1 (.cons (.var 1) (.cons (.bin .add (.var 0) (.lit (.int 1))) (.cons (.bin .mul (.lit (.int 2)) (.glo 2 (.int 1000000000))) .nil)))))) .nil))⟩
/-! 12: hour_of -/
/-- 0=deed -/
def f_hour_of : FDef := ⟨1, 1,
  (.cons (.ret (.ix (.var 0) (.neg (.lit (.int 1))))) .nil)⟩
/-! 13: plan_pieces -/
/-- 0=deeds 1=room 2=found 3=deed -/
def f_plan_pieces : FDef := ⟨2, 4,
  (.cons (.asg (.name 2) (.lst (.cons (.tup (.cons (.lit (.int 0)) (.cons (.tup .nil) .nil))) .nil)))
  (.cons (.forr (.name 3) (.of (.var 0)) [3]
    (.cons (.ite (.and (.cmp .eq (.ix (.var 3) (.lit (.int 0))) (.lit (.str "plan"))) (.cmp .eq (.ix (.var 3) (.lit (.int 1))) (.var 1)))
      (.cons (.ite (.cmp .eq (.ix (.var 3) (.lit (.int 3))) (.ix (.ix (.var 2) (.neg (.lit (.int 1)))) (.lit (.int 0))))
        (.cons (.expr (.bm .pop (.var 2) .nil)) .nil)
        .nil)
      (.cons (.expr (.bm .append (.var 2) (.cons (.tup (.cons (.ix (.var 3) (.lit (.int 3))) (.cons (.ix (.var 3) (.lit (.int 2))) .nil))) .nil))) .nil))
      .nil) .nil))
  (.cons (.ret (.var 2)) .nil)))⟩
/-! 14: end_of_next -/
/-- 0=deeds 1=room 2=hour 3=pieces 4=at 5=begin 6=plan 7=end 8=found -/
def f_end_of_next : FDef := ⟨3, 9,
  (.cons (.asg (.name 3) (.call 13 (.cons (.var 0) (.cons (.var 1) .nil))))
  (.cons (.forr (.tup (.cons (.name 4) (.cons (.tup (.cons (.name 5) (.cons (.name 6) .nil))) .nil))) (.enum (.var 3)) [4, 5, 6, 7, 8]
    (.cons (.asg (.name 7) (.ite (.cmp .lt (.bin .add (.var 4) (.lit (.int 1))) (.bi .len (.cons (.var 3) .nil))) (.ix (.ix (.var 3) (.bin .add (.var 4) (.lit (.int 1)))) (.lit (.int 0))) (.lit .non)))
    (.cons (.asg (.name 8) (.call 6 (.cons (.var 6) (.cons (.bi .max (.cons (.var 5) (.cons (.bin .add (.var 2) (.lit (.int 1))) .nil))) .nil))))
    (.cons (.ite (.and (.notN (.var 8)) (.or (.isN (.var 7)) (.cmp .lt (.var 8) (.var 7))))
      (.cons (.ret (.var 8)) .nil)
      .nil) .nil))))
  (.cons (.ret (.lit .non)) .nil)))⟩
/-! 15: turning_at -/
/-- 0=deeds 1=room 2=hour 3=at 4=deed 5=until 6=end -/
def f_turning_at : FDef := ⟨3, 7,
  (.cons (.forr (.name 3) (.rng3 (.bin .sub (.bi .len (.cons (.var 0) .nil)) (.lit (.int 1))) (.neg (.lit (.int 1))) (.neg (.lit (.int 1)))) [3, 4]
    (.cons (.asg (.name 4) (.ix (.var 0) (.var 3)))
    (.cons (.ite (.and (.cmp .eq (.ix (.var 4) (.lit (.int 0))) (.lit (.str "back"))) (.cmp .eq (.ix (.var 4) (.lit (.int 1))) (.var 1)))
      (.cons (.ret (.lit .non)) .nil)
      .nil)
    (.cons (.ite (.and (.cmp .eq (.ix (.var 4) (.lit (.int 0))) (.lit (.str "turn"))) (.cmp .eq (.ix (.var 4) (.lit (.int 1))) (.var 1)))
      (.cons (.asg (.name 5) (.ix (.var 4) (.lit (.int 3))))
      (.cons (.asg (.name 6) (.ite (.cmp .eq (.ix (.var 5) (.lit (.int 0))) (.lit (.str "till"))) (.ix (.var 5) (.lit (.int 1))) (.lit .non)))
      (.cons (.ite (.cmp .eq (.ix (.var 5) (.lit (.int 0))) (.lit (.str "next")))
        (.cons (.asg (.name 6) (.call 14 (.cons (.var 0) (.cons (.var 1) (.cons (.ix (.var 4) (.lit (.int 4))) .nil))))) .nil)
        .nil)
      (.cons (.ret (.ite (.or (.isN (.var 6)) (.cmp .lt (.var 2) (.var 6))) (.tup (.cons (.var 3) (.cons (.ix (.var 4) (.lit (.int 2))) .nil))) (.lit .non))) .nil))))
      .nil) .nil))))
  (.cons (.ret (.lit .non)) .nil))⟩
/-! 16: away_at -/
/-- 0=deeds 1=hour 2=at 3=deed 4=holds -/
def f_away_at : FDef := ⟨2, 5,
  (.cons (.forr (.name 2) (.rng3 (.bin .sub (.bi .len (.cons (.var 0) .nil)) (.lit (.int 1))) (.neg (.lit (.int 1))) (.neg (.lit (.int 1)))) [2, 3]
    (.cons (.asg (.name 3) (.ix (.var 0) (.var 2)))
    (.cons (.ite (.cmp .eq (.ix (.var 3) (.lit (.int 0))) (.lit (.str "home")))
      (.cons (.ret (.lit .non)) .nil)
      .nil)
    (.cons (.ite (.cmp .eq (.ix (.var 3) (.lit (.int 0))) (.lit (.str "away")))
      (.cons (.asg (.name 4) (.and (.cmp .le (.ix (.var 3) (.lit (.int 1))) (.var 1)) (.or (.isN (.ix (.var 3) (.lit (.int 2)))) (.cmp .lt (.var 1) (.ix (.var 3) (.lit (.int 2)))))))
      (.cons (.ret (.ite (.of (.var 4)) (.tup (.cons (.var 2) (.cons (.ix (.var 3) (.lit (.int 3))) .nil))) (.lit .non))) .nil))
      .nil) .nil))))
  (.cons (.ret (.lit .non)) .nil))⟩
/-! 17: followed_by -/
/-- 0=deeds 1=room 2=deed -/
def f_followed_by : FDef := ⟨2, 3,
  (.cons (.forr (.name 2) (.of (.slr (.var 0))) [2]
    (.cons (.ite (.and (.cmp .eq (.ix (.var 2) (.lit (.int 0))) (.lit (.str "follow"))) (.cmp .eq (.ix (.var 2) (.lit (.int 1))) (.var 1)))
      (.cons (.ret (.ite (.isN (.ix (.var 2) (.lit (.int 2)))) (.lit .non) (.tup (.cons (.ix (.var 2) (.lit (.int 2))) (.cons (.ix (.var 2) (.lit (.int 3))) .nil))))) .nil)
      .nil) .nil))
  (.cons (.ret (.lit .non)) .nil))⟩
/-! 18: shown_by -/
/-- 0=deeds 1=order 2=room 3=hour 4=turning 5=away 6=followed 7=value -/
def f_shown_by : FDef := ⟨4, 8,
  (.cons (.par 4 5 (.call 15 (.cons (.var 0) (.cons (.var 2) (.cons (.var 3) .nil)))) (.call 16 (.cons (.var 0) (.cons (.var 3) .nil))))
  (.cons (.ite (.and (.notN (.var 4)) (.notN (.var 5)))
    (.cons (.ret (.ite (.or (.cmp .eq (.var 1) (.lit (.str "away"))) (.cmp .gt (.ix (.var 5) (.lit (.int 0))) (.ix (.var 4) (.lit (.int 0))))) (.ix (.var 5) (.lit (.int 1))) (.ix (.var 4) (.lit (.int 1))))) .nil)
    .nil)
  (.cons (.ite (.or (.notN (.var 4)) (.notN (.var 5)))
    (.cons (.ret (.ite (.isN (.var 5)) (.ix (.var 4) (.lit (.int 1))) (.ix (.var 5) (.lit (.int 1))))) .nil)
    .nil)
  (.cons (.asg (.name 6) (.call 17 (.cons (.var 0) (.cons (.var 2) .nil))))
  (.cons (.ite (.isN (.var 6))
    (.cons (.ret (.call 5 (.cons (.ix (.ix (.call 13 (.cons (.var 0) (.cons (.var 2) .nil))) (.neg (.lit (.int 1)))) (.lit (.int 1))) (.cons (.var 3) .nil)))) .nil)
    .nil)
  (.cons (.asg (.name 7) (.call 18 (.cons (.var 0) (.cons (.var 1) (.cons (.ix (.var 6) (.lit (.int 0))) (.cons (.var 3) .nil))))))
  (.cons (.ret (.ite (.isN (.var 7)) (.lit .non) (.bi .min (.cons (.bi .max (.cons (.bin .add (.var 7) (.ix (.var 6) (.lit (.int 1)))) (.cons (.lit (.int 0)) .nil))) (.cons (.lit (.int 9)) .nil))))) .nil)))))))⟩
/-! 19: House_init -/
/-- 0=self 1=rooms 2=order -/
def f_House_init : FDef := ⟨3, 3,
  (.cons (.ite (.nt (.of (.call 1 (.cons (.var 1) (.cons (.lit (.int 1)) (.cons (.lit (.int 3)) .nil))))))
    (.cons (.raise 2 none .no) .nil)
    .nil)
  (.cons (.expr (.call 8 (.cons (.var 2) .nil)))
  (.cons (.setFld "rooms" (.var 0) (.var 1))
  (.cons (.setFld "order" (.var 0) (.var 2))
  (.cons (.setFld "deeds" (.var 0) (.lst .nil)) .nil)))))⟩
/-! 20: House_now -/
/-- 0=self -/
def f_House_now : FDef := ⟨1, 1,
  (.cons (.ret (.ite (.of (.fld "deeds" (.var 0))) (.call 12 (.cons (.ix (.fld "deeds" (.var 0)) (.neg (.lit (.int 1)))) .nil)) (.lit (.int 0)))) .nil)⟩
/-! 21: House_check_room -/
/-- 0=self 1=room -/
def f_House_check_room : FDef := ⟨2, 2,
  (.cons (.ite (.nt (.of (.call 1 (.cons (.var 1) (.cons (.lit (.int 0)) (.cons (.bin .sub (.fld "rooms" (.var 0)) (.lit (.int 1))) .nil))))))
    (.cons (.raise 4 none .no) .nil)
    .nil) .nil)⟩
/-! 22: House_check_hour -/
/-- 0=self 1=hour -/
def f_House_check_hour : FDef := ⟨2, 2,
  (.cons (.ite (.nt (.of (.call 1 (.cons (.var 1) (.cons (.prop 0 20 (.var 0)) (.cons (.glo 2 (.int 1000000000)) .nil))))))
    (.cons (.raise 5 none .no) .nil)
    .nil) .nil)⟩
/-! 23: House_plan_room -/
/-- 0=self 1=room 2=plan 3=hour -/
def f_House_plan_room : FDef := ⟨4, 4,
  (.cons (.expr (.meth 0 21 (.var 0) (.cons (.var 1) .nil)))
  (.cons (.expr (.call 4 (.cons (.var 2) .nil)))
  (.cons (.expr (.meth 0 22 (.var 0) (.cons (.var 3) .nil)))
  (.cons (.expr (.bm .append (.fld "deeds" (.var 0)) (.cons (.tup (.cons (.lit (.str "plan")) (.cons (.var 1) (.cons (.var 2) (.cons (.var 3) .nil))))) .nil))) .nil))))⟩
/-! 24: House_turn -/
/-- 0=self 1=room 2=value 3=until 4=hour -/
def f_House_turn : FDef := ⟨5, 5,
  (.cons (.expr (.meth 0 21 (.var 0) (.cons (.var 1) .nil)))
  (.cons (.ite (.nt (.of (.call 9 (.cons (.var 2) .nil))))
    (.cons (.raise 6 none .no) .nil)
    .nil)
  (.cons (.ite (.nt (.of (.call 10 (.cons (.var 3) .nil))))
    (.cons (.raise 7 none .no) .nil)
    .nil)
  (.cons (.expr (.meth 0 22 (.var 0) (.cons (.var 4) .nil)))
  (.cons (.ite (.and (.cmp .eq (.ix (.var 3) (.lit (.int 0))) (.lit (.str "till"))) (.cmp .le (.ix (.var 3) (.lit (.int 1))) (.var 4)))
    (.cons (.raise 7 none .no) .nil)
    .nil)
  (.cons (.expr (.bm .append (.fld "deeds" (.var 0)) (.cons (.tup (.cons (.lit (.str "turn")) (.cons (.var 1) (.cons (.var 2) (.cons (.var 3) (.cons (.var 4) .nil)))))) .nil))) .nil))))))⟩
/-! 25: House_back -/
/-- 0=self 1=room 2=hour -/
def f_House_back : FDef := ⟨3, 3,
  (.cons (.expr (.meth 0 21 (.var 0) (.cons (.var 1) .nil)))
  (.cons (.expr (.meth 0 22 (.var 0) (.cons (.var 2) .nil)))
  (.cons (.expr (.bm .append (.fld "deeds" (.var 0)) (.cons (.tup (.cons (.lit (.str "back")) (.cons (.var 1) (.cons (.var 2) .nil)))) .nil))) .nil)))⟩
/-! 26: House_away -/
/-- 0=self 1=begin 2=end 3=value 4=hour -/
def f_House_away : FDef := ⟨5, 5,
  (.cons (.ite (.nt (.of (.call 9 (.cons (.var 3) .nil))))
    (.cons (.raise 6 none .no) .nil)
    .nil)
  (.cons (.ite (.nt (.of (.call 11 (.cons (.var 1) (.cons (.var 2) .nil)))))
    (.cons (.raise 8 none .no) .nil)
    .nil)
  (.cons (.expr (.meth 0 22 (.var 0) (.cons (.var 4) .nil)))
  (.cons (.ite (.cmp .lt (.var 1) (.var 4))
    (.cons (.raise 8 none .no) .nil)
    .nil)
  (.cons (.expr (.bm .append (.fld "deeds" (.var 0)) (.cons (.tup (.cons (.lit (.str "away")) (.cons (.var 1) (.cons (.var 2) (.cons (.var 3) (.cons (.var 4) .nil)))))) .nil))) .nil)))))⟩
/-! 27: House_home -/
/-- 0=self 1=hour -/
def f_House_home : FDef := ⟨2, 2,
  (.cons (.expr (.meth 0 22 (.var 0) (.cons (.var 1) .nil)))
  (.cons (.expr (.bm .append (.fld "deeds" (.var 0)) (.cons (.tup (.cons (.lit (.str "home")) (.cons (.var 1) .nil))) .nil))) .nil))⟩
/-! 28: House_follow -/
/-- 0=self 1=room 2=other 3=offset 4=hour 5=here 6=followed -/
def f_House_follow : FDef := ⟨5, 7,
  (.cons (.expr (.meth 0 21 (.var 0) (.cons (.var 1) .nil)))
  (.cons (.ite (.notN (.var 2))
    (.cons (.expr (.meth 0 21 (.var 0) (.cons (.var 2) .nil))) .nil)
    .nil)
  (.cons (.ite (.nt (.of (.call 1 (.cons (.var 3) (.cons (.neg (.lit (.int 9))) (.cons (.lit (.int 9)) .nil))))))
    (.cons (.raise 9 none .no) .nil)
    .nil)
  (.cons (.asg (.name 5) (.var 2))
  (.cons (.whil (.notN (.var 5)) [6]
    (.cons (.ite (.cmp .eq (.var 5) (.var 1))
      (.cons (.raise 10 none .no) .nil)
      .nil)
    (.cons (.asg (.name 6) (.call 17 (.cons (.fld "deeds" (.var 0)) (.cons (.var 5) .nil))))
    (.cons (.asg (.name 5) (.ite (.isN (.var 6)) (.lit .non) (.ix (.var 6) (.lit (.int 0))))) .nil))))
  (.cons (.expr (.meth 0 22 (.var 0) (.cons (.var 4) .nil)))
  (.cons (.expr (.bm .append (.fld "deeds" (.var 0)) (.cons (.tup (.cons (.lit (.str "follow")) (.cons (.var 1) (.cons (.var 2) (.cons (.var 3) (.cons (.var 4) .nil)))))) .nil))) .nil)))))))⟩
/-! 29: House_undo -/
/-- 0=self -/
def f_House_undo : FDef := ⟨1, 1,
  (.cons (.expr .bad) .nil)⟩
/-! 30: House_log -/
/-- 0=self -/
def f_House_log : FDef := ⟨1, 1,
  (.cons (.ret (.bi .list (.cons (.fld "deeds" (.var 0)) .nil))) .nil)⟩
/-! 31: House_len -/
/-- 0=self -/
def f_House_len : FDef := ⟨1, 1,
  (.cons (.ret (.bi .len (.cons (.fld "deeds" (.var 0)) .nil))) .nil)⟩
/-! 32: House_value_at -/
/-- 0=self 1=room 2=hour 3=deed -/
def f_House_value_at : FDef := ⟨3, 4,
  (.cons (.ret (.call 18 (.cons (.lc [("deed", 3)] (.var 3) (.name 3) (.of (.fld "deeds" (.var 0))) (.of (.cmp .le (.call 12 (.cons (.var 3) .nil)) (.var 2)))) (.cons (.fld "order" (.var 0)) (.cons (.var 1) (.cons (.var 2) .nil)))))) .nil)⟩
/-! 33: House_shown -/
/-- 0=self 1=room 2=hour -/
def f_House_shown : FDef := ⟨3, 3,
  (.cons (.expr (.meth 0 21 (.var 0) (.cons (.var 1) .nil)))
  (.cons (.ite (.or (.nt (.of (.isi "int" (.var 2)))) (.or (.of (.isi "bool" (.var 2))) (.cmp .lt (.var 2) (.lit (.int 0)))))
    (.cons (.raise 5 none .no) .nil)
    .nil)
  (.cons (.ret (.meth 0 32 (.var 0) (.cons (.var 1) (.cons (.var 2) .nil)))) .nil)))⟩
/-! 34: do_deed -/
/-- 0=house 1=deed 2=word -/
def f_do_deed : FDef := ⟨2, 3,
  (.cons (.asg (.name 2) (.ix (.var 1) (.lit (.int 0))))
  (.cons (.ite (.cmp .eq (.var 2) (.lit (.str "plan")))
    (.cons (.expr (.meth 0 23 (.var 0) (.cons (.ix (.var 1) (.lit (.int 1))) (.cons (.ix (.var 1) (.lit (.int 2))) (.cons (.ix (.var 1) (.lit (.int 3))) .nil))))) .nil)
    (.cons (.ite (.cmp .eq (.var 2) (.lit (.str "turn")))
      (.cons (.expr (.meth 0 24 (.var 0) (.cons (.ix (.var 1) (.lit (.int 1))) (.cons (.ix (.var 1) (.lit (.int 2))) (.cons (.ix (.var 1) (.lit (.int 3))) (.cons (.ix (.var 1) (.lit (.int 4))) .nil)))))) .nil)
      (.cons (.ite (.cmp .eq (.var 2) (.lit (.str "back")))
        (.cons (.expr (.meth 0 25 (.var 0) (.cons (.ix (.var 1) (.lit (.int 1))) (.cons (.ix (.var 1) (.lit (.int 2))) .nil)))) .nil)
        (.cons (.ite (.cmp .eq (.var 2) (.lit (.str "away")))
          (.cons (.expr (.meth 0 26 (.var 0) (.cons (.ix (.var 1) (.lit (.int 1))) (.cons (.ix (.var 1) (.lit (.int 2))) (.cons (.ix (.var 1) (.lit (.int 3))) (.cons (.ix (.var 1) (.lit (.int 4))) .nil)))))) .nil)
          (.cons (.ite (.cmp .eq (.var 2) (.lit (.str "home")))
            (.cons (.expr (.meth 0 27 (.var 0) (.cons (.ix (.var 1) (.lit (.int 1))) .nil))) .nil)
            (.cons (.expr (.meth 0 28 (.var 0) (.cons (.ix (.var 1) (.lit (.int 1))) (.cons (.ix (.var 1) (.lit (.int 2))) (.cons (.ix (.var 1) (.lit (.int 3))) (.cons (.ix (.var 1) (.lit (.int 4))) .nil)))))) .nil)) .nil)) .nil)) .nil)) .nil)) .nil))⟩
/-! 35: replay -/
/-- 0=rooms 1=order 2=log 3=house 4=deed -/
def f_replay : FDef := ⟨3, 5,
  (.cons (.asg (.name 3) (.make 0 19 (.cons (.var 0) (.cons (.var 1) .nil))))
  (.cons (.forr (.name 4) (.of (.var 2)) [4]
    (.cons (.expr (.call 34 (.cons (.var 3) (.cons (.var 4) .nil)))) .nil))
  (.cons (.ret (.var 3)) .nil)))⟩
/-! 36: corners -/
/-- 0=house 1=found 2=deed 3=hour 4=end -/
def f_corners : FDef := ⟨1, 5,
  (.cons (.asg (.name 1) (.dic1 (.lit (.int 0)) (.lit (.bl true))))
  (.cons (.forr (.name 2) (.of (.fld "deeds" (.var 0))) [2]
    (.cons (.setIx (.var 1) (.call 12 (.cons (.var 2) .nil)) (.lit (.bl true)))
    (.cons (.ite (.cmp .eq (.ix (.var 2) (.lit (.int 0))) (.lit (.str "away")))
      (.cons (.forr (.name 3) (.of (.tup (.cons (.ix (.var 2) (.lit (.int 1))) (.cons (.ix (.var 2) (.lit (.int 2))) .nil)))) [3]
        (.cons (.ite (.notN (.var 3))
          (.cons (.setIx (.var 1) (.var 3) (.lit (.bl true))) .nil)
          .nil) .nil)) .nil)
      .nil)
    (.cons (.ite (.and (.cmp .eq (.ix (.var 2) (.lit (.int 0))) (.lit (.str "turn"))) (.cmp .eq (.ix (.ix (.var 2) (.lit (.int 3))) (.lit (.int 0))) (.lit (.str "till"))))
      (.cons (.setIx (.var 1) (.ix (.ix (.var 2) (.lit (.int 3))) (.lit (.int 1))) (.lit (.bl true))) .nil)
      .nil)
    (.cons (.ite (.and (.cmp .eq (.ix (.var 2) (.lit (.int 0))) (.lit (.str "turn"))) (.cmp .eq (.ix (.ix (.var 2) (.lit (.int 3))) (.lit (.int 0))) (.lit (.str "next"))))
      (.cons (.asg (.name 4) (.call 14 (.cons (.fld "deeds" (.var 0)) (.cons (.ix (.var 2) (.lit (.int 1))) (.cons (.ix (.var 2) (.lit (.int 4))) .nil)))))
      (.cons (.ite (.notN (.var 4))
        (.cons (.setIx (.var 1) (.var 4) (.lit (.bl true))) .nil)
        .nil) .nil))
      .nil) .nil)))))
  (.cons (.ret (.bi .sorted (.cons (.var 1) .nil))) .nil)))⟩
/-! 37: spans -/
/-- 0=houses 1=hours 2=house 3=hour -/
def f_spans : FDef := ⟨1, 4,
  (.cons (.asg (.name 1) (.bi .sorted (.cons (.dc2 [("house", 2), ("hour", 3)] (.var 3) (.lit (.bl true)) (.name 2) (.of (.var 0)) (.name 3) (.of (.call 36 (.cons (.var 2) .nil)))) .nil)))
  (.cons (.ret (.lzip (.var 1) (.bin .add (.sl (.var 1) (.of (.lit (.int 1))) .no) (.lst (.cons (.lit .non) .nil))))) .nil))⟩
/-! 38: plans_at -/
/-- 0=house 1=hour 2=deeds 3=deed 4=room -/
def f_plans_at : FDef := ⟨2, 5,
  (.cons (.asg (.name 2) (.lc [("deed", 3)] (.var 3) (.name 3) (.of (.fld "deeds" (.var 0))) (.of (.cmp .le (.call 12 (.cons (.var 3) .nil)) (.var 1)))))
  (.cons (.ret (.lc [("room", 4)] (.ix (.ix (.call 13 (.cons (.var 2) (.cons (.var 4) .nil))) (.neg (.lit (.int 1)))) (.lit (.int 1))) (.name 4) (.rng1 (.fld "rooms" (.var 0))) .no)) .nil))⟩
/-! 39: steps -/
/-- 0=plans 1=begin 2=end 3=found 4=stop 5=plan 6=place 7=value 8=hour -/
def f_steps : FDef := ⟨3, 9,
  (.cons (.asg (.name 3) (.dic1 (.var 1) (.lit (.bl true))))
  (.cons (.asg (.name 4) (.ite (.isN (.var 2)) (.bin .add (.var 1) (.glo 0 (.int 168))) (.bi .min (.cons (.var 2) (.cons (.bin .add (.var 1) (.glo 0 (.int 168))) .nil)))))
  (.cons (.forr (.name 5) (.of (.var 0)) [5, 6, 7]
    (.cons (.forr (.tup (.cons (.name 6) (.cons (.name 7) .nil))) (.of (.var 5)) [6, 7]
      (.cons (.asg (.name 8) (.call 6 (.cons (.tup (.cons (.tup (.cons (.var 6) (.cons (.var 7) .nil))) .nil)) (.cons (.var 1) .nil))))
      (.cons (.ite (.cmp .lt (.var 8) (.var 4))
        (.cons (.setIx (.var 3) (.var 8) (.lit (.bl true))) .nil)
        .nil) .nil))) .nil))
  (.cons (.ret (.bi .sorted (.cons (.lcd [("hour", 8)] (.var 8) (.name 8) (.var 3) (.of (.cmp .lt (.var 8) (.var 4)))) .nil))) .nil))))⟩
/-! 40: house_plans -/
/-- 0=houses 1=hour 2=house 3=plan -/
def f_house_plans : FDef := ⟨2, 4,
  (.cons (.ret (.lc2 [("house", 2), ("plan", 3)] (.var 3) (.name 2) (.of (.var 0)) (.name 3) (.of (.call 38 (.cons (.var 2) (.cons (.var 1) .nil)))) .no)) .nil)⟩
/-! 41: first_hour -/
/-- 0=houses 1=hour 2=is_wanted 3=begin 4=end 5=one -/
def f_first_hour : FDef := ⟨3, 6,
  (.cons (.forr (.tup (.cons (.name 3) (.cons (.name 4) .nil))) (.of (.call 37 (.cons (.var 0) .nil))) [3, 4]
    (.cons (.ite (.or (.isN (.var 4)) (.cmp .gt (.var 4) (.var 1)))
      (.cons (.forr (.name 5) (.of (.call 39 (.cons (.call 40 (.cons (.var 0) (.cons (.var 3) .nil))) (.cons (.bi .max (.cons (.var 3) (.cons (.var 1) .nil))) (.cons (.var 4) .nil))))) [5]
        (.cons (.ite .bad
          (.cons (.ret (.var 5)) .nil)
          .nil) .nil)) .nil)
      .nil) .nil))
  (.cons (.ret (.lit .non)) .nil))⟩
/-! 42: next_change -/
/-- 0=house 1=room 2=hour 3=found 4=begin 5=end 6=first 7=some 8=one 9=changes -/
def f_next_change : FDef := ⟨3, 10,
  (.cons .bad
  (.cons (.asg (.name 3) (.lit .non))
  (.cons (.forr (.tup (.cons (.name 4) (.cons (.name 5) .nil))) (.of (.call 37 (.cons (.lst (.cons (.var 0) .nil)) .nil))) [4, 5]
    (.cons (.ite (.and (.isN (.var 3)) (.or (.isN (.var 5)) (.cmp .gt (.var 5) (.bin .add (.var 2) (.lit (.int 1))))))
      (.cons (.asg (.name 6) (.bi .max (.cons (.var 4) (.cons (.bin .add (.var 2) (.lit (.int 1))) .nil))))
      (.cons (.asg (.name 7) (.call 39 (.cons (.call 40 (.cons (.lst (.cons (.var 0) .nil)) (.cons (.var 4) .nil))) (.cons (.var 6) (.cons (.var 5) .nil)))))
      (.cons (.ite (.or (.isN (.var 5)) (.cmp .gt (.var 5) (.bin .add (.var 6) (.glo 0 (.int 168)))))
        (.cons (.asg (.name 7) (.bin .add (.var 7) (.lst (.cons (.bin .add (.var 6) (.glo 0 (.int 168))) .nil)))) .nil)
        .nil)
      (.cons (.asg (.name 7) (.lc [("one", 8)] (.var 8) (.name 8) (.of (.var 7)) (.of .bad)))
      (.cons (.asg (.name 3) (.ite (.of (.var 7)) (.ix (.var 7) (.lit (.int 0))) (.lit .non))) .nil)))))
      .nil) .nil))
  (.cons (.ret (.var 3)) .nil))))⟩
/-! 43: last_change -/
/-- 0=house 1=room 2=rows 3=begin 4=end 5=one 6=last -/
def f_last_change : FDef := ⟨2, 7,
  (.cons (.asg (.name 2) (.call 37 (.cons (.lst (.cons (.var 0) .nil)) .nil)))
  (.cons (.asg (.tup (.cons (.name 3) (.cons (.name 4) .nil))) (.ix (.var 2) (.neg (.lit (.int 1)))))
  (.cons (.ite (.of (.bi .any (.cons (.lc [("one", 5)] (.cmp .ne (.meth 0 32 (.var 0) (.cons (.var 1) (.cons (.var 5) .nil))) (.meth 0 32 (.var 0) (.cons (.var 1) (.cons (.bin .add (.var 5) (.lit (.int 1))) .nil)))) (.name 5) (.rng2 (.var 3) (.bin .add (.var 3) (.glo 0 (.int 168)))) .no) .nil)))
    (.cons (.ret (.lit (.str "never"))) .nil)
    .nil)
  (.cons (.forr (.tup (.cons (.name 3) (.cons (.name 4) .nil))) (.of (.slr (.var 2))) [6]
    (.cons (.asg (.name 6) (.ite (.isN (.var 4)) (.var 3) (.bin .sub (.var 4) (.lit (.int 1)))))
    (.cons (.forr (.name 5) (.rng3 (.var 6) (.bin .sub (.bi .max (.cons (.var 3) (.cons (.bin .sub (.var 6) (.glo 0 (.int 168))) .nil))) (.lit (.int 1))) (.neg (.lit (.int 1)))) []
      (.cons (.ite (.and (.cmp .gt (.var 5) (.lit (.int 0))) (.cmp .ne (.meth 0 32 (.var 0) (.cons (.var 1) (.cons (.var 5) .nil))) (.meth 0 32 (.var 0) (.cons (.var 1) (.cons (.bin .sub (.var 5) (.lit (.int 1))) .nil)))))
        (.cons (.ret (.var 5)) .nil)
        .nil) .nil))
    (.cons (.ite (.and (.cmp .gt (.var 3) (.lit (.int 0))) (.cmp .ne (.meth 0 32 (.var 0) (.cons (.var 1) (.cons (.var 3) .nil))) (.meth 0 32 (.var 0) (.cons (.var 1) (.cons (.bin .sub (.var 3) (.lit (.int 1))) .nil)))))
      (.cons (.ret (.var 3)) .nil)
      .nil) .nil))))
  (.cons (.ret (.lit .non)) .nil)))))⟩
/-! 44: count_in -/
/-- 0=house 1=room 2=value 3=begin 4=end 5=hours 6=one 7=two -/
def f_count_in : FDef := ⟨5, 8,
  (.cons (.asg (.name 5) (.bin .add (.call 39 (.cons (.call 38 (.cons (.var 0) (.cons (.var 3) .nil))) (.cons (.var 3) (.cons (.var 4) .nil)))) (.lst (.cons (.var 4) .nil))))
  (.cons (.ret (.bi .sum (.cons (.lc [("one", 6), ("two", 7)] (.bin .sub (.var 7) (.var 6)) (.tup (.cons (.name 6) (.cons (.name 7) .nil))) (.zip (.var 5) (.sl (.var 5) (.of (.lit (.int 1))) .no)) (.of (.cmp .eq (.meth 0 32 (.var 0) (.cons (.var 1) (.cons (.var 6) .nil))) (.var 2)))) .nil))) .nil))⟩
/-! 45: hours_of -/
/-- 0=house 1=room 2=value 3=begin 4=end 5=found 6=first 7=last 8=low 9=high 10=weeks 11=rest -/
def f_hours_of : FDef := ⟨5, 12,
  (.cons (.asg (.name 5) (.lit (.int 0)))
  (.cons (.forr (.tup (.cons (.name 6) (.cons (.name 7) .nil))) (.of (.call 37 (.cons (.lst (.cons (.var 0) .nil)) .nil))) [6, 7, 8, 9]
    (.cons (.asg (.name 8) (.bi .max (.cons (.var 6) (.cons (.var 3) .nil))))
    (.cons (.asg (.name 9) (.ite (.isN (.var 7)) (.var 4) (.bi .min (.cons (.var 7) (.cons (.var 4) .nil)))))
    (.cons (.ite (.cmp .lt (.var 8) (.var 9))
      (.cons (.par 10 11 (.bin .fdiv (.bin .sub (.var 9) (.var 8)) (.glo 0 (.int 168))) (.bin .mod (.bin .sub (.var 9) (.var 8)) (.glo 0 (.int 168))))
      (.cons (.ite (.of (.var 10))
        (.cons (.aug 5 .add (.bin .mul (.var 10) (.call 44 (.cons (.var 0) (.cons (.var 1) (.cons (.var 2) (.cons (.var 8) (.cons (.bin .add (.var 8) (.glo 0 (.int 168))) .nil)))))))) .nil)
        .nil)
      (.cons (.ite (.of (.var 11))
        (.cons (.aug 5 .add (.call 44 (.cons (.var 0) (.cons (.var 1) (.cons (.var 2) (.cons (.bin .sub (.var 9) (.var 11)) (.cons (.var 9) .nil))))))) .nil)
        .nil) .nil)))
      .nil) .nil))))
  (.cons (.ret (.var 5)) .nil)))⟩
/-! 46: unlike_room -/
/-- 0=one 1=two 2=hour 3=room -/
def f_unlike_room : FDef := ⟨3, 4,
  (.cons (.forr (.name 3) (.rng1 (.fld "rooms" (.var 0))) [3]
    (.cons (.ite (.cmp .ne (.meth 0 32 (.var 0) (.cons (.var 3) (.cons (.var 2) .nil))) (.meth 0 32 (.var 1) (.cons (.var 3) (.cons (.var 2) .nil))))
      (.cons (.ret (.var 3)) .nil)
      .nil) .nil))
  (.cons (.ret (.lit .non)) .nil))⟩
/-! 47: parting -/
/-- 0=one 1=two 2=hour 3=found -/
def f_parting : FDef := ⟨3, 4,
  (.cons (.ite (.cmp .ne (.fld "rooms" (.var 0)) (.fld "rooms" (.var 1)))
    (.cons (.raise 12 none .no) .nil)
    .nil)
  (.cons (.asg (.name 3) (.call 41 (.cons (.lst (.cons (.var 0) (.cons (.var 1) .nil))) (.cons (.var 2) (.cons .bad .nil)))))
  (.cons (.ret (.ite (.isN (.var 3)) (.lit .non) (.tup (.cons (.var 3) (.cons (.call 46 (.cons (.var 0) (.cons (.var 1) (.cons (.var 3) .nil)))) .nil))))) .nil)))⟩
/-! 48: alike -/
/-- 0=one 1=two -/
def f_alike : FDef := ⟨2, 2,
  (.cons (.ret (.isN (.call 47 (.cons (.var 0) (.cons (.var 1) (.cons (.lit (.int 0)) .nil)))))) .nil)⟩
/-! 49: week_of -/
/-- 0=house 1=room 2=begin 3=end 4=monday 5=hours 6=rows 7=hour -/
def f_week_of : FDef := ⟨2, 8,
  (.cons (.asg (.tup (.cons (.name 2) (.cons (.name 3) .nil))) (.ix (.call 37 (.cons (.lst (.cons (.var 0) .nil)) .nil)) (.neg (.lit (.int 1)))))
  (.cons (.asg (.name 4) (.bin .add (.var 2) (.bin .mod (.bin .sub (.glo 0 (.int 168)) (.var 2)) (.glo 0 (.int 168)))))
  (.cons (.asg (.name 5) (.call 39 (.cons (.call 38 (.cons (.var 0) (.cons (.var 4) .nil))) (.cons (.var 4) (.cons (.lit .non) .nil)))))
  (.cons (.asg (.name 6) (.lc [("hour", 7)] (.tup (.cons (.bin .sub (.var 7) (.var 4)) (.cons (.meth 0 32 (.var 0) (.cons (.var 1) (.cons (.var 7) .nil))) .nil))) (.name 7) (.of (.var 5)) .no))
  (.cons (.ite (.isN (.ix (.ix (.var 6) (.lit (.int 0))) (.lit (.int 1))))
    (.cons (.ret (.tup .nil)) .nil)
    .nil)
  (.cons (.ret (.call 7 (.cons (.call 50 (.cons (.var 6) .nil)) .nil))) .nil))))))⟩
/-! 50: shortened -/
/-- 0=rows 1=found 2=row -/
def f_shortened : FDef := ⟨1, 3,
  (.cons (.asg (.name 1) (.sl (.var 0) .no (.of (.lit (.int 1)))))
  (.cons (.forr (.name 2) (.of (.sl (.var 0) (.of (.lit (.int 1))) .no)) [2]
    (.cons (.ite (.cmp .ne (.ix (.var 2) (.lit (.int 1))) (.ix (.ix (.var 1) (.neg (.lit (.int 1)))) (.lit (.int 1))))
      (.cons (.expr (.bm .append (.var 1) (.cons (.var 2) .nil))) .nil)
      .nil) .nil))
  (.cons (.ite (.and (.cmp .gt (.bi .len (.cons (.var 1) .nil)) (.lit (.int 1))) (.cmp .eq (.ix (.ix (.var 1) (.lit (.int 0))) (.lit (.int 1))) (.ix (.ix (.var 1) (.neg (.lit (.int 1)))) (.lit (.int 1)))))
    (.cons (.asg (.name 1) (.sl (.var 1) (.of (.lit (.int 1))) .no)) .nil)
    .nil)
  (.cons (.ret (.bi .tuple (.cons (.var 1) .nil))) .nil))))⟩
/-! 51: settled -/
/-- 0=house 1=room 2=plan 3=begin 4=end 5=last 6=one -/
def f_settled : FDef := ⟨2, 7,
  (.cons (.asg (.name 2) (.call 49 (.cons (.var 0) (.cons (.var 1) .nil))))
  (.cons (.forr (.tup (.cons (.name 3) (.cons (.name 4) .nil))) (.of (.slr (.call 37 (.cons (.lst (.cons (.var 0) .nil)) .nil)))) [3, 4, 5, 6]
    (.cons (.asg (.name 5) (.ite (.isN (.var 4)) (.bin .sub (.var 3) (.lit (.int 1))) (.bin .sub (.var 4) (.lit (.int 1)))))
    (.cons (.forr (.name 6) (.rng3 (.var 5) (.bin .sub (.bi .max (.cons (.var 3) (.cons (.bin .add (.bin .sub (.var 5) (.glo 0 (.int 168))) (.lit (.int 1))) .nil))) (.lit (.int 1))) (.neg (.lit (.int 1)))) [6]
      (.cons (.ite (.cmp .ne (.meth 0 32 (.var 0) (.cons (.var 1) (.cons (.var 6) .nil))) (.call 5 (.cons (.var 2) (.cons (.var 6) .nil))))
        (.cons (.ret (.bin .add (.var 6) (.lit (.int 1)))) .nil)
        .nil) .nil)) .nil)))
  (.cons (.ret (.lit (.int 0))) .nil)))⟩
/-! 52: without -/
/-- 0=house 1=index 2=made -/
def f_without : FDef := ⟨2, 3,
  (.cons (.asg (.name 2) (.lit .non))
  (.cons (.tryx
    (.cons (.asg (.name 2) (.call 35 (.cons (.fld "rooms" (.var 0)) (.cons (.fld "order" (.var 0)) (.cons (.bin .add (.sl (.fld "deeds" (.var 0)) .no (.of (.var 1))) (.sl (.fld "deeds" (.var 0)) (.of (.bin .add (.var 1) (.lit (.int 1)))) .no)) .nil))))) .nil)
    [(0, [.lit 2 .non])])
  (.cons (.ret (.var 2)) .nil)))⟩
/-! 53: needless -/
/-- 0=house 1=found 2=index 3=other -/
def f_needless : FDef := ⟨1, 4,
  (.cons (.asg (.name 1) (.lst .nil))
  (.cons (.forr (.name 2) (.rng1 (.bi .len (.cons (.fld "deeds" (.var 0)) .nil))) [2, 3]
    (.cons (.asg (.name 3) (.call 52 (.cons (.var 0) (.cons (.var 2) .nil))))
    (.cons (.ite (.and (.notN (.var 3)) (.of (.call 48 (.cons (.var 0) (.cons (.var 3) .nil)))))
      (.cons (.expr (.bm .append (.var 1) (.cons (.var 2) .nil))) .nil)
      .nil) .nil)))
  (.cons (.ret (.var 1)) .nil)))⟩
/-! 54: whole_deed -/
/-- 0=deed -/
def f_whole_deed : FDef := ⟨1, 1,
  (.cons (.ite (.cmp .inn (.ix (.var 0) (.lit (.int 0))) (.tup (.cons (.lit (.str "turn")) (.cons (.lit (.str "back")) .nil))))
    (.cons (.ret (.bin .add (.tup (.cons (.ix (.var 0) (.lit (.int 0))) (.cons (.lit (.int 0)) .nil))) (.sl (.var 0) (.of (.lit (.int 1))) .no))) .nil)
    .nil)
  (.cons (.ret (.var 0)) .nil))⟩
/-! 55: is_near -/
/-- 0=value 1=one -/
def f_is_near : FDef := ⟨1, 2,
  (.cons (.ite (.of (.isi "tuple" (.var 0)))
    (.cons (.ret (.bi .all (.cons (.lc [("one", 1)] (.call 55 (.cons (.var 1) .nil)) (.name 1) (.of (.var 0)) .no) .nil))) .nil)
    .nil)
  (.cons (.ret (.or (.nt (.isi "int" (.var 0))) (.cmp .le (.var 0) (.glo 5 (.int 400))))) .nil))⟩
/-! 56: is_deed -/
/-- 0=value -/
def f_is_deed : FDef := ⟨1, 1,
  (.cons (.ite (.or (.nt (.of (.isi "tuple" (.var 0)))) (.or (.nt (.of (.var 0))) (.or (.nt (.of (.isi "str" (.ix (.var 0) (.lit (.int 0)))))) (.ginD true (.ix (.var 0) (.lit (.int 0))) 7 [("turn", .int 4), ("back", .int 2), ("away", .int 5), ("home", .int 2)]))))
    (.cons (.ret (.lit (.bl false))) .nil)
    .nil)
  (.cons (.ret (.and (.cmp .eq (.bi .len (.cons (.var 0) .nil)) (.gixD 7 [("turn", .int 4), ("back", .int 2), ("away", .int 5), ("home", .int 2)] (.ix (.var 0) (.lit (.int 0))))) (.and (.call 55 (.cons (.var 0) .nil)) (.call 1 (.cons (.ix (.var 0) (.neg (.lit (.int 1)))) (.cons (.lit (.int 0)) (.cons (.glo 5 (.int 400)) .nil))))))) .nil))⟩
/-! 57: can_be_done -/
/-- 0=house 1=deed 2=good -/
def f_can_be_done : FDef := ⟨2, 3,
  (.cons (.asg (.name 2) (.lit (.bl true)))
  (.cons (.tryx
    (.cons (.expr (.call 34 (.cons (.var 0) (.cons (.call 54 (.cons (.var 1) .nil)) .nil)))) .nil)
    [(0, [.lit 2 (.bl false)])])
  (.cons (.ret (.var 2)) .nil)))⟩
/-! 58: Row_init -/
/-- 0=self 1=deeds 2=house 3=index 4=deed -/
def f_Row_init : FDef := ⟨2, 5,
  (.cons (.ite (.cmp .gt (.bi .len (.cons (.var 1) .nil)) (.glo 4 (.int 4)))
    (.cons (.raise 13 (some 0) (.of (.glo 4 (.int 4)))) .nil)
    .nil)
  (.cons (.asg (.name 2) (.make 0 19 (.cons (.lit (.int 1)) (.cons (.lit (.str "newest")) .nil))))
  (.cons (.forr (.tup (.cons (.name 3) (.cons (.name 4) .nil))) (.enum (.var 1)) [3, 4]
    (.cons (.ite (.or (.nt (.of (.call 56 (.cons (.var 4) .nil)))) (.nt (.of (.call 57 (.cons (.var 2) (.cons (.var 4) .nil))))))
      (.cons (.raise 13 (some 0) (.of (.var 3))) .nil)
      .nil) .nil))
  (.cons (.setFld "deeds" (.var 0) (.bi .tuple (.cons (.var 1) .nil))) .nil))))⟩
/-! 59: made_house -/
/-- 0=order 1=plan 2=deeds 3=house 4=deed -/
def f_made_house : FDef := ⟨3, 5,
  (.cons (.asg (.name 3) (.make 0 19 (.cons (.lit (.int 1)) (.cons (.var 0) .nil))))
  (.cons (.expr (.meth 0 23 (.var 3) (.cons (.lit (.int 0)) (.cons (.var 1) (.cons (.lit (.int 0)) .nil)))))
  (.cons (.forr (.name 4) (.of (.var 2)) [4]
    (.cons (.expr (.call 34 (.cons (.var 3) (.cons (.call 54 (.cons (.var 4) .nil)) .nil)))) .nil))
  (.cons (.ret (.var 3)) .nil))))⟩
/-! 60: near_hours -/
/-- 0=rows 1=found 2=deeds 3=hour -/
def f_near_hours : FDef := ⟨1, 4,
  (.cons (.asg (.name 1) (.dic1 (.lit (.int 0)) (.lit (.bl true))))
  (.cons (.forr (.name 2) (.of (.var 0)) [2, 3]
    (.cons (.forr (.name 3) (.of (.call 36 (.cons (.call 59 (.cons (.lit (.str "newest")) (.cons (.tup .nil) (.cons (.var 2) .nil)))) .nil))) [3]
      (.cons (.setIx (.var 1) (.var 3) (.lit (.bl true)))
      (.cons (.setIx (.var 1) (.bin .add (.var 3) (.lit (.int 1))) (.lit (.bl true))) .nil))) .nil))
  (.cons (.ret (.bi .sorted (.cons (.var 1) .nil))) .nil)))⟩
/-! 61: values_in -/
/-- 0=rows 1=found 2=deeds 3=deed -/
def f_values_in : FDef := ⟨1, 4,
  (.cons (.asg (.name 1) (.lc2 [("deeds", 2), ("deed", 3)] (.ix (.var 3) (.lit (.int 1))) (.name 2) (.of (.var 0)) (.name 3) (.of (.var 2)) (.of (.cmp .eq (.ix (.var 3) (.lit (.int 0))) (.lit (.str "turn"))))))
  (.cons (.ret (.bin .add (.var 1) (.lc2 [("deeds", 2), ("deed", 3)] (.ix (.var 3) (.lit (.int 3))) (.name 2) (.of (.var 0)) (.name 3) (.of (.var 2)) (.of (.cmp .eq (.ix (.var 3) (.lit (.int 0))) (.lit (.str "away"))))))) .nil))⟩
/-! 62: trial_plans -/
/-- 0=rows 1=used 2=free 3=value 4=places 5=hour 6=place -/
def f_trial_plans : FDef := ⟨1, 7,
  (.cons (.asg (.name 1) (.call 61 (.cons (.var 0) .nil)))
  (.cons (.asg (.name 2) (.ix (.lc [("value", 3)] (.var 3) (.name 3) (.rng1 (.lit (.int 10))) (.of (.cmp .nin (.var 3) (.var 1)))) (.lit (.int 0))))
  (.cons (.asg (.name 4) .dic0)
  (.cons (.forr (.name 5) (.of (.call 60 (.cons (.var 0) .nil))) [5]
    (.cons (.setIx (.var 4) (.bin .mod (.var 5) (.glo 0 (.int 168))) (.lit (.bl true)))
    (.cons (.setIx (.var 4) (.bin .mod (.bin .add (.var 5) (.lit (.int 1))) (.glo 0 (.int 168))) (.lit (.bl true))) .nil)))
  (.cons (.ret (.bin .add (.lst (.cons (.tup .nil) .nil)) (.lc [("place", 6)] (.tup (.cons (.tup (.cons (.var 6) (.cons (.var 2) .nil))) .nil)) (.name 6) (.of (.bi .sorted (.cons (.var 4) .nil))) .no))) .nil)))))⟩
/-! 63: parted_by -/
/-- 0=order 1=one 2=two 3=pairs 4=plan 5=hour 6=first 7=second -/
def f_parted_by : FDef := ⟨3, 8,
  (.cons (.asg (.name 3) (.lc [("plan", 4)] (.tup (.cons (.call 59 (.cons (.var 0) (.cons (.var 4) (.cons (.var 1) .nil)))) (.cons (.call 59 (.cons (.var 0) (.cons (.var 4) (.cons (.var 2) .nil)))) (.cons (.var 4) .nil)))) (.name 4) (.of (.call 62 (.cons (.lst (.cons (.var 1) (.cons (.var 2) .nil))) .nil))) .no))
  (.cons (.forr (.name 5) (.of (.call 60 (.cons (.lst (.cons (.var 1) (.cons (.var 2) .nil))) .nil))) [5, 6, 7]
    (.cons (.forr (.tup (.cons (.name 6) (.cons (.name 7) (.cons (.name 4) .nil)))) (.of (.var 3)) [6, 7]
      (.cons (.ite (.cmp .ne (.meth 0 32 (.var 6) (.cons (.lit (.int 0)) (.cons (.var 5) .nil))) (.meth 0 32 (.var 7) (.cons (.lit (.int 0)) (.cons (.var 5) .nil))))
        (.cons (.ret (.tup (.cons (.var 5) (.cons (.var 4) .nil)))) .nil)
        .nil) .nil)) .nil))
  (.cons (.ret (.lit .non)) .nil)))⟩
/-! 64: parted -/
/-- 0=order 1=one 2=two -/
def f_parted : FDef := ⟨3, 3,
  (.cons (.expr (.call 8 (.cons (.var 0) .nil)))
  (.cons (.ret (.call 63 (.cons (.var 0) (.cons (.fld "deeds" (.var 1)) (.cons (.fld "deeds" (.var 2)) .nil))))) .nil))⟩
/-! 65: spare -/
/-- 0=order 1=row 2=deeds 3=at -/
def f_spare : FDef := ⟨2, 4,
  (.cons (.expr (.call 8 (.cons (.var 0) .nil)))
  (.cons (.asg (.name 2) (.fld "deeds" (.var 1)))
  (.cons (.ret (.lc [("at", 3)] (.var 3) (.name 3) (.rng1 (.bi .len (.cons (.var 2) .nil))) (.of (.isN (.call 63 (.cons (.var 0) (.cons (.var 2) (.cons (.bin .add (.sl (.var 2) .no (.of (.var 3))) (.sl (.var 2) (.of (.bin .add (.var 3) (.lit (.int 1)))) .no)) .nil)))))))) .nil)))⟩
/-! 66: swaps -/
/-- 0=order 1=row 2=deeds 3=found 4=at 5=other -/
def f_swaps : FDef := ⟨2, 6,
  (.cons (.expr (.call 8 (.cons (.var 0) .nil)))
  (.cons (.asg (.name 2) (.fld "deeds" (.var 1)))
  (.cons (.asg (.name 3) (.lst .nil))
  (.cons (.forr (.name 4) (.rng1 (.bin .sub (.bi .len (.cons (.var 2) .nil)) (.lit (.int 1)))) [4]
    (.cons (.ite (.cmp .eq (.call 12 (.cons (.ix (.var 2) (.var 4)) .nil)) (.call 12 (.cons (.ix (.var 2) (.bin .add (.var 4) (.lit (.int 1)))) .nil)))
      (.cons (.asg (.name 5) (.bin .add (.bin .add (.sl (.var 2) .no (.of (.var 4))) (.tup (.cons (.ix (.var 2) (.bin .add (.var 4) (.lit (.int 1)))) (.cons (.ix (.var 2) (.var 4)) .nil)))) (.sl (.var 2) (.of (.bin .add (.var 4) (.lit (.int 2)))) .no)))
      (.cons (.ite (.isN (.call 63 (.cons (.var 0) (.cons (.var 2) (.cons (.var 5) .nil)))))
        (.cons (.expr (.bm .append (.var 3) (.cons (.var 4) .nil))) .nil)
        .nil) .nil))
      .nil) .nil))
  (.cons (.ret (.var 3)) .nil)))))⟩
/-! 67: plan_text -/
/-- 0=plan 1=place 2=value -/
def f_plan_text : FDef := ⟨1, 3,
  (.cons (.ret (.ite (.of (.var 0)) (.bm .join (.lit (.str ",")) (.cons (.lc [("place", 1), ("value", 2)] (.fstr (.cons (.var 1) (.cons (.lit (.str "=")) (.cons (.var 2) .nil)))) (.tup (.cons (.name 1) (.cons (.name 2) .nil))) (.of (.var 0)) .no) .nil)) (.lit (.str "-")))) .nil)⟩
/-! 68: part_text -/
/-- 0=part 1=form 2=one -/
def f_part_text : FDef := ⟨2, 3,
  (.cons (.ite (.cmp .eq (.var 1) (.lit (.str "p")))
    (.cons (.ret (.call 67 (.cons (.var 0) .nil))) .nil)
    .nil)
  (.cons (.ite (.cmp .eq (.var 1) (.lit (.str "u")))
    (.cons (.ret (.bm .join (.lit (.str " ")) (.cons (.lc [("one", 2)] (.bi .str (.cons (.var 2) .nil)) (.name 2) (.of (.var 0)) .no) .nil))) .nil)
    .nil)
  (.cons (.ret (.ite (.isN (.var 0)) (.lit (.str "-")) (.bi .str (.cons (.var 0) .nil)))) .nil)))⟩
/-! 69: deed_line -/
/-- 0=deed 1=part 2=form -/
def f_deed_line : FDef := ⟨1, 3,
  (.cons (.ret (.bm .join (.lit (.str " ")) (.cons (.bin .add (.lst (.cons (.ix (.var 0) (.lit (.int 0))) .nil)) (.lc [("part", 1), ("form", 2)] (.call 68 (.cons (.var 1) (.cons (.var 2) .nil))) (.tup (.cons (.name 1) (.cons (.name 2) .nil))) (.zip (.sl (.var 0) (.of (.lit (.int 1))) .no) (.gixD 8 [("plan", .str "nph"), ("turn", .str "nnuh"), ("back", .str "nh"), ("away", .str "nonh"), ("home", .str "h"), ("follow", .str "nonh")] (.ix (.var 0) (.lit (.int 0))))) .no)) .nil))) .nil)⟩
/-! 70: write -/
/-- 0=house 1=deed -/
def f_write : FDef := ⟨1, 2,
  (.cons (.ret (.bm .join (.lit (.str "\n")) (.cons (.bin .add (.lst (.cons (.fstr (.cons (.lit (.str "house ")) (.cons (.fld "rooms" (.var 0)) (.cons (.lit (.str " ")) (.cons (.fld "order" (.var 0)) .nil))))) .nil)) (.lc [("deed", 1)] (.call 69 (.cons (.var 1) .nil)) (.name 1) (.of (.fld "deeds" (.var 0))) .no)) .nil))) .nil)⟩
/-! 71: BadLine_init -/
/-- 0=self 1=line -/
def f_BadLine_init : FDef := ⟨2, 2,
  (.cons (.setFld "line" (.var 0) (.var 1)) .nil)⟩
/-! 72: House_undo_2 -/
/-- 0=self -/
def f_House_undo_2 : FDef := ⟨1, 1,
  (.cons (.ite (.nt (.of (.fld "deeds" (.var 0))))
    (.cons (.raise 11 none .no) .nil)
    .nil)
  (.cons (.expr (.bm .pop (.fld "deeds" (.var 0)) .nil)) .nil))⟩
/-! 73: House_log_2 -/
/-- 0=self -/
def f_House_log_2 : FDef := ⟨1, 1,
  (.cons (.expr .bad) .nil)⟩
/-! 74: House_shown_2 -/
/-- 0=self 1=room 2=hour -/
def f_House_shown_2 : FDef := ⟨3, 3,
  (.cons (.expr .bad) .nil)⟩
/-! 75: number_of -/
/-- 0=word 1=figures 2=sign -/
def f_number_of : FDef := ⟨1, 3,
  (.cons (.asg (.name 1) (.ite (.cmp .eq (.sl (.var 0) .no (.of (.lit (.int 1)))) (.lit (.str "-"))) (.sl (.var 0) (.of (.lit (.int 1))) .no) (.var 0)))
  (.cons (.ite (.or (.nt (.chain .le .le (.lit (.int 1)) (.bi .len (.cons (.var 1) .nil)) (.lit (.int 12)))) (.nt (.of (.bi .all (.cons (.lc [("sign", 2)] (.cmp .inn (.var 2) (.glo 6 (.str "0123456789"))) (.name 2) (.of (.var 1)) .no) .nil)))))
    (.cons (.ret (.lit .non)) .nil)
    .nil)
  (.cons (.ret (.ite (.cmp .eq (.bi .str (.cons (.bi .int (.cons (.var 0) .nil)) .nil)) (.var 0)) (.bi .int (.cons (.var 0) .nil)) (.lit .non))) .nil)))⟩
/-! 76: plan_of -/
/-- 0=word 1=found 2=part 3=words 4=one -/
def f_plan_of : FDef := ⟨1, 5,
  (.cons (.ite (.cmp .eq (.var 0) (.lit (.str "-")))
    (.cons (.ret (.tup .nil)) .nil)
    .nil)
  (.cons (.asg (.name 1) (.lst .nil))
  (.cons (.forr (.name 2) (.of (.bm .split (.var 0) (.cons (.lit (.str ",")) .nil))) [2, 3]
    (.cons (.asg (.name 3) (.lc [("one", 4)] (.call 75 (.cons (.var 4) .nil)) (.name 4) (.of (.bm .split (.var 2) (.cons (.lit (.str "=")) .nil))) .no))
    (.cons (.ite (.cmp .inn (.lit .non) (.var 3))
      (.cons (.ret (.lit .non)) .nil)
      .nil)
    (.cons (.expr (.bm .append (.var 1) (.cons (.bi .tuple (.cons (.var 3) .nil)) .nil))) .nil))))
  (.cons (.ret (.bi .tuple (.cons (.var 1) .nil))) .nil))))⟩
/-! 77: until_of -/
/-- 0=words 1=word -/
def f_until_of : FDef := ⟨1, 2,
  (.cons (.ret (.bin .add (.tup (.cons (.ix (.var 0) (.lit (.int 0))) .nil)) (.bi .tuple (.cons (.lc [("word", 1)] (.call 75 (.cons (.var 1) .nil)) (.name 1) (.of (.sl (.var 0) (.of (.lit (.int 1))) .no)) .no) .nil)))) .nil)⟩
/-! 78: deed_of -/
/-- 0=words 1=form 2=found 3=word 4=sign 5=number -/
def f_deed_of : FDef := ⟨1, 6,
  (.cons (.ite (.ginD true (.ix (.var 0) (.lit (.int 0))) 8 [("plan", .str "nph"), ("turn", .str "nnuh"), ("back", .str "nh"), ("away", .str "nonh"), ("home", .str "h"), ("follow", .str "nonh")])
    (.cons (.ret (.lit .non)) .nil)
    .nil)
  (.cons (.asg (.name 1) (.gixD 8 [("plan", .str "nph"), ("turn", .str "nnuh"), ("back", .str "nh"), ("away", .str "nonh"), ("home", .str "h"), ("follow", .str "nonh")] (.ix (.var 0) (.lit (.int 0)))))
  (.cons (.ite (.and (.cmp .eq (.ix (.var 0) (.lit (.int 0))) (.lit (.str "turn"))) (.and (.cmp .gt (.bi .len (.cons (.var 0) .nil)) (.lit (.int 3))) (.cmp .eq (.ix (.var 0) (.lit (.int 3))) (.lit (.str "till")))))
    (.cons (.asg (.name 0) (.bin .add (.bin .add (.sl (.var 0) .no (.of (.lit (.int 3)))) (.lst (.cons (.bm .join (.lit (.str " ")) (.cons (.sl (.var 0) (.of (.lit (.int 3))) (.of (.lit (.int 5)))) .nil)) .nil))) (.sl (.var 0) (.of (.lit (.int 5))) .no))) .nil)
    .nil)
  (.cons (.ite (.cmp .ne (.bi .len (.cons (.var 0) .nil)) (.bin .add (.bi .len (.cons (.var 1) .nil)) (.lit (.int 1))))
    (.cons (.ret (.lit .non)) .nil)
    .nil)
  (.cons (.asg (.name 2) (.lst (.cons (.ix (.var 0) (.lit (.int 0))) .nil)))
  (.cons (.forr (.tup (.cons (.name 3) (.cons (.name 4) .nil))) (.zip (.sl (.var 0) (.of (.lit (.int 1))) .no) (.var 1)) [3, 4]
    (.cons (.ite (.cmp .eq (.var 4) (.lit (.str "p")))
      (.cons (.expr (.bm .append (.var 2) (.cons (.call 76 (.cons (.var 3) .nil)) .nil))) .nil)
      (.cons (.ite (.cmp .eq (.var 4) (.lit (.str "u")))
        (.cons (.expr (.bm .append (.var 2) (.cons (.call 77 (.cons (.bm .split (.var 3) (.cons (.lit (.str " ")) .nil)) .nil)) .nil))) .nil)
        (.cons (.ite (.and (.cmp .eq (.var 4) (.lit (.str "o"))) (.cmp .eq (.var 3) (.lit (.str "-"))))
          (.cons (.expr (.bm .append (.var 2) (.cons (.lit .non) .nil))) .nil)
          (.cons (.asg (.name 5) (.call 75 (.cons (.var 3) .nil)))
          (.cons (.ite (.isN (.var 5))
            (.cons (.ret (.lit .non)) .nil)
            .nil)
          (.cons (.expr (.bm .append (.var 2) (.cons (.var 5) .nil))) .nil)))) .nil)) .nil)) .nil))
  (.cons (.ret (.bi .tuple (.cons (.var 2) .nil))) .nil)))))))⟩
/-! 79: read_house -/
/-- 0=line 1=words 2=number 3=made -/
def f_read_house : FDef := ⟨1, 4,
  (.cons (.asg (.name 1) (.bm .split (.var 0) (.cons (.lit (.str " ")) .nil)))
  (.cons (.asg (.name 2) (.ite (.cmp .eq (.bi .len (.cons (.var 1) .nil)) (.lit (.int 3))) (.call 75 (.cons (.ix (.var 1) (.lit (.int 1))) .nil)) (.lit .non)))
  (.cons (.asg (.name 3) (.lit .non))
  (.cons (.ite (.and (.notN (.var 2)) (.cmp .eq (.ix (.var 1) (.lit (.int 0))) (.lit (.str "house"))))
    (.cons (.tryx
      (.cons (.asg (.name 3) (.make 0 19 (.cons (.var 2) (.cons (.ix (.var 1) (.lit (.int 2))) .nil)))) .nil)
      [(0, [.lit 3 .non])]) .nil)
    .nil)
  (.cons (.ite (.isN (.var 3))
    (.cons (.raise 14 (some 71) (.of (.lit (.int 1)))) .nil)
    .nil)
  (.cons (.ret (.var 3)) .nil))))))⟩
/-! 80: is_done -/
/-- 0=house 1=line 2=deed 3=good -/
def f_is_done : FDef := ⟨2, 4,
  (.cons (.asg (.name 2) (.call 78 (.cons (.bm .split (.var 1) (.cons (.lit (.str " ")) .nil)) .nil)))
  (.cons (.ite (.isN (.var 2))
    (.cons (.ret (.lit (.bl false))) .nil)
    .nil)
  (.cons (.asg (.name 3) (.lit (.bl true)))
  (.cons (.tryx
    (.cons (.expr (.call 34 (.cons (.var 0) (.cons (.var 2) .nil)))) .nil)
    [(0, [.lit 3 (.bl false)])])
  (.cons (.ret (.var 3)) .nil)))))⟩
/-! 81: read -/
/-- 0=text 1=lines 2=house 3=at 4=line -/
def f_read : FDef := ⟨1, 5,
  (.cons (.asg (.name 1) (.bm .split (.var 0) (.cons (.lit (.str "\n")) .nil)))
  (.cons (.asg (.name 2) (.call 79 (.cons (.ix (.var 1) (.lit (.int 0))) .nil)))
  (.cons (.forr (.tup (.cons (.name 3) (.cons (.name 4) .nil))) (.enum (.sl (.var 1) (.of (.lit (.int 1))) .no)) [3, 4]
    (.cons (.ite (.nt (.of (.call 80 (.cons (.var 2) (.cons (.var 4) .nil)))))
      (.cons (.raise 14 (some 71) (.of (.bin .add (.var 3) (.lit (.int 2))))) .nil)
      .nil) .nil))
  (.cons (.ret (.var 2)) .nil))))⟩
/-! 82: House_log_3 -/
/-- 0=self -/
def f_House_log_3 : FDef := ⟨1, 1,
  (.cons (.expr .bad) .nil)⟩
/-! 83: House_shown_3 -/
/-- 0=self 1=room 2=hour -/
def f_House_shown_3 : FDef := ⟨3, 3,
  (.cons (.expr .bad) .nil)⟩
/-! 84: same_for_all -/
/-- 0=order 1=one 2=two -/
def f_same_for_all : FDef := ⟨3, 3,
  (.cons (.ret (.isN (.call 64 (.cons (.var 0) (.cons (.var 1) (.cons (.var 2) .nil)))))) .nil)⟩
/-! 85: meeting -/
/-- 0=house 1=room 2=other 3=hour -/
def f_meeting : FDef := ⟨4, 4,
  (.cons (.ret (.call 41 (.cons (.lst (.cons (.var 0) .nil)) (.cons (.var 3) (.cons .bad .nil))))) .nil)⟩
/-! 86: House_value_at_2 -/
/-- 0=self 1=room 2=hour -/
def f_House_value_at_2 : FDef := ⟨3, 3,
  (.cons (.expr .bad) .nil)⟩
/-! 87: house_of -/
/-- 0=order 1=plan 2=row -/
def f_house_of : FDef := ⟨3, 3,
  (.cons (.expr (.call 8 (.cons (.var 0) .nil)))
  (.cons (.expr (.call 4 (.cons (.var 1) .nil)))
  (.cons (.ret (.call 59 (.cons (.var 0) (.cons (.var 1) (.cons (.fld "deeds" (.var 2)) .nil))))) .nil)))⟩
/-! 88: House_value_at_3 -/
/-- 0=self 1=room 2=hour -/
def f_House_value_at_3 : FDef := ⟨3, 3,
  (.cons (.expr .bad) .nil)⟩
/-! 89: House_shown_4 -/
/-- 0=self 1=room 2=hour -/
def f_House_shown_4 : FDef := ⟨3, 3,
  (.cons (.expr .bad) .nil)⟩
/-! 90: law_begin -/
/-- 0=_law_script -/
def f_law_begin : FDef := ⟨1, 1,
  (.cons (.ret (.lst (.cons (.bi .list (.cons (.var 0) .nil)) (.cons (.lit (.int 0)) (.cons (.lit (.int 0)) (.cons (.lit (.int 7)) .nil)))))) .nil)⟩
/-! 91: law_draw -/
/-- 0=_law_draws 1=_law_many 2=_law_cell 3=_law_found -/
def f_law_draw : FDef := ⟨2, 4,
  (.cons (.ite (.cmp .eq (.ix (.var 0) (.lit (.int 2))) (.lit (.int 0)))
    (.cons (.ite (.cmp .lt (.ix (.var 0) (.lit (.int 1))) (.bi .len (.cons (.ix (.var 0) (.lit (.int 0))) .nil)))
      (.cons (.asg (.name 2) (.ix (.ix (.var 0) (.lit (.int 0))) (.ix (.var 0) (.lit (.int 1)))))
      (.cons (.setIx (.var 0) (.lit (.int 1)) (.bin .add (.ix (.var 0) (.lit (.int 1))) (.lit (.int 1))))
      (.cons (.ite (.cmp .ge (.var 2) (.bin .pow (.lit (.int 10)) (.lit (.int 18))))
        (.cons (.setIx (.var 0) (.lit (.int 2)) (.var 2)) .nil)
        (.cons (.setIx (.var 0) (.lit (.int 3)) (.bin .mod (.bi .int (.cons (.bin .add (.bin .add (.bin .mul (.ix (.var 0) (.lit (.int 3))) (.lit (.int 48271))) (.bin .mul (.var 2) (.lit (.int 69621)))) (.lit (.int 11))) .nil)) (.lit (.int 2147483647)))) .nil)) .nil)))
      (.cons (.setIx (.var 0) (.lit (.int 3)) (.bin .mod (.bi .int (.cons (.bin .add (.bin .mul (.ix (.var 0) (.lit (.int 3))) (.lit (.int 48271))) (.lit (.int 7))) .nil)) (.lit (.int 2147483647)))) .nil)) .nil)
    .nil)
  (.cons (.ite (.cmp .gt (.ix (.var 0) (.lit (.int 2))) (.lit (.int 0)))
    (.cons (.asg (.name 3) (.bin .mod (.bi .int (.cons (.ix (.var 0) (.lit (.int 2))) .nil)) (.var 1)))
    (.cons (.setIx (.var 0) (.lit (.int 2)) (.bin .fdiv (.ix (.var 0) (.lit (.int 2))) (.var 1)))
    (.cons (.ret (.var 3)) .nil)))
    .nil)
  (.cons (.ret (.bin .mod (.bin .mod (.bi .int (.cons (.bin .mul (.ix (.var 0) (.lit (.int 3))) (.lit (.int 16807))) .nil)) (.lit (.int 2147483629))) (.var 1))) .nil)))⟩
/-! 92: law_plan -/
/-- 0=_law_draws 1=_law_places 2=_law_k 3=_law_place -/
def f_law_plan : FDef := ⟨1, 4,
  (.cons (.asg (.name 1) (.bi .sorted (.cons (.bi .set (.cons (.lc [("_law_k", 2)] (.call 91 (.cons (.var 0) (.cons (.lit (.int 168)) .nil))) (.name 2) (.rng1 (.call 91 (.cons (.var 0) (.cons (.lit (.int 5)) .nil)))) .no) .nil)) .nil)))
  (.cons (.ret (.bi .tuple (.cons (.lc [("_law_place", 3)] (.tup (.cons (.var 3) (.cons (.call 91 (.cons (.var 0) (.cons (.lit (.int 10)) .nil))) .nil))) (.name 3) (.of (.var 1)) .no) .nil))) .nil))⟩
/-! 93: law_until -/
/-- 0=_law_draws 1=_law_hour 2=_law_at -/
def f_law_until : FDef := ⟨2, 3,
  (.cons (.asg (.name 2) (.call 91 (.cons (.var 0) (.cons (.lit (.int 4)) .nil))))
  (.cons (.ite (.cmp .le (.var 2) (.lit (.int 1)))
    (.cons (.ret (.tup (.cons (.lit (.str "next")) .nil))) .nil)
    .nil)
  (.cons (.ite (.cmp .eq (.var 2) (.lit (.int 2)))
    (.cons (.ret (.tup (.cons (.lit (.str "hold")) .nil))) .nil)
    .nil)
  (.cons (.ret (.tup (.cons (.lit (.str "till")) (.cons (.bin .add (.bin .add (.var 1) (.lit (.int 1))) (.call 91 (.cons (.var 0) (.cons (.lit (.int 200)) .nil)))) .nil)))) .nil))))⟩
/-! 94: law_away -/
/-- 0=_law_draws 1=_law_hour 2=_law_begin_here 3=_law_end -/
def f_law_away : FDef := ⟨2, 4,
  (.cons (.asg (.name 2) (.bin .add (.var 1) (.call 91 (.cons (.var 0) (.cons (.lit (.int 60)) .nil)))))
  (.cons (.asg (.name 3) (.bin .add (.bin .add (.var 2) (.lit (.int 1))) (.call 91 (.cons (.var 0) (.cons (.lit (.int 150)) .nil)))))
  (.cons (.ite (.cmp .eq (.call 91 (.cons (.var 0) (.cons (.lit (.int 5)) .nil))) (.lit (.int 0)))
    (.cons (.asg (.name 3) (.lit .non)) .nil)
    .nil)
  (.cons (.ret (.tup (.cons (.lit (.str "away")) (.cons (.var 2) (.cons (.var 3) (.cons (.call 91 (.cons (.var 0) (.cons (.lit (.int 10)) .nil))) (.cons (.var 1) .nil))))))) .nil))))⟩
/-! 95: law_int -/
/-- 0=_law_value 1=_law_high -/
def f_law_int : FDef := ⟨2, 2,
  (.cons (.ret (.and (.isi "int" (.var 0)) (.and (.nt (.isi "bool" (.var 0))) (.chain .le .le (.lit (.int 0)) (.var 0) (.var 1))))) .nil)⟩
/-! 96: law_good -/
/-- 0=_law_value 1=_law_one 2=_law_k -/
def f_law_good : FDef := ⟨1, 3,
  (.cons (.ite (.or (.nt (.of (.isi "tuple" (.var 0)))) (.cmp .gt (.bi .len (.cons (.var 0) .nil)) (.lit (.int 14))))
    (.cons (.ret (.lit (.bl false))) .nil)
    .nil)
  (.cons (.forr (.name 1) (.of (.var 0)) [1]
    (.cons (.ite (.or (.nt (.of (.isi "tuple" (.var 1)))) (.cmp .ne (.bi .len (.cons (.var 1) .nil)) (.lit (.int 2))))
      (.cons (.ret (.lit (.bl false))) .nil)
      .nil)
    (.cons (.ite (.or (.nt (.of (.call 95 (.cons (.ix (.var 1) (.lit (.int 0))) (.cons (.lit (.int 167)) .nil))))) (.nt (.of (.call 95 (.cons (.ix (.var 1) (.lit (.int 1))) (.cons (.lit (.int 9)) .nil))))))
      (.cons (.ret (.lit (.bl false))) .nil)
      .nil) .nil)))
  (.cons (.ret (.bi .all (.cons (.lc [("_law_k", 2)] (.cmp .lt (.ix (.ix (.var 0) (.var 2)) (.lit (.int 0))) (.ix (.ix (.var 0) (.bin .add (.var 2) (.lit (.int 1)))) (.lit (.int 0)))) (.name 2) (.rng1 (.bin .sub (.bi .len (.cons (.var 0) .nil)) (.lit (.int 1)))) .no) .nil))) .nil)))⟩
/-! 97: law_shows -/
/-- 0=_law_plan_here 1=_law_hour 2=_law_found 3=_law_place 4=_law_value -/
def f_law_shows : FDef := ⟨2, 5,
  (.cons (.ite (.cmp .eq (.bi .len (.cons (.var 0) .nil)) (.lit (.int 0)))
    (.cons (.ret (.lit .non)) .nil)
    .nil)
  (.cons (.asg (.name 2) (.ix (.ix (.var 0) (.neg (.lit (.int 1)))) (.lit (.int 1))))
  (.cons (.forr (.tup (.cons (.name 3) (.cons (.name 4) .nil))) (.of (.var 0)) [3, 4]
    (.cons (.ite (.cmp .le (.var 3) (.var 1))
      (.cons (.asg (.name 2) (.var 4)) .nil)
      .nil) .nil))
  (.cons (.ret (.var 2)) .nil))))⟩
/-! 98: law_told -/
/-- 0=_law_value 1=_law_told_here -/
def f_law_told : FDef := ⟨1, 2,
  (.cons (.asg (.name 1) (.lit .non))
  (.cons (.tryx
    (.cons (.asg (.name 1) (.call 7 (.cons (.var 0) .nil))) .nil)
    [(1, [.lit 1 (.str "bad")])])
  (.cons (.ret (.var 1)) .nil)))⟩
/-! 99: law_deed -/
/-- 0=_law_draws 1=_law_rooms 2=_law_hour 3=_law_room 4=_law_way 5=_law_other -/
def f_law_deed : FDef := ⟨3, 6,
  (.cons (.asg (.name 3) (.call 91 (.cons (.var 0) (.cons (.var 1) .nil))))
  (.cons (.asg (.name 4) (.call 91 (.cons (.var 0) (.cons (.lit (.int 10)) .nil))))
  (.cons (.ite (.cmp .le (.var 4) (.lit (.int 1)))
    (.cons (.ret (.tup (.cons (.lit (.str "plan")) (.cons (.var 3) (.cons (.call 92 (.cons (.var 0) .nil)) (.cons (.var 2) .nil)))))) .nil)
    .nil)
  (.cons (.ite (.cmp .le (.var 4) (.lit (.int 4)))
    (.cons (.ret (.tup (.cons (.lit (.str "turn")) (.cons (.var 3) (.cons (.call 91 (.cons (.var 0) (.cons (.lit (.int 10)) .nil))) (.cons (.call 93 (.cons (.var 0) (.cons (.var 2) .nil))) (.cons (.var 2) .nil))))))) .nil)
    .nil)
  (.cons (.ite (.cmp .eq (.var 4) (.lit (.int 5)))
    (.cons (.ret (.tup (.cons (.lit (.str "back")) (.cons (.var 3) (.cons (.var 2) .nil))))) .nil)
    .nil)
  (.cons (.ite (.cmp .eq (.var 4) (.lit (.int 6)))
    (.cons (.ret (.call 94 (.cons (.var 0) (.cons (.var 2) .nil)))) .nil)
    .nil)
  (.cons (.ite (.cmp .eq (.var 4) (.lit (.int 7)))
    (.cons (.ret (.tup (.cons (.lit (.str "home")) (.cons (.var 2) .nil)))) .nil)
    .nil)
  (.cons (.asg (.name 5) (.call 91 (.cons (.var 0) (.cons (.bin .add (.var 1) (.lit (.int 1))) .nil))))
  (.cons (.ite (.cmp .eq (.var 5) (.var 1))
    (.cons (.asg (.name 5) (.lit .non)) .nil)
    .nil)
  (.cons (.ret (.tup (.cons (.lit (.str "follow")) (.cons (.var 3) (.cons (.var 5) (.cons (.bin .sub (.call 91 (.cons (.var 0) (.cons (.lit (.int 9)) .nil))) (.lit (.int 4))) (.cons (.var 2) .nil))))))) .nil))))))))))⟩
/-! 100: law_follows -/
/-- 0=_law_log_here 1=_law_room 2=_law_deed_here -/
def f_law_follows : FDef := ⟨2, 3,
  (.cons (.forr (.name 2) (.of (.slr (.var 0))) [2]
    (.cons (.ite (.and (.cmp .eq (.ix (.var 2) (.lit (.int 0))) (.lit (.str "follow"))) (.cmp .eq (.ix (.var 2) (.lit (.int 1))) (.var 1)))
      (.cons (.ite (.isN (.ix (.var 2) (.lit (.int 2))))
        (.cons (.ret (.lit .non)) .nil)
        .nil)
      (.cons (.ret (.tup (.cons (.ix (.var 2) (.lit (.int 2))) (.cons (.ix (.var 2) (.lit (.int 3))) .nil)))) .nil))
      .nil) .nil))
  (.cons (.ret (.lit .non)) .nil))⟩
/-! 101: law_rings -/
/-- 0=_law_log_here 1=_law_deed_here 2=_law_here 3=_law_after -/
def f_law_rings : FDef := ⟨2, 4,
  (.cons (.ite (.cmp .ne (.ix (.var 1) (.lit (.int 0))) (.lit (.str "follow")))
    (.cons (.ret (.lit (.bl false))) .nil)
    .nil)
  (.cons (.asg (.name 2) (.ix (.var 1) (.lit (.int 2))))
  (.cons (.whil (.notN (.var 2)) [3]
    (.cons (.ite (.cmp .eq (.var 2) (.ix (.var 1) (.lit (.int 1))))
      (.cons (.ret (.lit (.bl true))) .nil)
      .nil)
    (.cons (.asg (.name 3) (.call 100 (.cons (.var 0) (.cons (.var 2) .nil))))
    (.cons (.asg (.name 2) (.lit .non))
    (.cons (.ite (.notN (.var 3))
      (.cons (.asg (.name 2) (.ix (.var 3) (.lit (.int 0)))) .nil)
      .nil) .nil)))))
  (.cons (.ret (.lit (.bl false))) .nil))))⟩
/-! 102: law_log -/
/-- 0=_law_draws 1=_law_rooms 2=_law_most 3=_law_log_here 4=_law_hour 5=_law_room 6=_law_k 7=_law_deed_here -/
def f_law_log : FDef := ⟨3, 8,
  (.cons (.asg (.name 3) (.lst .nil))
  (.cons (.asg (.name 4) (.lit (.int 0)))
  (.cons (.forr (.name 5) (.rng1 (.var 1)) [5]
    (.cons (.expr (.bm .append (.var 3) (.cons (.tup (.cons (.lit (.str "plan")) (.cons (.var 5) (.cons (.call 92 (.cons (.var 0) .nil)) (.cons (.lit (.int 0)) .nil))))) .nil))) .nil))
  (.cons (.forr (.name 6) (.rng1 (.call 91 (.cons (.var 0) (.cons (.bin .add (.var 2) (.lit (.int 1))) .nil)))) [6, 7]
    (.cons (.asg (.name 4) (.bin .add (.var 4) (.ix (.lst (.cons (.lit (.int 0)) (.cons (.lit (.int 1)) (.cons (.lit (.int 7)) (.cons (.lit (.int 40)) (.cons (.lit (.int 100)) .nil)))))) (.call 91 (.cons (.var 0) (.cons (.lit (.int 5)) .nil))))))
    (.cons (.asg (.name 7) (.call 99 (.cons (.var 0) (.cons (.var 1) (.cons (.var 4) .nil)))))
    (.cons (.ite (.nt (.of (.call 101 (.cons (.var 3) (.cons (.var 7) .nil)))))
      (.cons (.expr (.bm .append (.var 3) (.cons (.var 7) .nil))) .nil)
      .nil) .nil))))
  (.cons (.ret (.var 3)) .nil)))))⟩
/-! 103: law_int_2 -/
/-- 0=_law_value 1=_law_low 2=_law_high -/
def f_law_int_2 : FDef := ⟨3, 3,
  (.cons (.ret (.and (.isi "int" (.var 0)) (.and (.nt (.isi "bool" (.var 0))) (.chain .le .le (.var 1) (.var 0) (.var 2))))) .nil)⟩
/-! 104: law_do -/
/-- 0=_law_house 1=_law_deed_here -/
def f_law_do : FDef := ⟨2, 2,
  (.cons (.ite (.cmp .eq (.ix (.var 1) (.lit (.int 0))) (.lit (.str "plan")))
    (.cons (.expr (.meth 0 23 (.var 0) (.cons (.ix (.var 1) (.lit (.int 1))) (.cons (.ix (.var 1) (.lit (.int 2))) (.cons (.ix (.var 1) (.lit (.int 3))) .nil))))) .nil)
    .nil)
  (.cons (.ite (.cmp .eq (.ix (.var 1) (.lit (.int 0))) (.lit (.str "turn")))
    (.cons (.expr (.meth 0 24 (.var 0) (.cons (.ix (.var 1) (.lit (.int 1))) (.cons (.ix (.var 1) (.lit (.int 2))) (.cons (.ix (.var 1) (.lit (.int 3))) (.cons (.ix (.var 1) (.lit (.int 4))) .nil)))))) .nil)
    .nil)
  (.cons (.ite (.cmp .eq (.ix (.var 1) (.lit (.int 0))) (.lit (.str "back")))
    (.cons (.expr (.meth 0 25 (.var 0) (.cons (.ix (.var 1) (.lit (.int 1))) (.cons (.ix (.var 1) (.lit (.int 2))) .nil)))) .nil)
    .nil)
  (.cons (.ite (.cmp .eq (.ix (.var 1) (.lit (.int 0))) (.lit (.str "away")))
    (.cons (.expr (.meth 0 26 (.var 0) (.cons (.ix (.var 1) (.lit (.int 1))) (.cons (.ix (.var 1) (.lit (.int 2))) (.cons (.ix (.var 1) (.lit (.int 3))) (.cons (.ix (.var 1) (.lit (.int 4))) .nil)))))) .nil)
    .nil)
  (.cons (.ite (.cmp .eq (.ix (.var 1) (.lit (.int 0))) (.lit (.str "home")))
    (.cons (.expr (.meth 0 27 (.var 0) (.cons (.ix (.var 1) (.lit (.int 1))) .nil))) .nil)
    .nil)
  (.cons (.ite (.cmp .eq (.ix (.var 1) (.lit (.int 0))) (.lit (.str "follow")))
    (.cons (.expr (.meth 0 28 (.var 0) (.cons (.ix (.var 1) (.lit (.int 1))) (.cons (.ix (.var 1) (.lit (.int 2))) (.cons (.ix (.var 1) (.lit (.int 3))) (.cons (.ix (.var 1) (.lit (.int 4))) .nil)))))) .nil)
    .nil) .nil))))))⟩
/-! 105: law_told_2 -/
/-- 0=_law_house 1=_law_deed_here 2=_law_told_here -/
def f_law_told_2 : FDef := ⟨2, 3,
  (.cons (.asg (.name 2) (.lit (.str "good")))
  (.cons (.tryx
    (.cons (.expr (.call 104 (.cons (.var 0) (.cons (.var 1) .nil)))) .nil)
    [(4, [.lit 2 (.str "room")]), (1, [.lit 2 (.str "plan")]), (6, [.lit 2 (.str "value")]), (7, [.lit 2 (.str "until")]), (8, [.lit 2 (.str "stretch")]), (9, [.lit 2 (.str "offset")]), (10, [.lit 2 (.str "ring")]), (5, [.lit 2 (.str "hour")])])
  (.cons (.ret (.var 2)) .nil)))⟩
/-! 106: law_until_good -/
/-- 0=_law_until_here -/
def f_law_until_good : FDef := ⟨1, 1,
  (.cons (.ite (.or (.cmp .eq (.var 0) (.tup (.cons (.lit (.str "next")) .nil))) (.cmp .eq (.var 0) (.tup (.cons (.lit (.str "hold")) .nil))))
    (.cons (.ret (.lit (.bl true))) .nil)
    .nil)
  (.cons (.ite (.or (.nt (.of (.isi "tuple" (.var 0)))) (.or (.cmp .ne (.bi .len (.cons (.var 0) .nil)) (.lit (.int 2))) (.cmp .ne (.ix (.var 0) (.lit (.int 0))) (.lit (.str "till")))))
    (.cons (.ret (.lit (.bl false))) .nil)
    .nil)
  (.cons (.ret (.call 103 (.cons (.ix (.var 0) (.lit (.int 1))) (.cons (.lit (.int 0)) (.cons (.lit (.int 2000000000)) .nil))))) .nil)))⟩
/-! 107: law_turn_due -/
/-- 0=_law_deed_here 1=_law_fits -/
def f_law_turn_due : FDef := ⟨2, 2,
  (.cons (.ite (.nt (.of (.call 103 (.cons (.ix (.var 0) (.lit (.int 2))) (.cons (.lit (.int 0)) (.cons (.lit (.int 9)) .nil))))))
    (.cons (.ret (.lit (.str "value"))) .nil)
    .nil)
  (.cons (.ite (.nt (.of (.call 106 (.cons (.ix (.var 0) (.lit (.int 3))) .nil))))
    (.cons (.ret (.lit (.str "until"))) .nil)
    .nil)
  (.cons (.ite (.nt (.of (.var 1)))
    (.cons (.ret (.lit (.str "hour"))) .nil)
    .nil)
  (.cons (.ret (.ix (.lst (.cons (.lit (.str "good")) (.cons (.lit (.str "until")) .nil))) (.bi .int (.cons (.and (.cmp .eq (.ix (.ix (.var 0) (.lit (.int 3))) (.lit (.int 0))) (.lit (.str "till"))) (.cmp .le (.ix (.ix (.var 0) (.lit (.int 3))) (.lit (.int 1))) (.ix (.var 0) (.lit (.int 4))))) .nil)))) .nil))))⟩
/-! 108: law_away_due -/
/-- 0=_law_deed_here 1=_law_fits -/
def f_law_away_due : FDef := ⟨2, 2,
  (.cons (.ite (.nt (.of (.call 103 (.cons (.ix (.var 0) (.lit (.int 3))) (.cons (.lit (.int 0)) (.cons (.lit (.int 9)) .nil))))))
    (.cons (.ret (.lit (.str "value"))) .nil)
    .nil)
  (.cons (.ite (.nt (.of (.call 103 (.cons (.ix (.var 0) (.lit (.int 1))) (.cons (.lit (.int 0)) (.cons (.lit (.int 2000000000)) .nil))))))
    (.cons (.ret (.lit (.str "stretch"))) .nil)
    .nil)
  (.cons (.ite (.and (.notN (.ix (.var 0) (.lit (.int 2)))) (.nt (.of (.call 103 (.cons (.ix (.var 0) (.lit (.int 2))) (.cons (.bin .add (.ix (.var 0) (.lit (.int 1))) (.lit (.int 1))) (.cons (.lit (.int 2000000000)) .nil)))))))
    (.cons (.ret (.lit (.str "stretch"))) .nil)
    .nil)
  (.cons (.ite (.nt (.of (.var 1)))
    (.cons (.ret (.lit (.str "hour"))) .nil)
    .nil)
  (.cons (.ret (.ix (.lst (.cons (.lit (.str "good")) (.cons (.lit (.str "stretch")) .nil))) (.bi .int (.cons (.cmp .lt (.ix (.var 0) (.lit (.int 1))) (.ix (.var 0) (.lit (.int 4)))) .nil)))) .nil)))))⟩
/-! 109: law_follow_due -/
/-- 0=_law_deed_here 1=_law_rooms 2=_law_log_here 3=_law_fits -/
def f_law_follow_due : FDef := ⟨4, 4,
  (.cons (.ite (.and (.notN (.ix (.var 0) (.lit (.int 2)))) (.nt (.of (.call 103 (.cons (.ix (.var 0) (.lit (.int 2))) (.cons (.lit (.int 0)) (.cons (.bin .sub (.var 1) (.lit (.int 1))) .nil)))))))
    (.cons (.ret (.lit (.str "room"))) .nil)
    .nil)
  (.cons (.ite (.nt (.of (.call 103 (.cons (.ix (.var 0) (.lit (.int 3))) (.cons (.neg (.lit (.int 9))) (.cons (.lit (.int 9)) .nil))))))
    (.cons (.ret (.lit (.str "offset"))) .nil)
    .nil)
  (.cons (.ite (.of (.call 101 (.cons (.var 2) (.cons (.var 0) .nil))))
    (.cons (.ret (.lit (.str "ring"))) .nil)
    .nil)
  (.cons (.ret (.ix (.lst (.cons (.lit (.str "hour")) (.cons (.lit (.str "good")) .nil))) (.bi .int (.cons (.var 3) .nil)))) .nil))))⟩
/-! 110: law_due -/
/-- 0=_law_deed_here 1=_law_rooms 2=_law_log_here 3=_law_now 4=_law_fits -/
def f_law_due : FDef := ⟨4, 5,
  (.cons (.asg (.name 4) (.call 103 (.cons (.ix (.var 0) (.neg (.lit (.int 1)))) (.cons (.var 3) (.cons (.lit (.int 1000000000)) .nil)))))
  (.cons (.ite (.cmp .eq (.ix (.var 0) (.lit (.int 0))) (.lit (.str "home")))
    (.cons (.ret (.ix (.lst (.cons (.lit (.str "hour")) (.cons (.lit (.str "good")) .nil))) (.bi .int (.cons (.var 4) .nil)))) .nil)
    .nil)
  (.cons (.ite (.cmp .eq (.ix (.var 0) (.lit (.int 0))) (.lit (.str "away")))
    (.cons (.ret (.call 108 (.cons (.var 0) (.cons (.var 4) .nil)))) .nil)
    .nil)
  (.cons (.ite (.nt (.of (.call 103 (.cons (.ix (.var 0) (.lit (.int 1))) (.cons (.lit (.int 0)) (.cons (.bin .sub (.var 1) (.lit (.int 1))) .nil))))))
    (.cons (.ret (.lit (.str "room"))) .nil)
    .nil)
  (.cons (.ite (.cmp .eq (.ix (.var 0) (.lit (.int 0))) (.lit (.str "turn")))
    (.cons (.ret (.call 107 (.cons (.var 0) (.cons (.var 4) .nil)))) .nil)
    .nil)
  (.cons (.ite (.cmp .eq (.ix (.var 0) (.lit (.int 0))) (.lit (.str "follow")))
    (.cons (.ret (.call 109 (.cons (.var 0) (.cons (.var 1) (.cons (.var 2) (.cons (.var 4) .nil)))))) .nil)
    .nil)
  (.cons (.ite (.and (.cmp .eq (.ix (.var 0) (.lit (.int 0))) (.lit (.str "plan"))) (.cmp .inn (.ix (.var 0) (.lit (.int 2))) (.lst (.cons (.lit .non) (.cons (.lit (.int 5)) (.cons (.tup (.cons (.tup (.cons (.lit (.int 1)) (.cons (.lit (.int 1)) .nil))) (.cons (.tup (.cons (.lit (.int 0)) (.cons (.lit (.int 2)) .nil))) .nil))) (.cons (.tup (.cons (.tup (.cons (.lit (.int 168)) (.cons (.lit (.int 1)) .nil))) .nil)) .nil)))))))
    (.cons (.ret (.lit (.str "plan"))) .nil)
    .nil)
  (.cons (.ret (.ix (.lst (.cons (.lit (.str "hour")) (.cons (.lit (.str "good")) .nil))) (.bi .int (.cons (.var 4) .nil)))) .nil))))))))⟩
/-! 111: law_odd -/
/-- 0=_law_draws 1=_law_deed_here 2=_law_now 3=_law_row 4=_law_k 5=_law_at 6=_law_odd_here -/
def f_law_odd : FDef := ⟨3, 7,
  (.cons (.asg (.name 3) (.bi .list (.cons (.var 1) .nil)))
  (.cons (.forr (.name 4) (.rng1 (.call 91 (.cons (.var 0) (.cons (.lit (.int 3)) .nil)))) [4, 5, 6]
    (.cons (.asg (.name 5) (.bin .add (.lit (.int 1)) (.call 91 (.cons (.var 0) (.cons (.bin .sub (.bi .len (.cons (.var 3) .nil)) (.lit (.int 1))) .nil)))))
    (.cons (.asg (.name 6) (.lst (.cons (.lit .non) (.cons (.neg (.lit (.int 1))) (.cons (.lit (.int 10)) (.cons (.lit (.bl true)) (.cons (.bin .sub (.var 2) (.lit (.int 1))) (.cons (.lit (.int 3)) (.cons (.var 2) (.cons (.lit (.int 2000000001)) (.cons (.lit (.str "next")) (.cons (.neg (.lit (.int 10))) .nil))))))))))))
    (.cons (.ite (.and (.cmp .eq (.ix (.var 1) (.lit (.int 0))) (.lit (.str "plan"))) (.cmp .eq (.var 5) (.lit (.int 2))))
      (.cons (.asg (.name 6) (.lst (.cons (.lit .non) (.cons (.lit (.int 5)) (.cons (.tup (.cons (.tup (.cons (.lit (.int 1)) (.cons (.lit (.int 1)) .nil))) (.cons (.tup (.cons (.lit (.int 0)) (.cons (.lit (.int 2)) .nil))) .nil))) (.cons (.tup (.cons (.tup (.cons (.lit (.int 168)) (.cons (.lit (.int 1)) .nil))) .nil)) .nil)))))) .nil)
      .nil)
    (.cons (.ite (.and (.cmp .eq (.ix (.var 1) (.lit (.int 0))) (.lit (.str "turn"))) (.cmp .eq (.var 5) (.lit (.int 3))))
      (.cons (.asg (.name 6) (.lst (.cons (.lit .non) (.cons (.tup (.cons (.lit (.str "till")) .nil)) (.cons (.tup (.cons (.lit (.str "till")) (.cons (.var 2) .nil))) (.cons (.tup (.cons (.lit (.str "till")) (.cons (.lit (.bl true)) .nil))) (.cons (.tup (.cons (.lit (.str "late")) .nil)) (.cons (.lst (.cons (.lit (.str "hold")) .nil)) (.cons (.tup (.cons (.lit (.str "next")) (.cons (.lit (.int 1)) .nil))) .nil))))))))) .nil)
      .nil)
    (.cons (.setIx (.var 3) (.var 5) (.ix (.var 6) (.call 91 (.cons (.var 0) (.cons (.bi .len (.cons (.var 6) .nil)) .nil))))) .nil))))))
  (.cons (.ret (.bi .tuple (.cons (.var 3) .nil))) .nil)))⟩
/-! 112: law_made -/
/-- 0=_law_rooms 1=_law_order 2=_law_told_here -/
def f_law_made : FDef := ⟨2, 3,
  (.cons (.asg (.name 2) (.lit (.str "good")))
  (.cons (.tryx
    (.cons (.expr (.make 0 19 (.cons (.var 0) (.cons (.var 1) .nil)))) .nil)
    [(2, [.lit 2 (.str "count")]), (3, [.lit 2 (.str "order")])])
  (.cons (.ret (.var 2)) .nil)))⟩
/-! 113: law_plan_shows -/
/-- 0=_law_plan_here 1=_law_hour 2=_law_found 3=_law_place 4=_law_value -/
def f_law_plan_shows : FDef := ⟨2, 5,
  (.cons (.ite (.cmp .eq (.bi .len (.cons (.var 0) .nil)) (.lit (.int 0)))
    (.cons (.ret (.lit .non)) .nil)
    .nil)
  (.cons (.asg (.name 2) (.ix (.ix (.var 0) (.neg (.lit (.int 1)))) (.lit (.int 1))))
  (.cons (.forr (.tup (.cons (.name 3) (.cons (.name 4) .nil))) (.of (.var 0)) [3, 4]
    (.cons (.ite (.cmp .le (.var 3) (.bin .mod (.var 1) (.lit (.int 168))))
      (.cons (.asg (.name 2) (.var 4)) .nil)
      .nil) .nil))
  (.cons (.ret (.var 2)) .nil))))⟩
/-! 114: law_new -/
/-- 0=_law_rooms 1=_law_state 2=_law_room -/
def f_law_new : FDef := ⟨1, 3,
  (.cons (.asg (.name 1) .dic0)
  (.cons (.setIx (.var 1) (.lit (.str "plans")) (.lc [("_law_room", 2)] (.tup .nil) (.name 2) (.rng1 (.var 0)) .no))
  (.cons (.setIx (.var 1) (.lit (.str "turns")) (.lc [("_law_room", 2)] (.lit .non) (.name 2) (.rng1 (.var 0)) .no))
  (.cons (.setIx (.var 1) (.lit (.str "follows")) (.lc [("_law_room", 2)] (.lit .non) (.name 2) (.rng1 (.var 0)) .no))
  (.cons (.setIx (.var 1) (.lit (.str "away")) (.lit .non))
  (.cons (.ret (.var 1)) .nil))))))⟩
/-! 115: law_take -/
/-- 0=_law_state 1=_law_deed_here 2=_law_number -/
def f_law_take : FDef := ⟨3, 3,
  (.cons (.ite (.cmp .eq (.ix (.var 1) (.lit (.int 0))) (.lit (.str "plan")))
    (.cons (.setIx (.ixd (.var 0) (.lit (.str "plans"))) (.ix (.var 1) (.lit (.int 1))) (.ix (.var 1) (.lit (.int 2)))) .nil)
    (.cons (.ite (.cmp .eq (.ix (.var 1) (.lit (.int 0))) (.lit (.str "turn")))
      (.cons (.setIx (.ixd (.var 0) (.lit (.str "turns"))) (.ix (.var 1) (.lit (.int 1))) (.tup (.cons (.var 2) (.cons (.ix (.var 1) (.lit (.int 2))) (.cons (.ix (.var 1) (.lit (.int 3))) (.cons (.ix (.var 1) (.lit (.int 4))) .nil)))))) .nil)
      (.cons (.ite (.cmp .eq (.ix (.var 1) (.lit (.int 0))) (.lit (.str "back")))
        (.cons (.setIx (.ixd (.var 0) (.lit (.str "turns"))) (.ix (.var 1) (.lit (.int 1))) (.lit .non)) .nil)
        (.cons (.ite (.cmp .eq (.ix (.var 1) (.lit (.int 0))) (.lit (.str "away")))
          (.cons (.setIx (.var 0) (.lit (.str "away")) (.tup (.cons (.var 2) (.cons (.ix (.var 1) (.lit (.int 1))) (.cons (.ix (.var 1) (.lit (.int 2))) (.cons (.ix (.var 1) (.lit (.int 3))) .nil)))))) .nil)
          (.cons (.ite (.cmp .eq (.ix (.var 1) (.lit (.int 0))) (.lit (.str "home")))
            (.cons (.setIx (.var 0) (.lit (.str "away")) (.lit .non)) .nil)
            (.cons (.ite (.isN (.ix (.var 1) (.lit (.int 2))))
              (.cons (.setIx (.ixd (.var 0) (.lit (.str "follows"))) (.ix (.var 1) (.lit (.int 1))) (.lit .non)) .nil)
              (.cons (.setIx (.ixd (.var 0) (.lit (.str "follows"))) (.ix (.var 1) (.lit (.int 1))) (.tup (.cons (.ix (.var 1) (.lit (.int 2))) (.cons (.ix (.var 1) (.lit (.int 3))) .nil)))) .nil)) .nil)) .nil)) .nil)) .nil)) .nil)) .nil)⟩
/-! 116: law_tick -/
/-- 0=_law_state 1=_law_hour 2=_law_room 3=_law_turn 4=_law_over 5=_law_switch -/
def f_law_tick : FDef := ⟨2, 6,
  (.cons (.forr (.name 2) (.rng1 (.bi .len (.cons (.ixd (.var 0) (.lit (.str "plans"))) .nil))) [2, 3]
    (.cons (.asg (.name 3) (.ix (.ixd (.var 0) (.lit (.str "turns"))) (.var 2)))
    (.cons (.ite (.notN (.var 3))
      (.cons (.asg (.name 4) (.and (.cmp .eq (.ix (.ix (.var 3) (.lit (.int 2))) (.lit (.int 0))) (.lit (.str "till"))) (.cmp .ge (.var 1) (.ix (.ix (.var 3) (.lit (.int 2))) (.lit (.int 1))))))
      (.cons (.ite (.and (.cmp .eq (.ix (.ix (.var 3) (.lit (.int 2))) (.lit (.int 0))) (.lit (.str "next"))) (.cmp .gt (.var 1) (.ix (.var 3) (.lit (.int 3)))))
        (.cons (.asg (.name 4) (.bi .any (.cons (.lc [("_law_switch", 5)] (.cmp .eq (.ix (.var 5) (.lit (.int 0))) (.bin .mod (.var 1) (.lit (.int 168)))) (.name 5) (.of (.ix (.ixd (.var 0) (.lit (.str "plans"))) (.var 2))) .no) .nil))) .nil)
        .nil)
      (.cons (.ite (.of (.var 4))
        (.cons (.setIx (.ixd (.var 0) (.lit (.str "turns"))) (.var 2) (.lit .non)) .nil)
        .nil) .nil)))
      .nil) .nil))) .nil)⟩
/-! 117: law_shows_2 -/
/-- 0=_law_state 1=_law_order 2=_law_room 3=_law_hour 4=_law_turn 5=_law_away_here 6=_law_other 7=_law_offset 8=_law_value -/
def f_law_shows_2 : FDef := ⟨4, 9,
  (.cons (.asg (.name 4) (.ix (.ixd (.var 0) (.lit (.str "turns"))) (.var 2)))
  (.cons (.asg (.name 5) (.ixd (.var 0) (.lit (.str "away"))))
  (.cons (.ite (.and (.notN (.var 5)) (.or (.cmp .lt (.var 3) (.ix (.var 5) (.lit (.int 1)))) (.and (.notN (.ix (.var 5) (.lit (.int 2)))) (.cmp .ge (.var 3) (.ix (.var 5) (.lit (.int 2)))))))
    (.cons (.asg (.name 5) (.lit .non)) .nil)
    .nil)
  (.cons (.ite (.and (.notN (.var 4)) (.notN (.var 5)))
    (.cons (.ite (.or (.cmp .eq (.var 1) (.lit (.str "away"))) (.cmp .gt (.ix (.var 5) (.lit (.int 0))) (.ix (.var 4) (.lit (.int 0)))))
      (.cons (.ret (.ix (.var 5) (.lit (.int 3)))) .nil)
      .nil)
    (.cons (.ret (.ix (.var 4) (.lit (.int 1)))) .nil))
    .nil)
  (.cons (.ite (.notN (.var 5))
    (.cons (.ret (.ix (.var 5) (.lit (.int 3)))) .nil)
    .nil)
  (.cons (.ite (.notN (.var 4))
    (.cons (.ret (.ix (.var 4) (.lit (.int 1)))) .nil)
    .nil)
  (.cons (.ite (.isN (.ix (.ixd (.var 0) (.lit (.str "follows"))) (.var 2)))
    (.cons (.ret (.call 113 (.cons (.ix (.ixd (.var 0) (.lit (.str "plans"))) (.var 2)) (.cons (.var 3) .nil)))) .nil)
    .nil)
  (.cons (.asg (.tup (.cons (.name 6) (.cons (.name 7) .nil))) (.ix (.ixd (.var 0) (.lit (.str "follows"))) (.var 2)))
  (.cons (.asg (.name 8) (.call 117 (.cons (.var 0) (.cons (.var 1) (.cons (.var 6) (.cons (.var 3) .nil))))))
  (.cons (.ite (.isN (.var 8))
    (.cons (.ret (.lit .non)) .nil)
    .nil)
  (.cons (.ret (.bi .min (.cons (.bi .max (.cons (.bin .add (.var 8) (.var 7)) (.cons (.lit (.int 0)) .nil))) (.cons (.lit (.int 9)) .nil)))) .nil)))))))))))⟩
/-! 118: law_hours -/
/-- 0=_law_rooms 1=_law_order 2=_law_log_here 3=_law_most 4=_law_state 5=_law_found 6=_law_at 7=_law_hour 8=_law_room -/
def f_law_hours : FDef := ⟨4, 9,
  (.cons (.asg (.name 4) (.call 114 (.cons (.var 0) .nil)))
  (.cons (.asg (.name 5) (.lst .nil))
  (.cons (.asg (.name 6) (.lit (.int 0)))
  (.cons (.forr (.name 7) (.rng1 (.var 3)) [7]
    (.cons (.whil (.and (.cmp .lt (.var 6) (.bi .len (.cons (.var 2) .nil))) (.cmp .eq (.ix (.ix (.var 2) (.var 6)) (.neg (.lit (.int 1)))) (.var 7))) []
      (.cons (.expr (.call 115 (.cons (.var 4) (.cons (.ix (.var 2) (.var 6)) (.cons (.var 6) .nil)))))
      (.cons (.asg (.name 6) (.bin .add (.var 6) (.lit (.int 1)))) .nil)))
    (.cons (.expr (.call 116 (.cons (.var 4) (.cons (.var 7) .nil))))
    (.cons (.expr (.bm .append (.var 5) (.cons (.lc [("_law_room", 8)] (.call 117 (.cons (.var 4) (.cons (.var 1) (.cons (.var 8) (.cons (.var 7) .nil))))) (.name 8) (.rng1 (.var 0)) .no) .nil))) .nil))))
  (.cons (.ret (.var 5)) .nil)))))⟩
/-! 119: law_told_3 -/
/-- 0=_law_house 1=_law_room 2=_law_hour 3=_law_told_here -/
def f_law_told_3 : FDef := ⟨3, 4,
  (.cons (.asg (.name 3) (.lit (.str "good")))
  (.cons (.tryx
    (.cons (.expr (.meth 0 33 (.var 0) (.cons (.var 1) (.cons (.var 2) .nil)))) .nil)
    [(4, [.lit 3 (.str "room")]), (5, [.lit 3 (.str "hour")])])
  (.cons (.ret (.var 3)) .nil)))⟩
/-! 120: law_later -/
/-- 0=_law_log_here 1=_law_rooms 2=_law_weeks 3=_law_found 4=_law_more 5=_law_deed_here 6=_law_until_here 7=_law_end -/
def f_law_later : FDef := ⟨3, 8,
  (.cons (.asg (.name 3) (.bi .list (.cons (.sl (.var 0) .no (.of (.var 1))) .nil)))
  (.cons (.asg (.name 4) (.bin .mul (.lit (.int 168)) (.var 2)))
  (.cons (.forr (.name 5) (.of (.sl (.var 0) (.of (.var 1)) .no)) [5]
    (.cons (.ite (.cmp .eq (.ix (.var 5) (.lit (.int 0))) (.lit (.str "turn")))
      (.cons (.asg (.name 6) (.ix (.var 5) (.lit (.int 3))))
      (.cons (.ite (.cmp .eq (.ix (.var 6) (.lit (.int 0))) (.lit (.str "till")))
        (.cons (.asg (.name 6) (.tup (.cons (.lit (.str "till")) (.cons (.bin .add (.ix (.var 6) (.lit (.int 1))) (.var 4)) .nil)))) .nil)
        .nil)
      (.cons (.expr (.bm .append (.var 3) (.cons (.tup (.cons (.lit (.str "turn")) (.cons (.ix (.var 5) (.lit (.int 1))) (.cons (.ix (.var 5) (.lit (.int 2))) (.cons (.var 6) (.cons (.bin .add (.ix (.var 5) (.lit (.int 4))) (.var 4)) .nil)))))) .nil))) .nil)))
      (.cons (.ite (.cmp .eq (.ix (.var 5) (.lit (.int 0))) (.lit (.str "away")))
        (.cons (.asg (.name 7) (.ix (.var 5) (.lit (.int 2))))
        (.cons (.ite (.notN (.var 7))
          (.cons (.asg (.name 7) (.bin .add (.var 7) (.var 4))) .nil)
          .nil)
        (.cons (.expr (.bm .append (.var 3) (.cons (.tup (.cons (.lit (.str "away")) (.cons (.bin .add (.ix (.var 5) (.lit (.int 1))) (.var 4)) (.cons (.var 7) (.cons (.ix (.var 5) (.lit (.int 3))) (.cons (.bin .add (.ix (.var 5) (.lit (.int 4))) (.var 4)) .nil)))))) .nil))) .nil)))
        (.cons (.expr (.bm .append (.var 3) (.cons (.bin .add (.sl (.var 5) .no (.of (.neg (.lit (.int 1))))) (.tup (.cons (.bin .add (.ix (.var 5) (.neg (.lit (.int 1)))) (.var 4)) .nil))) .nil))) .nil)) .nil)) .nil))
  (.cons (.ret (.var 3)) .nil))))⟩
/-! 121: law_refused -/
/-- 0=_law_one 1=_law_two 2=_law_told -/
def f_law_refused : FDef := ⟨2, 3,
  (.cons (.asg (.name 2) (.lst (.cons (.lit (.bl false)) (.cons (.lit (.bl false)) .nil))))
  (.cons (.tryx
    (.cons (.expr (.call 47 (.cons (.var 0) (.cons (.var 1) (.cons (.lit (.int 0)) .nil))))) .nil)
    [(12, [.sub 2 0 (.bl true)])])
  (.cons (.tryx
    (.cons (.expr (.call 48 (.cons (.var 0) (.cons (.var 1) .nil)))) .nil)
    [(12, [.sub 2 1 (.bl true)])])
  (.cons (.ret (.var 2)) .nil))))⟩
/-! 122: law_like -/
/-- 0=_law_actual 1=_law_due 2=_law_k -/
def f_law_like : FDef := ⟨2, 3,
  (.cons (.ite (.isN (.var 1))
    (.cons (.ret (.isN (.var 0))) .nil)
    .nil)
  (.cons (.ite (.of (.isi "bool" (.var 1)))
    (.cons (.ret (.and (.isi "bool" (.var 0)) (.cmp .eq (.var 0) (.var 1)))) .nil)
    .nil)
  (.cons (.ite (.of (.isi "int" (.var 1)))
    (.cons (.ret (.and (.isi "int" (.var 0)) (.and (.nt (.isi "bool" (.var 0))) (.cmp .eq (.var 0) (.var 1))))) .nil)
    .nil)
  (.cons (.ite (.of (.isi "str" (.var 1)))
    (.cons (.ret (.and (.isi "str" (.var 0)) (.cmp .eq (.var 0) (.var 1)))) .nil)
    .nil)
  (.cons (.ite (.of (.isi "tuple" (.var 1)))
    (.cons (.ite (.or (.nt (.of (.isi "tuple" (.var 0)))) (.cmp .ne (.bi .len (.cons (.var 0) .nil)) (.bi .len (.cons (.var 1) .nil))))
      (.cons (.ret (.lit (.bl false))) .nil)
      .nil) .nil)
    (.cons (.ite (.or (.nt (.of (.isi "list" (.var 0)))) (.cmp .ne (.bi .len (.cons (.var 0) .nil)) (.bi .len (.cons (.var 1) .nil))))
      (.cons (.ret (.lit (.bl false))) .nil)
      .nil) .nil))
  (.cons (.forr (.name 2) (.rng1 (.bi .len (.cons (.var 1) .nil))) [2]
    (.cons (.ite (.nt (.of (.call 122 (.cons (.ix (.var 0) (.var 2)) (.cons (.ix (.var 1) (.var 2)) .nil)))))
      (.cons (.ret (.lit (.bl false))) .nil)
      .nil) .nil))
  (.cons (.ret (.lit (.bl true))) .nil)))))))⟩
/-! 123: law_made_2 -/
/-- 0=_law_rooms 1=_law_order 2=_law_log_here 3=_law_made_here -/
def f_law_made_2 : FDef := ⟨3, 4,
  (.cons (.asg (.name 3) (.lit .non))
  (.cons (.tryx
    (.cons (.asg (.name 3) (.call 35 (.cons (.var 0) (.cons (.var 1) (.cons (.var 2) .nil))))) .nil)
    [(0, [.lit 3 .non])])
  (.cons (.ret (.var 3)) .nil)))⟩
/-! 124: law_undo -/
/-- 0=_law_house 1=_law_told -/
def f_law_undo : FDef := ⟨1, 2,
  (.cons (.asg (.name 1) (.lit (.bl true)))
  (.cons (.tryx
    (.cons (.expr (.meth 0 72 (.var 0) .nil)) .nil)
    [(11, [.lit 1 (.bl false)])])
  (.cons (.ret (.var 1)) .nil)))⟩
/-! 125: law_take_2 -/
/-- 0=_law_state 1=_law_deed 2=_law_number -/
def f_law_take_2 : FDef := ⟨3, 3,
  (.cons (.ite (.cmp .eq (.ix (.var 1) (.lit (.int 0))) (.lit (.str "plan")))
    (.cons (.setIx (.ixd (.var 0) (.lit (.str "plans"))) (.ix (.var 1) (.lit (.int 1))) (.ix (.var 1) (.lit (.int 2)))) .nil)
    (.cons (.ite (.cmp .eq (.ix (.var 1) (.lit (.int 0))) (.lit (.str "turn")))
      (.cons (.setIx (.ixd (.var 0) (.lit (.str "turns"))) (.ix (.var 1) (.lit (.int 1))) (.tup (.cons (.var 2) (.cons (.ix (.var 1) (.lit (.int 2))) (.cons (.ix (.var 1) (.lit (.int 3))) (.cons (.ix (.var 1) (.lit (.int 4))) .nil)))))) .nil)
      (.cons (.ite (.cmp .eq (.ix (.var 1) (.lit (.int 0))) (.lit (.str "back")))
        (.cons (.setIx (.ixd (.var 0) (.lit (.str "turns"))) (.ix (.var 1) (.lit (.int 1))) (.lit .non)) .nil)
        (.cons (.ite (.cmp .eq (.ix (.var 1) (.lit (.int 0))) (.lit (.str "away")))
          (.cons (.setIx (.var 0) (.lit (.str "away")) (.tup (.cons (.var 2) (.cons (.ix (.var 1) (.lit (.int 1))) (.cons (.ix (.var 1) (.lit (.int 2))) (.cons (.ix (.var 1) (.lit (.int 3))) .nil)))))) .nil)
          (.cons (.ite (.cmp .eq (.ix (.var 1) (.lit (.int 0))) (.lit (.str "home")))
            (.cons (.setIx (.var 0) (.lit (.str "away")) (.lit .non)) .nil)
            (.cons (.ite (.isN (.ix (.var 1) (.lit (.int 2))))
              (.cons (.setIx (.ixd (.var 0) (.lit (.str "follows"))) (.ix (.var 1) (.lit (.int 1))) (.lit .non)) .nil)
              (.cons (.setIx (.ixd (.var 0) (.lit (.str "follows"))) (.ix (.var 1) (.lit (.int 1))) (.tup (.cons (.ix (.var 1) (.lit (.int 2))) (.cons (.ix (.var 1) (.lit (.int 3))) .nil)))) .nil)) .nil)) .nil)) .nil)) .nil)) .nil)) .nil)⟩
/-! 126: law_hours_2 -/
/-- 0=_law_rooms 1=_law_order 2=_law_log 3=_law_most 4=_law_state 5=_law_found 6=_law_at 7=_law_hour 8=_law_room -/
def f_law_hours_2 : FDef := ⟨4, 9,
  (.cons (.asg (.name 4) (.call 114 (.cons (.var 0) .nil)))
  (.cons (.asg (.name 5) (.lst .nil))
  (.cons (.asg (.name 6) (.lit (.int 0)))
  (.cons (.forr (.name 7) (.rng1 (.var 3)) [7]
    (.cons (.whil (.and (.cmp .lt (.var 6) (.bi .len (.cons (.var 2) .nil))) (.cmp .eq (.ix (.ix (.var 2) (.var 6)) (.neg (.lit (.int 1)))) (.var 7))) []
      (.cons (.expr (.call 125 (.cons (.var 4) (.cons (.ix (.var 2) (.var 6)) (.cons (.var 6) .nil)))))
      (.cons (.asg (.name 6) (.bin .add (.var 6) (.lit (.int 1)))) .nil)))
    (.cons (.expr (.call 116 (.cons (.var 4) (.cons (.var 7) .nil))))
    (.cons (.expr (.bm .append (.var 5) (.cons (.lc [("_law_room", 8)] (.call 117 (.cons (.var 4) (.cons (.var 1) (.cons (.var 8) (.cons (.var 7) .nil))))) (.name 8) (.rng1 (.var 0)) .no) .nil))) .nil))))
  (.cons (.ret (.var 5)) .nil)))))⟩
/-! 127: law_row_deed -/
/-- 0=_law_draws 1=_law_hour 2=_law_way -/
def f_law_row_deed : FDef := ⟨2, 3,
  (.cons (.asg (.name 2) (.call 91 (.cons (.var 0) (.cons (.lit (.int 8)) .nil))))
  (.cons (.ite (.cmp .le (.var 2) (.lit (.int 3)))
    (.cons (.ret (.tup (.cons (.lit (.str "turn")) (.cons (.call 91 (.cons (.var 0) (.cons (.lit (.int 4)) .nil))) (.cons (.call 93 (.cons (.var 0) (.cons (.var 1) .nil))) (.cons (.var 1) .nil)))))) .nil)
    .nil)
  (.cons (.ite (.cmp .eq (.var 2) (.lit (.int 4)))
    (.cons (.ret (.tup (.cons (.lit (.str "back")) (.cons (.var 1) .nil)))) .nil)
    .nil)
  (.cons (.ite (.cmp .eq (.var 2) (.lit (.int 5)))
    (.cons (.ret (.tup (.cons (.lit (.str "home")) (.cons (.var 1) .nil)))) .nil)
    .nil)
  (.cons (.ret (.call 94 (.cons (.var 0) (.cons (.var 1) .nil)))) .nil)))))⟩
/-! 128: law_row -/
/-- 0=_law_draws 1=_law_most 2=_law_found 3=_law_hour 4=_law_k 5=_law_deed 6=_law_part -/
def f_law_row : FDef := ⟨2, 7,
  (.cons (.asg (.name 2) (.lst .nil))
  (.cons (.asg (.name 3) (.call 91 (.cons (.var 0) (.cons (.lit (.int 20)) .nil))))
  (.cons (.forr (.name 4) (.rng1 (.call 91 (.cons (.var 0) (.cons (.bin .add (.var 1) (.lit (.int 1))) .nil)))) [4, 5]
    (.cons (.asg (.name 5) (.call 127 (.cons (.var 0) (.cons (.var 3) .nil))))
    (.cons (.ite (.and (.nt (.of (.bi .any (.cons (.lc [("_law_part", 6)] (.and (.isi "int" (.var 6)) (.cmp .gt (.var 6) (.lit (.int 400)))) (.name 6) (.of (.var 5)) .no) .nil)))) (.cmp .lt (.var 3) (.lit (.int 180))))
      (.cons (.expr (.bm .append (.var 2) (.cons (.var 5) .nil))) .nil)
      .nil)
    (.cons (.asg (.name 3) (.bin .add (.var 3) (.ix (.lst (.cons (.lit (.int 0)) (.cons (.lit (.int 0)) (.cons (.lit (.int 1)) (.cons (.lit (.int 9)) (.cons (.lit (.int 50)) .nil)))))) (.call 91 (.cons (.var 0) (.cons (.lit (.int 5)) .nil)))))) .nil))))
  (.cons (.ret (.var 2)) .nil))))⟩
/-! 129: law_near -/
/-- 0=_law_draws 1=_law_deeds 2=_law_found 3=_law_way 4=_law_at 5=_law_deed 6=_law_held -/
def f_law_near : FDef := ⟨2, 7,
  (.cons (.asg (.name 2) (.bi .list (.cons (.var 1) .nil)))
  (.cons (.asg (.name 3) (.call 91 (.cons (.var 0) (.cons (.lit (.int 4)) .nil))))
  (.cons (.asg (.name 4) (.call 91 (.cons (.var 0) (.cons (.bin .add (.bi .len (.cons (.var 2) .nil)) (.lit (.int 1))) .nil))))
  (.cons (.ite (.and (.cmp .eq (.var 3) (.lit (.int 0))) (.cmp .lt (.var 4) (.bi .len (.cons (.var 2) .nil))))
    (.cons (.expr (.bm .pop (.var 2) (.cons (.var 4) .nil))) .nil)
    (.cons (.ite (.and (.cmp .eq (.var 3) (.lit (.int 1))) (.cmp .lt (.var 4) (.bi .len (.cons (.var 2) .nil))))
      (.cons (.asg (.name 5) (.ix (.var 2) (.var 4)))
      (.cons (.ite (.cmp .eq (.ix (.var 5) (.lit (.int 0))) (.lit (.str "turn")))
        (.cons (.setIx (.var 2) (.var 4) (.tup (.cons (.lit (.str "turn")) (.cons (.ix (.var 5) (.lit (.int 1))) (.cons (.call 93 (.cons (.var 0) (.cons (.ix (.var 5) (.lit (.int 3))) .nil))) (.cons (.ix (.var 5) (.lit (.int 3))) .nil)))))) .nil)
        .nil) .nil))
      (.cons (.ite (.and (.cmp .eq (.var 3) (.lit (.int 2))) (.and (.cmp .lt (.bin .add (.var 4) (.lit (.int 1))) (.bi .len (.cons (.var 2) .nil))) (.cmp .eq (.ix (.ix (.var 2) (.var 4)) (.neg (.lit (.int 1)))) (.ix (.ix (.var 2) (.bin .add (.var 4) (.lit (.int 1)))) (.neg (.lit (.int 1)))))))
        (.cons (.asg (.name 6) (.bm .pop (.var 2) (.cons (.var 4) .nil)))
        (.cons (.expr (.bm .insert (.var 2) (.cons (.bin .add (.var 4) (.lit (.int 1))) (.cons (.var 6) .nil)))) .nil))
        .nil) .nil)) .nil))
  (.cons (.ret (.var 2)) .nil)))))⟩
/-! 130: law_until_good_2 -/
/-- 0=_law_until_here 1=_law_hour -/
def f_law_until_good_2 : FDef := ⟨2, 2,
  (.cons (.ite (.or (.cmp .eq (.var 0) (.tup (.cons (.lit (.str "next")) .nil))) (.cmp .eq (.var 0) (.tup (.cons (.lit (.str "hold")) .nil))))
    (.cons (.ret (.lit (.bl true))) .nil)
    .nil)
  (.cons (.ite (.or (.nt (.of (.isi "tuple" (.var 0)))) (.or (.cmp .ne (.bi .len (.cons (.var 0) .nil)) (.lit (.int 2))) (.cmp .ne (.ix (.var 0) (.lit (.int 0))) (.lit (.str "till")))))
    (.cons (.ret (.lit (.bl false))) .nil)
    .nil)
  (.cons (.ret (.call 103 (.cons (.ix (.var 0) (.lit (.int 1))) (.cons (.bin .add (.var 1) (.lit (.int 1))) (.cons (.lit (.int 400)) .nil))))) .nil)))⟩
/-! 131: law_good_2 -/
/-- 0=_law_deed 1=_law_now -/
def f_law_good_2 : FDef := ⟨2, 2,
  (.cons (.ite (.or (.nt (.of (.isi "tuple" (.var 0)))) (.or (.cmp .lt (.bi .len (.cons (.var 0) .nil)) (.lit (.int 2))) (.nt (.of (.call 103 (.cons (.ix (.var 0) (.neg (.lit (.int 1)))) (.cons (.var 1) (.cons (.lit (.int 400)) .nil))))))))
    (.cons (.ret (.lit (.bl false))) .nil)
    .nil)
  (.cons (.ite (.cmp .inn (.ix (.var 0) (.lit (.int 0))) (.tup (.cons (.lit (.str "back")) (.cons (.lit (.str "home")) .nil))))
    (.cons (.ret (.cmp .eq (.bi .len (.cons (.var 0) .nil)) (.lit (.int 2)))) .nil)
    .nil)
  (.cons (.ite (.cmp .eq (.ix (.var 0) (.lit (.int 0))) (.lit (.str "turn")))
    (.cons (.ret (.and (.cmp .eq (.bi .len (.cons (.var 0) .nil)) (.lit (.int 4))) (.and (.call 103 (.cons (.ix (.var 0) (.lit (.int 1))) (.cons (.lit (.int 0)) (.cons (.lit (.int 9)) .nil)))) (.call 130 (.cons (.ix (.var 0) (.lit (.int 2))) (.cons (.ix (.var 0) (.lit (.int 3))) .nil)))))) .nil)
    .nil)
  (.cons (.ite (.or (.cmp .ne (.ix (.var 0) (.lit (.int 0))) (.lit (.str "away"))) (.or (.cmp .ne (.bi .len (.cons (.var 0) .nil)) (.lit (.int 5))) (.or (.nt (.of (.call 103 (.cons (.ix (.var 0) (.lit (.int 3))) (.cons (.lit (.int 0)) (.cons (.lit (.int 9)) .nil)))))) (.nt (.of (.call 103 (.cons (.ix (.var 0) (.lit (.int 1))) (.cons (.ix (.var 0) (.lit (.int 4))) (.cons (.lit (.int 400)) .nil)))))))))
    (.cons (.ret (.lit (.bl false))) .nil)
    .nil)
  (.cons (.ret (.or (.isN (.ix (.var 0) (.lit (.int 2)))) (.call 103 (.cons (.ix (.var 0) (.lit (.int 2))) (.cons (.bin .add (.ix (.var 0) (.lit (.int 1))) (.lit (.int 1))) (.cons (.lit (.int 400)) .nil)))))) .nil)))))⟩
/-! 132: law_due_2 -/
/-- 0=_law_deeds 1=_law_now 2=_law_k -/
def f_law_due_2 : FDef := ⟨1, 3,
  (.cons (.ite (.cmp .gt (.bi .len (.cons (.var 0) .nil)) (.lit (.int 4)))
    (.cons (.ret (.tup (.cons (.lit (.str "deed")) (.cons (.lit (.int 4)) .nil)))) .nil)
    .nil)
  (.cons (.asg (.name 1) (.lit (.int 0)))
  (.cons (.forr (.name 2) (.rng1 (.bi .len (.cons (.var 0) .nil))) [2]
    (.cons (.ite (.nt (.of (.call 131 (.cons (.ix (.var 0) (.var 2)) (.cons (.var 1) .nil)))))
      (.cons (.ret (.tup (.cons (.lit (.str "deed")) (.cons (.var 2) .nil)))) .nil)
      .nil)
    (.cons (.asg (.name 1) (.ix (.ix (.var 0) (.var 2)) (.neg (.lit (.int 1))))) .nil)))
  (.cons (.ret (.tup (.cons (.lit (.str "good")) .nil))) .nil))))⟩
/-! 133: law_whole -/
/-- 0=_law_deeds 1=_law_plan_here 2=_law_found 3=_law_deed -/
def f_law_whole : FDef := ⟨2, 4,
  (.cons (.asg (.name 2) (.lst (.cons (.tup (.cons (.lit (.str "plan")) (.cons (.lit (.int 0)) (.cons (.var 1) (.cons (.lit (.int 0)) .nil))))) .nil)))
  (.cons (.forr (.name 3) (.of (.var 0)) [3]
    (.cons (.ite (.cmp .inn (.ix (.var 3) (.lit (.int 0))) (.tup (.cons (.lit (.str "turn")) (.cons (.lit (.str "back")) .nil))))
      (.cons (.expr (.bm .append (.var 2) (.cons (.bin .add (.tup (.cons (.ix (.var 3) (.lit (.int 0))) (.cons (.lit (.int 0)) .nil))) (.sl (.var 3) (.of (.lit (.int 1))) .no)) .nil))) .nil)
      (.cons (.expr (.bm .append (.var 2) (.cons (.var 3) .nil))) .nil)) .nil))
  (.cons (.ret (.var 2)) .nil)))⟩
/-! 134: law_refused_2 -/
/-- 0=_law_row_here 1=_law_order 2=_law_plan_here 3=_law_told -/
def f_law_refused_2 : FDef := ⟨3, 4,
  (.cons (.asg (.name 3) (.lit (.str "good")))
  (.cons (.tryx
    (.cons (.expr (.call 87 (.cons (.var 1) (.cons (.var 2) (.cons (.var 0) .nil))))) .nil)
    [(3, [.lit 3 (.str "order")]), (1, [.lit 3 (.str "plan")])])
  (.cons (.ret (.var 3)) .nil)))⟩
/-! 135: law_trial -/
/-- 0=_law_draws 1=_law_deeds 2=_law_hour -/
def f_law_trial : FDef := ⟨2, 3,
  (.cons (.ite (.or (.cmp .eq (.bi .len (.cons (.var 1) .nil)) (.lit (.int 0))) (.cmp .eq (.call 91 (.cons (.var 0) (.cons (.lit (.int 3)) .nil))) (.lit (.int 0))))
    (.cons (.ret (.call 92 (.cons (.var 0) .nil))) .nil)
    .nil)
  (.cons (.asg (.name 2) (.bin .sub (.bin .add (.ix (.ix (.var 1) (.call 91 (.cons (.var 0) (.cons (.bi .len (.cons (.var 1) .nil)) .nil)))) (.neg (.lit (.int 1)))) (.call 91 (.cons (.var 0) (.cons (.lit (.int 3)) .nil)))) (.lit (.int 1))))
  (.cons (.ret (.tup (.cons (.tup (.cons (.bin .mod (.var 2) (.lit (.int 168))) (.cons (.call 91 (.cons (.var 0) (.cons (.lit (.int 10)) .nil))) .nil))) .nil))) .nil)))⟩
/-! 136: law_refused_3 -/
/-- 0=_law_one 1=_law_two 2=_law_told -/
def f_law_refused_3 : FDef := ⟨2, 3,
  (.cons (.asg (.name 2) (.lit (.bl false)))
  (.cons (.tryx
    (.cons (.expr (.call 64 (.cons (.lit (.str "oldest")) (.cons (.var 0) (.cons (.var 1) .nil))))) .nil)
    [(3, [.lit 2 (.bl true)])])
  (.cons (.ret (.var 2)) .nil)))⟩
/-! 137: law_refused_4 -/
/-- 0=_law_row_here 1=_law_told -/
def f_law_refused_4 : FDef := ⟨1, 2,
  (.cons (.asg (.name 1) (.lst (.cons (.lit (.bl false)) (.cons (.lit (.bl false)) .nil))))
  (.cons (.tryx
    (.cons (.expr (.call 65 (.cons (.lit .non) (.cons (.var 0) .nil)))) .nil)
    [(3, [.sub 1 0 (.bl true)])])
  (.cons (.tryx
    (.cons (.expr (.call 66 (.cons (.lit (.str "late")) (.cons (.var 0) .nil)))) .nil)
    [(3, [.sub 1 1 (.bl true)])])
  (.cons (.ret (.var 1)) .nil))))⟩
/-! 138: law_word -/
/-- 0=_law_part 1=_law_one 2=_law_rows 3=_law_switch -/
def f_law_word : FDef := ⟨1, 4,
  (.cons (.ite (.isN (.var 0))
    (.cons (.ret (.lit (.str "-"))) .nil)
    .nil)
  (.cons (.ite (.and (.of (.isi "tuple" (.var 0))) (.and (.cmp .gt (.bi .len (.cons (.var 0) .nil)) (.lit (.int 0))) (.of (.isi "str" (.ix (.var 0) (.lit (.int 0)))))))
    (.cons (.ret (.bm .join (.lit (.str " ")) (.cons (.lc [("_law_one", 1)] (.bi .str (.cons (.var 1) .nil)) (.name 1) (.of (.var 0)) .no) .nil))) .nil)
    .nil)
  (.cons (.ite (.of (.isi "tuple" (.var 0)))
    (.cons (.asg (.name 2) (.lc [("_law_switch", 3)] (.bin .add (.bin .add (.bi .str (.cons (.ix (.var 3) (.lit (.int 0))) .nil)) (.lit (.str "="))) (.bi .str (.cons (.ix (.var 3) (.lit (.int 1))) .nil))) (.name 3) (.of (.var 0)) .no))
    (.cons (.ret (.ix (.lst (.cons (.bm .join (.lit (.str ",")) (.cons (.var 2) .nil)) (.cons (.lit (.str "-")) .nil))) (.bi .int (.cons (.cmp .eq (.bi .len (.cons (.var 2) .nil)) (.lit (.int 0))) .nil)))) .nil))
    .nil)
  (.cons (.ret (.bi .str (.cons (.var 0) .nil))) .nil))))⟩
/-! 139: law_line -/
/-- 0=_law_deed_here 1=_law_part -/
def f_law_line : FDef := ⟨1, 2,
  (.cons (.ret (.bm .join (.lit (.str " ")) (.cons (.bin .add (.lst (.cons (.ix (.var 0) (.lit (.int 0))) .nil)) (.lc [("_law_part", 1)] (.call 138 (.cons (.var 1) .nil)) (.name 1) (.of (.sl (.var 0) (.of (.lit (.int 1))) .no)) .no)) .nil))) .nil)⟩
/-! 140: law_lines -/
/-- 0=_law_rooms 1=_law_order 2=_law_log_here 3=_law_deed_here -/
def f_law_lines : FDef := ⟨3, 4,
  (.cons (.ret (.bin .add (.lst (.cons (.bin .add (.bin .add (.bin .add (.lit (.str "house ")) (.bi .str (.cons (.var 0) .nil))) (.lit (.str " "))) (.var 1)) .nil)) (.lc [("_law_deed_here", 3)] (.call 139 (.cons (.var 3) .nil)) (.name 3) (.of (.var 2)) .no))) .nil)⟩
/-! 141: law_told_4 -/
/-- 0=_law_lines_here 1=_law_told_here 2=e -/
def f_law_told_4 : FDef := ⟨1, 3,
  (.cons (.asg (.name 1) (.lit .non))
  (.cons (.tryAs
    (.cons (.asg (.name 1) (.call 81 (.cons (.bm .join (.lit (.str "\n")) (.cons (.var 0) .nil)) .nil))) .nil)
    14 2 [.pay 1 "line"])
  (.cons (.ret (.var 1)) .nil)))⟩
/-! 142: law_spoil -/
/-- 0=_law_draws 1=_law_lines_here 2=_law_at 3=_law_words 4=_law_where 5=_law_odd 6=_law_way 7=_law_held -/
def f_law_spoil : FDef := ⟨2, 8,
  (.cons (.asg (.name 2) (.call 91 (.cons (.var 0) (.cons (.bi .len (.cons (.var 1) .nil)) .nil))))
  (.cons (.asg (.name 3) (.bm .split (.ix (.var 1) (.var 2)) (.cons (.lit (.str " ")) .nil)))
  (.cons (.asg (.name 4) (.call 91 (.cons (.var 0) (.cons (.bi .len (.cons (.var 3) .nil)) .nil))))
  (.cons (.asg (.name 5) (.lst (.cons (.lit (.str "")) (.cons (.lit (.str "-")) (.cons (.lit (.str "0")) (.cons (.lit (.str "1")) (.cons (.lit (.str "10")) (.cons (.lit (.str "00")) (.cons (.lit (.str "-1")) (.cons (.lit (.str "next")) (.cons (.lit (.str "till")) (.cons (.lit (.str "hold")) (.cons (.lit (.str "3=4")) (.cons (.lit (.str "5=1,4=2")) (.cons (.lit (.str "167=9")) (.cons (.lit (.str "home")) (.cons (.lit (.str "999")) .nil)))))))))))))))))
  (.cons (.asg (.name 6) (.call 91 (.cons (.var 0) (.cons (.lit (.int 8)) .nil))))
  (.cons (.ite (.cmp .le (.var 6) (.lit (.int 1)))
    (.cons (.setIx (.var 3) (.var 4) (.ix (.var 5) (.call 91 (.cons (.var 0) (.cons (.bi .len (.cons (.var 5) .nil)) .nil))))) .nil)
    .nil)
  (.cons (.ite (.cmp .eq (.var 6) (.lit (.int 2)))
    (.cons (.expr (.bm .pop (.var 3) (.cons (.var 4) .nil))) .nil)
    .nil)
  (.cons (.ite (.cmp .eq (.var 6) (.lit (.int 3)))
    (.cons (.expr (.bm .insert (.var 3) (.cons (.var 4) (.cons (.ix (.var 5) (.call 91 (.cons (.var 0) (.cons (.bi .len (.cons (.var 5) .nil)) .nil)))) .nil)))) .nil)
    .nil)
  (.cons (.setIx (.var 1) (.var 2) (.bm .join (.lit (.str " ")) (.cons (.var 3) .nil)))
  (.cons (.ite (.cmp .eq (.var 6) (.lit (.int 4)))
    (.cons (.expr (.bm .insert (.var 1) (.cons (.var 2) (.cons (.ix (.lst (.cons (.lit (.str "")) (.cons (.lit (.str "home 0")) (.cons (.lit (.str "house 1 away")) (.cons (.lit (.str "back 0 9999")) (.cons (.lit (.str "turn 0 1 till 5 9")) .nil)))))) (.call 91 (.cons (.var 0) (.cons (.lit (.int 5)) .nil)))) .nil)))) .nil)
    .nil)
  (.cons (.ite (.cmp .eq (.var 6) (.lit (.int 5)))
    (.cons (.setIx (.var 1) (.var 2) (.bin .add (.ix (.var 1) (.var 2)) (.lit (.str " ")))) .nil)
    .nil)
  (.cons (.ite (.cmp .eq (.var 6) (.lit (.int 6)))
    (.cons (.asg (.name 7) (.bm .pop (.var 1) (.cons (.var 2) .nil)))
    (.cons (.expr (.bm .insert (.var 1) (.cons (.call 91 (.cons (.var 0) (.cons (.bin .add (.bi .len (.cons (.var 1) .nil)) (.lit (.int 1))) .nil))) (.cons (.var 7) .nil)))) .nil))
    .nil)
  (.cons (.ite (.and (.cmp .eq (.var 6) (.lit (.int 7))) (.cmp .gt (.bi .len (.cons (.var 1) .nil)) (.lit (.int 1))))
    (.cons (.expr (.bm .pop (.var 1) (.cons (.var 2) .nil))) .nil)
    .nil) .nil)))))))))))))⟩
/-! 143: law_new_2 -/
/-- 0=_law_value 1=_law_order -/
def f_law_new_2 : FDef := ⟨2, 2,
  (.cons (.ite (.isN (.var 0))
    (.cons (.ret (.lit .non)) .nil)
    .nil)
  (.cons (.ret (.ix (.var 1) (.var 0))) .nil))⟩
/-! 144: law_changed -/
/-- 0=_law_deed_here 1=_law_order 2=_law_switch -/
def f_law_changed : FDef := ⟨2, 3,
  (.cons (.ite (.cmp .eq (.ix (.var 0) (.lit (.int 0))) (.lit (.str "plan")))
    (.cons (.ret (.tup (.cons (.lit (.str "plan")) (.cons (.ix (.var 0) (.lit (.int 1))) (.cons (.bi .tuple (.cons (.lc [("_law_switch", 2)] (.tup (.cons (.ix (.var 2) (.lit (.int 0))) (.cons (.ix (.var 1) (.ix (.var 2) (.lit (.int 1)))) .nil))) (.name 2) (.of (.ix (.var 0) (.lit (.int 2)))) .no) .nil)) (.cons (.ix (.var 0) (.lit (.int 3))) .nil)))))) .nil)
    .nil)
  (.cons (.ite (.cmp .eq (.ix (.var 0) (.lit (.int 0))) (.lit (.str "turn")))
    (.cons (.ret (.tup (.cons (.lit (.str "turn")) (.cons (.ix (.var 0) (.lit (.int 1))) (.cons (.ix (.var 1) (.ix (.var 0) (.lit (.int 2)))) (.cons (.ix (.var 0) (.lit (.int 3))) (.cons (.ix (.var 0) (.lit (.int 4))) .nil))))))) .nil)
    .nil)
  (.cons (.ite (.cmp .eq (.ix (.var 0) (.lit (.int 0))) (.lit (.str "away")))
    (.cons (.ret (.bin .add (.sl (.var 0) .no (.of (.lit (.int 3)))) (.tup (.cons (.ix (.var 1) (.ix (.var 0) (.lit (.int 3)))) (.cons (.ix (.var 0) (.lit (.int 4))) .nil))))) .nil)
    .nil)
  (.cons (.ret (.var 0)) .nil))))⟩
/-! 145: law_first -/
/-- 0=_law_at 1=_law_house -/
def f_law_first : FDef := ⟨2, 2,
  (.cons (.ite (.cmp .eq (.var 0) (.lit (.int 0)))
    (.cons (.expr (.call 7 (.cons (.lit .non) .nil))) .nil)
    .nil)
  (.cons (.ite (.cmp .eq (.var 0) (.lit (.int 1)))
    (.cons (.expr (.make 0 19 (.cons (.lit (.int 4)) (.cons (.lit (.str "newest")) .nil)))) .nil)
    .nil)
  (.cons (.ite (.cmp .eq (.var 0) (.lit (.int 2)))
    (.cons (.expr (.make 0 19 (.cons (.lit (.int 1)) (.cons (.lit (.str "late")) .nil)))) .nil)
    .nil)
  (.cons (.ite (.cmp .eq (.var 0) (.lit (.int 3)))
    (.cons (.expr (.meth 0 25 (.var 1) (.cons (.lit (.int 2)) (.cons (.lit (.int 0)) .nil)))) .nil)
    .nil)
  (.cons (.ite (.cmp .eq (.var 0) (.lit (.int 4)))
    (.cons (.expr (.meth 0 27 (.var 1) (.cons (.neg (.lit (.int 1))) .nil))) .nil)
    .nil)
  (.cons (.ite (.cmp .eq (.var 0) (.lit (.int 5)))
    (.cons (.expr (.meth 0 24 (.var 1) (.cons (.lit (.int 0)) (.cons (.lit (.int 10)) (.cons (.tup (.cons (.lit (.str "hold")) .nil)) (.cons (.lit (.int 0)) .nil)))))) .nil)
    .nil)
  (.cons (.ite (.cmp .eq (.var 0) (.lit (.int 6)))
    (.cons (.expr (.meth 0 24 (.var 1) (.cons (.lit (.int 0)) (.cons (.lit (.int 1)) (.cons (.tup (.cons (.lit (.str "late")) .nil)) (.cons (.lit (.int 0)) .nil)))))) .nil)
    .nil) .nil)))))))⟩
/-! 146: law_second -/
/-- 0=_law_at 1=_law_house -/
def f_law_second : FDef := ⟨2, 2,
  (.cons (.ite (.cmp .eq (.var 0) (.lit (.int 7)))
    (.cons (.expr (.meth 0 26 (.var 1) (.cons (.lit (.int 5)) (.cons (.lit (.int 5)) (.cons (.lit (.int 1)) (.cons (.lit (.int 0)) .nil)))))) .nil)
    .nil)
  (.cons (.ite (.cmp .eq (.var 0) (.lit (.int 8)))
    (.cons (.expr (.meth 0 28 (.var 1) (.cons (.lit (.int 0)) (.cons (.lit (.int 1)) (.cons (.lit (.int 10)) (.cons (.lit (.int 0)) .nil)))))) .nil)
    .nil)
  (.cons (.ite (.cmp .eq (.var 0) (.lit (.int 9)))
    (.cons (.expr (.meth 0 28 (.var 1) (.cons (.lit (.int 0)) (.cons (.lit (.int 0)) (.cons (.lit (.int 1)) (.cons (.lit (.int 0)) .nil)))))) .nil)
    .nil)
  (.cons (.ite (.cmp .eq (.var 0) (.lit (.int 10)))
    (.cons (.expr (.meth 0 72 (.var 1) .nil)) .nil)
    .nil)
  (.cons (.ite (.cmp .eq (.var 0) (.lit (.int 11)))
    (.cons (.expr (.call 48 (.cons (.var 1) (.cons (.make 0 19 (.cons (.lit (.int 1)) (.cons (.lit (.str "newest")) .nil))) .nil)))) .nil)
    .nil)
  (.cons (.ite (.cmp .eq (.var 0) (.lit (.int 12)))
    (.cons (.expr (.make 1 58 (.cons (.lst (.cons (.tup (.cons (.lit (.str "loop")) .nil)) .nil)) .nil))) .nil)
    .nil)
  (.cons (.ite (.cmp .eq (.var 0) (.lit (.int 13)))
    (.cons (.expr (.call 81 (.cons (.lit (.str "")) .nil))) .nil)
    .nil) .nil)))))))⟩
/-! 147: law_kinds -/
/-- 0=_law_e 1=_law_told -/
def f_law_kinds : FDef := ⟨1, 2,
  (.cons (.asg (.name 1) (.lst (.cons .bad (.cons .bad (.cons .bad (.cons .bad .nil))))))
  (.cons (.asg (.name 1) (.bin .add (.var 1) (.lst (.cons .bad (.cons .bad (.cons .bad (.cons .bad .nil)))))))
  (.cons (.asg (.name 1) (.bin .add (.var 1) (.lst (.cons .bad (.cons .bad (.cons .bad .nil))))))
  (.cons (.asg (.name 1) (.bin .add (.var 1) (.lst (.cons .bad (.cons .bad (.cons .bad .nil))))))
  (.cons (.ret (.bin .add (.var 1) (.lst (.cons .bad .nil)))) .nil)))))⟩
/-! 148: law_row_2 -/
/-- 0=_law_draws 1=_law_most 2=_law_found 3=_law_hour 4=_law_k 5=_law_deed_here 6=_law_part -/
def f_law_row_2 : FDef := ⟨2, 7,
  (.cons (.asg (.name 2) (.lst .nil))
  (.cons (.asg (.name 3) (.call 91 (.cons (.var 0) (.cons (.lit (.int 20)) .nil))))
  (.cons (.forr (.name 4) (.rng1 (.call 91 (.cons (.var 0) (.cons (.bin .add (.var 1) (.lit (.int 1))) .nil)))) [4, 5]
    (.cons (.asg (.name 5) (.call 127 (.cons (.var 0) (.cons (.var 3) .nil))))
    (.cons (.ite (.and (.nt (.of (.bi .any (.cons (.lc [("_law_part", 6)] (.and (.isi "int" (.var 6)) (.cmp .gt (.var 6) (.lit (.int 400)))) (.name 6) (.of (.var 5)) .no) .nil)))) (.cmp .lt (.var 3) (.lit (.int 180))))
      (.cons (.expr (.bm .append (.var 2) (.cons (.var 5) .nil))) .nil)
      .nil)
    (.cons (.asg (.name 3) (.bin .add (.var 3) (.ix (.lst (.cons (.lit (.int 0)) (.cons (.lit (.int 0)) (.cons (.lit (.int 1)) (.cons (.lit (.int 9)) (.cons (.lit (.int 50)) .nil)))))) (.call 91 (.cons (.var 0) (.cons (.lit (.int 5)) .nil)))))) .nil))))
  (.cons (.ret (.var 2)) .nil))))⟩
/-! 149: law_near_2 -/
/-- 0=_law_draws 1=_law_deeds 2=_law_found 3=_law_way 4=_law_at 5=_law_deed_here 6=_law_held -/
def f_law_near_2 : FDef := ⟨2, 7,
  (.cons (.asg (.name 2) (.bi .list (.cons (.var 1) .nil)))
  (.cons (.asg (.name 3) (.call 91 (.cons (.var 0) (.cons (.lit (.int 4)) .nil))))
  (.cons (.asg (.name 4) (.call 91 (.cons (.var 0) (.cons (.bin .add (.bi .len (.cons (.var 2) .nil)) (.lit (.int 1))) .nil))))
  (.cons (.ite (.and (.cmp .eq (.var 3) (.lit (.int 0))) (.cmp .lt (.var 4) (.bi .len (.cons (.var 2) .nil))))
    (.cons (.expr (.bm .pop (.var 2) (.cons (.var 4) .nil))) .nil)
    (.cons (.ite (.and (.cmp .eq (.var 3) (.lit (.int 1))) (.cmp .lt (.var 4) (.bi .len (.cons (.var 2) .nil))))
      (.cons (.asg (.name 5) (.ix (.var 2) (.var 4)))
      (.cons (.ite (.cmp .eq (.ix (.var 5) (.lit (.int 0))) (.lit (.str "turn")))
        (.cons (.setIx (.var 2) (.var 4) (.tup (.cons (.lit (.str "turn")) (.cons (.ix (.var 5) (.lit (.int 1))) (.cons (.call 93 (.cons (.var 0) (.cons (.ix (.var 5) (.lit (.int 3))) .nil))) (.cons (.ix (.var 5) (.lit (.int 3))) .nil)))))) .nil)
        .nil) .nil))
      (.cons (.ite (.and (.cmp .eq (.var 3) (.lit (.int 2))) (.and (.cmp .lt (.bin .add (.var 4) (.lit (.int 1))) (.bi .len (.cons (.var 2) .nil))) (.cmp .eq (.ix (.ix (.var 2) (.var 4)) (.neg (.lit (.int 1)))) (.ix (.ix (.var 2) (.bin .add (.var 4) (.lit (.int 1)))) (.neg (.lit (.int 1)))))))
        (.cons (.asg (.name 6) (.bm .pop (.var 2) (.cons (.var 4) .nil)))
        (.cons (.expr (.bm .insert (.var 2) (.cons (.bin .add (.var 4) (.lit (.int 1))) (.cons (.var 6) .nil)))) .nil))
        .nil) .nil)) .nil))
  (.cons (.ret (.var 2)) .nil)))))⟩
/-! 150: law_every -/
/-- 0=_law_house 1=_law_other 2=_law_one 3=_law_two 4=_law_found -/
def f_law_every : FDef := ⟨4, 5,
  (.cons (.asg (.name 4) (.lst (.cons (.call 42 (.cons (.var 0) (.cons (.lit (.int 0)) (.cons (.lit (.int 9)) .nil)))) (.cons (.call 43 (.cons (.var 0) (.cons (.lit (.int 0)) .nil))) (.cons (.call 45 (.cons (.var 0) (.cons (.lit (.int 0)) (.cons (.lit (.int 3)) (.cons (.lit (.int 0)) (.cons (.lit (.int 999)) .nil)))))) (.cons (.call 49 (.cons (.var 0) (.cons (.lit (.int 0)) .nil))) .nil))))))
  (.cons (.asg (.name 4) (.bin .add (.var 4) (.lst (.cons (.call 51 (.cons (.var 0) (.cons (.lit (.int 0)) .nil))) (.cons (.call 53 (.cons (.var 0) .nil)) (.cons (.call 70 (.cons (.var 0) .nil)) (.cons (.meth 0 30 (.var 0) .nil) (.cons (.prop 0 20 (.var 0)) (.cons (.meth 0 33 (.var 0) (.cons (.lit (.int 0)) (.cons (.lit (.int 77)) .nil))) .nil)))))))))
  (.cons (.ite (.cmp .eq (.fld "rooms" (.var 0)) (.fld "rooms" (.var 1)))
    (.cons (.expr (.bm .append (.var 4) (.cons (.call 47 (.cons (.var 0) (.cons (.var 1) (.cons (.lit (.int 5)) .nil)))) .nil))) .nil)
    .nil)
  (.cons (.ret (.bin .add (.var 4) (.lst (.cons (.call 64 (.cons (.lit (.str "newest")) (.cons (.var 2) (.cons (.var 3) .nil)))) (.cons (.call 65 (.cons (.lit (.str "away")) (.cons (.var 2) .nil))) (.cons (.call 66 (.cons (.lit (.str "away")) (.cons (.var 3) .nil))) .nil)))))) .nil))))⟩
/-! 151: law_copied -/
/-- 0=_law_value 1=_law_one -/
def f_law_copied : FDef := ⟨1, 2,
  (.cons (.ite (.of (.isi "list" (.var 0)))
    (.cons (.ret (.lc [("_law_one", 1)] (.var 1) (.name 1) (.of (.var 0)) .no)) .nil)
    .nil)
  (.cons (.ret (.var 0)) .nil))⟩
/-! 152: law_k01 -/
/-- 0=_law_script 1=_law_draws 2=_law_places 3=_law_k 4=_law_plan_here 5=_law_place 6=_law_odd 7=_law_value 8=_law_good_here 9=_law_told_here 10=_law_found 11=_law_switch 12=_law_hour -/
def f_law_k01 : FDef := ⟨1, 13,
  (.cons (.asg (.name 1) (.call 90 (.cons (.var 0) .nil)))
  (.cons (.asg (.name 2) (.bi .sorted (.cons (.bi .set (.cons (.lc [("_law_k", 3)] (.call 91 (.cons (.var 1) (.cons (.lit (.int 168)) .nil))) (.name 3) (.rng1 (.call 91 (.cons (.var 1) (.cons (.lit (.int 16)) .nil)))) .no) .nil)) .nil)))
  (.cons (.asg (.name 4) (.bi .tuple (.cons (.lc [("_law_place", 5)] (.tup (.cons (.var 5) (.cons (.call 91 (.cons (.var 1) (.cons (.lit (.int 3)) .nil))) .nil))) (.name 5) (.of (.var 2)) .no) .nil)))
  (.cons (.asg (.name 6) (.lst (.cons (.lit .non) (.cons (.lit (.int 5)) (.cons (.lst (.cons (.tup (.cons (.lit (.int 1)) (.cons (.lit (.int 1)) .nil))) .nil)) (.cons (.tup (.cons (.tup (.cons (.lit (.int 1)) (.cons (.lit (.int 1)) .nil))) (.cons (.tup (.cons (.lit (.int 1)) (.cons (.lit (.int 2)) .nil))) .nil))) (.cons (.tup (.cons (.tup (.cons (.lit (.int 2)) (.cons (.lit (.int 1)) .nil))) (.cons (.tup (.cons (.lit (.int 1)) (.cons (.lit (.int 2)) .nil))) .nil))) (.cons (.tup (.cons (.tup (.cons (.lit (.int 168)) (.cons (.lit (.int 1)) .nil))) .nil)) (.cons (.tup (.cons (.tup (.cons (.lit (.int 1)) (.cons (.lit (.int 10)) .nil))) .nil)) (.cons (.tup (.cons (.tup (.cons (.lit (.bl true)) (.cons (.lit (.int 1)) .nil))) .nil)) .nil))))))))))
  (.cons (.asg (.name 6) (.bin .add (.var 6) (.lst (.cons (.tup (.cons (.tup (.cons (.lit (.int 1)) .nil)) .nil)) (.cons (.tup (.cons (.lit (.int 1)) (.cons (.lit (.int 2)) .nil))) (.cons (.tup (.cons (.tup (.cons (.lit (.int 0)) (.cons (.lit .non) .nil))) .nil)) (.cons (.lit (.str "plan")) (.cons (.bi .tuple (.cons (.lc [("_law_k", 3)] (.tup (.cons (.var 3) (.cons (.bin .mod (.var 3) (.lit (.int 2))) .nil))) (.name 3) (.rng1 (.lit (.int 15))) .no) .nil)) .nil))))))))
  (.cons (.asg (.name 7) (.var 4))
  (.cons (.ite (.cmp .eq (.call 91 (.cons (.var 1) (.cons (.lit (.int 3)) .nil))) (.lit (.int 0)))
    (.cons (.asg (.name 7) (.ix (.var 6) (.call 91 (.cons (.var 1) (.cons (.bi .len (.cons (.var 6) .nil)) .nil))))) .nil)
    .nil)
  (.cons (.asg (.name 8) (.call 96 (.cons (.var 7) .nil)))
  (.cons (.asg (.name 9) (.call 3 (.cons (.var 7) .nil)))
  (.cons (.ite (.or (.nt (.of (.isi "bool" (.var 9)))) (.cmp .ne (.var 9) (.var 8)))
    (.cons (.ret (.lit (.bl false))) .nil)
    .nil)
  (.cons (.asg (.name 10) (.call 98 (.cons (.var 7) .nil)))
  (.cons (.ite (.nt (.of (.var 8)))
    (.cons (.ret (.cmp .eq (.var 10) (.lit (.str "bad")))) .nil)
    .nil)
  (.cons (.ite (.or (.nt (.of (.call 96 (.cons (.var 10) .nil)))) (.of (.bi .any (.cons (.lc [("_law_switch", 11)] (.cmp .nin (.var 11) (.var 7)) (.name 11) (.of (.var 10)) .no) .nil))))
    (.cons (.ret (.lit (.bl false))) .nil)
    .nil)
  (.cons (.ite (.of (.bi .any (.cons (.lc [("_law_hour", 12)] (.cmp .ne (.call 97 (.cons (.var 10) (.cons (.var 12) .nil))) (.call 97 (.cons (.var 7) (.cons (.var 12) .nil)))) (.name 12) (.rng1 (.lit (.int 168))) .no) .nil)))
    (.cons (.ret (.lit (.bl false))) .nil)
    .nil)
  (.cons (.ite (.cmp .eq (.bi .len (.cons (.var 10) .nil)) (.lit (.int 1)))
    (.cons (.ret (.and (.bi .all (.cons (.lc [("_law_switch", 11)] (.cmp .eq (.ix (.var 11) (.lit (.int 1))) (.ix (.ix (.var 7) (.lit (.int 0))) (.lit (.int 1)))) (.name 11) (.of (.var 7)) .no) .nil)) (.cmp .eq (.ix (.var 10) (.lit (.int 0))) (.ix (.var 7) (.lit (.int 0)))))) .nil)
    .nil)
  (.cons (.ret (.bi .all (.cons (.lc [("_law_k", 3)] (.cmp .ne (.ix (.ix (.var 10) (.var 3)) (.lit (.int 1))) (.ix (.ix (.var 10) (.bin .sub (.var 3) (.lit (.int 1)))) (.lit (.int 1)))) (.name 3) (.rng1 (.bi .len (.cons (.var 10) .nil))) .no) .nil))) .nil))))))))))))))))⟩
/-! 153: law_k02 -/
/-- 0=_law_script 1=_law_draws 2=_law_rooms 3=_law_order 4=_law_due_here 5=_law_log_here 6=_law_house 7=_law_k 8=_law_now 9=_law_deed_here 10=_law_one -/
def f_law_k02 : FDef := ⟨1, 11,
  (.cons (.asg (.name 1) (.call 90 (.cons (.var 0) .nil)))
  (.cons (.asg (.name 2) (.ix (.lst (.cons (.lit (.int 1)) (.cons (.lit (.int 2)) (.cons (.lit (.int 3)) (.cons (.lit (.int 0)) (.cons (.lit (.int 4)) (.cons (.lit (.bl true)) (.cons (.lit .non) .nil)))))))) (.call 91 (.cons (.var 1) (.cons (.lit (.int 7)) .nil)))))
  (.cons (.asg (.name 3) (.ix (.lst (.cons (.lit (.str "newest")) (.cons (.lit (.str "away")) (.cons (.lit (.str "oldest")) (.cons (.lit .non) (.cons (.lit (.int 5)) .nil)))))) (.call 91 (.cons (.var 1) (.cons (.lit (.int 5)) .nil)))))
  (.cons (.asg (.name 4) (.lit (.str "good")))
  (.cons (.ite (.cmp .nin (.var 3) (.lst (.cons (.lit (.str "newest")) (.cons (.lit (.str "away")) .nil))))
    (.cons (.asg (.name 4) (.lit (.str "order"))) .nil)
    .nil)
  (.cons (.ite (.nt (.of (.call 103 (.cons (.var 2) (.cons (.lit (.int 1)) (.cons (.lit (.int 3)) .nil))))))
    (.cons (.asg (.name 4) (.lit (.str "count"))) .nil)
    .nil)
  (.cons (.ite (.cmp .ne (.call 112 (.cons (.var 2) (.cons (.var 3) .nil))) (.var 4))
    (.cons (.ret (.lit (.bl false))) .nil)
    .nil)
  (.cons (.asg (.name 2) (.bin .add (.lit (.int 1)) (.call 91 (.cons (.var 1) (.cons (.lit (.int 3)) .nil)))))
  (.cons (.asg (.name 5) (.call 102 (.cons (.var 1) (.cons (.var 2) (.cons (.lit (.int 5)) .nil)))))
  (.cons (.asg (.name 6) (.call 35 (.cons (.var 2) (.cons (.lit (.str "newest")) (.cons (.var 5) .nil)))))
  (.cons (.forr (.name 7) (.rng1 (.lit (.int 10))) [7, 8, 9]
    (.cons (.asg (.name 8) (.prop 0 20 (.var 6)))
    (.cons (.asg (.name 9) (.call 111 (.cons (.var 1) (.cons (.call 99 (.cons (.var 1) (.cons (.var 2) (.cons (.bin .add (.var 8) (.call 91 (.cons (.var 1) (.cons (.lit (.int 3)) .nil)))) .nil)))) (.cons (.var 8) .nil)))))
    (.cons (.asg (.name 4) (.call 110 (.cons (.var 9) (.cons (.var 2) (.cons (.var 5) (.cons (.var 8) .nil))))))
    (.cons (.ite (.cmp .ne (.call 105 (.cons (.var 6) (.cons (.var 9) .nil))) (.var 4))
      (.cons (.ret (.lit (.bl false))) .nil)
      .nil)
    (.cons (.ite (.cmp .eq (.var 4) (.lit (.str "good")))
      (.cons (.asg (.name 5) (.bin .add (.var 5) (.lst (.cons (.var 9) .nil)))) .nil)
      .nil)
    (.cons (.ite (.or (.cmp .ne (.meth 0 30 (.var 6) .nil) (.var 5)) (.cmp .ne (.lenI 0 31 (.var 6)) (.bi .len (.cons (.var 5) .nil))))
      (.cons (.ret (.lit (.bl false))) .nil)
      .nil)
    (.cons (.ite (.cmp .ne (.prop 0 20 (.var 6)) (.ix (.bin .add (.lst (.cons (.lit (.int 0)) .nil)) (.lc [("_law_one", 10)] (.ix (.var 10) (.neg (.lit (.int 1)))) (.name 10) (.of (.var 5)) .no)) (.neg (.lit (.int 1)))))
      (.cons (.ret (.lit (.bl false))) .nil)
      .nil) .nil))))))))
  (.cons (.ret (.lit (.bl true))) .nil))))))))))))⟩
/-! 154: law_k03 -/
/-- 0=_law_script 1=_law_draws 2=_law_rooms 3=_law_order 4=_law_log_here 5=_law_house 6=_law_hours_here 7=_law_some 8=_law_deed_here 9=_law_hour 10=_law_k 11=_law_room -/
def f_law_k03 : FDef := ⟨1, 12,
  (.cons (.asg (.name 1) (.call 90 (.cons (.var 0) .nil)))
  (.cons (.asg (.name 2) (.bin .add (.lit (.int 1)) (.call 91 (.cons (.var 1) (.cons (.lit (.int 3)) .nil)))))
  (.cons (.asg (.name 3) (.ix (.lst (.cons (.lit (.str "newest")) (.cons (.lit (.str "away")) .nil))) (.call 91 (.cons (.var 1) (.cons (.lit (.int 2)) .nil)))))
  (.cons (.asg (.name 4) (.call 102 (.cons (.var 1) (.cons (.var 2) (.cons (.lit (.int 12)) .nil)))))
  (.cons (.asg (.name 5) (.call 35 (.cons (.var 2) (.cons (.var 3) (.cons (.var 4) .nil)))))
  (.cons (.asg (.name 6) (.call 118 (.cons (.var 2) (.cons (.var 3) (.cons (.var 4) (.cons (.lit (.int 700)) .nil))))))
  (.cons (.asg (.name 7) (.lc [("_law_deed_here", 8)] (.ix (.var 8) (.neg (.lit (.int 1)))) (.name 8) (.of (.var 4)) (.of (.cmp .lt (.ix (.var 8) (.neg (.lit (.int 1)))) (.lit (.int 700))))))
  (.cons (.forr (.name 9) (.of (.bin .add (.bin .add (.lrng3 (.lit (.int 0)) (.lit (.int 700)) (.lit (.int 5))) (.lc [("_law_k", 10)] (.call 91 (.cons (.var 1) (.cons (.lit (.int 700)) .nil))) (.name 10) (.rng1 (.lit (.int 60))) .no)) (.var 7))) [9]
    (.cons (.ite (.cmp .ne (.lc [("_law_room", 11)] (.meth 0 33 (.var 5) (.cons (.var 11) (.cons (.var 9) .nil))) (.name 11) (.rng1 (.var 2)) .no) (.ix (.var 6) (.var 9)))
      (.cons (.ret (.lit (.bl false))) .nil)
      .nil) .nil))
  (.cons (.ite (.cmp .ne (.call 119 (.cons (.var 5) (.cons (.ix (.lst (.cons (.var 2) (.cons (.neg (.lit (.int 1))) (.cons (.lit .non) (.cons (.lit (.bl true)) .nil))))) (.call 91 (.cons (.var 1) (.cons (.lit (.int 4)) .nil)))) (.cons (.neg (.lit (.int 1))) .nil)))) (.lit (.str "room")))
    (.cons (.ret (.lit (.bl false))) .nil)
    .nil)
  (.cons (.ret (.cmp .eq (.call 119 (.cons (.var 5) (.cons (.lit (.int 0)) (.cons (.ix (.lst (.cons (.neg (.lit (.int 1))) (.cons (.lit .non) (.cons (.lit (.bl true)) (.cons (.lit (.str "1")) .nil))))) (.call 91 (.cons (.var 1) (.cons (.lit (.int 4)) .nil)))) .nil)))) (.lit (.str "hour")))) .nil))))))))))⟩
/-! 155: law_k04 -/
/-- 0=_law_script 1=_law_draws 2=_law_rooms 3=_law_order 4=_law_log_here 5=_law_house 6=_law_weeks 7=_law_near 8=_law_other 9=_law_k 10=_law_hour 11=_law_early 12=_law_room 13=_law_value -/
def f_law_k04 : FDef := ⟨1, 14,
  (.cons (.asg (.name 1) (.call 90 (.cons (.var 0) .nil)))
  (.cons (.asg (.name 2) (.bin .add (.lit (.int 1)) (.call 91 (.cons (.var 1) (.cons (.lit (.int 3)) .nil)))))
  (.cons (.asg (.name 3) (.ix (.lst (.cons (.lit (.str "newest")) (.cons (.lit (.str "away")) .nil))) (.call 91 (.cons (.var 1) (.cons (.lit (.int 2)) .nil)))))
  (.cons (.asg (.name 4) (.call 102 (.cons (.var 1) (.cons (.var 2) (.cons (.lit (.int 10)) .nil)))))
  (.cons (.asg (.name 5) (.call 35 (.cons (.var 2) (.cons (.var 3) (.cons (.var 4) .nil)))))
  (.cons (.asg (.name 6) (.bin .mul (.bin .add (.lit (.int 1)) (.call 91 (.cons (.var 1) (.cons (.lit (.int 9)) .nil)))) (.ix (.lst (.cons (.lit (.int 1)) (.cons (.lit (.int 1000)) (.cons (.lit (.int 6000000000)) .nil)))) (.call 91 (.cons (.var 1) (.cons (.lit (.int 3)) .nil))))))
  (.cons (.asg (.name 7) (.bin .add (.lit (.int 1)) (.call 91 (.cons (.var 1) (.cons (.lit (.int 900)) .nil)))))
  (.cons (.asg (.name 8) (.call 35 (.cons (.var 2) (.cons (.var 3) (.cons (.call 120 (.cons (.var 4) (.cons (.var 2) (.cons (.var 7) .nil)))) .nil)))))
  (.cons (.forr (.name 9) (.rng1 (.lit (.int 20))) [9, 10, 11, 12]
    (.cons (.asg (.name 10) (.bin .add (.lit (.int 1800)) (.call 91 (.cons (.var 1) (.cons (.lit (.int 336)) .nil)))))
    (.cons (.asg (.name 11) (.call 91 (.cons (.var 1) (.cons (.lit (.int 900)) .nil))))
    (.cons (.forr (.name 12) (.rng1 (.var 2)) [12, 13]
      (.cons (.asg (.name 13) (.meth 0 33 (.var 5) (.cons (.var 12) (.cons (.var 10) .nil))))
      (.cons (.ite (.or (.cmp .ne (.meth 0 33 (.var 5) (.cons (.var 12) (.cons (.bin .add (.var 10) (.lit (.int 168))) .nil))) (.var 13)) (.cmp .ne (.meth 0 33 (.var 5) (.cons (.var 12) (.cons (.bin .add (.var 10) (.bin .mul (.lit (.int 168)) (.var 6))) .nil))) (.var 13)))
        (.cons (.ret (.lit (.bl false))) .nil)
        .nil)
      (.cons (.ite (.cmp .ne (.call 113 (.cons (.call 49 (.cons (.var 5) (.cons (.var 12) .nil))) (.cons (.var 10) .nil))) (.var 13))
        (.cons (.ret (.lit (.bl false))) .nil)
        .nil)
      (.cons (.ite (.cmp .ne (.meth 0 33 (.var 8) (.cons (.var 12) (.cons (.bin .add (.var 11) (.bin .mul (.lit (.int 168)) (.var 7))) .nil))) (.meth 0 33 (.var 5) (.cons (.var 12) (.cons (.var 11) .nil))))
        (.cons (.ret (.lit (.bl false))) .nil)
        .nil) .nil))))) .nil))))
  (.cons (.ret (.lit (.bl true))) .nil))))))))))⟩
/-! 156: law_k05 -/
/-- 0=_law_script 1=_law_draws 2=_law_rooms 3=_law_order 4=_law_log_here 5=_law_house 6=_law_hours_here 7=_law_room 8=_law_row 9=_law_hour 10=_law_changes 11=_law_k 12=_law_later 13=_law_one 14=_law_told 15=_law_due -/
def f_law_k05 : FDef := ⟨1, 16,
  (.cons (.asg (.name 1) (.call 90 (.cons (.var 0) .nil)))
  (.cons (.asg (.name 2) (.bin .add (.lit (.int 1)) (.call 91 (.cons (.var 1) (.cons (.lit (.int 2)) .nil)))))
  (.cons (.asg (.name 3) (.ix (.lst (.cons (.lit (.str "newest")) (.cons (.lit (.str "away")) .nil))) (.call 91 (.cons (.var 1) (.cons (.lit (.int 2)) .nil)))))
  (.cons (.asg (.name 4) (.call 102 (.cons (.var 1) (.cons (.var 2) (.cons (.lit (.int 9)) .nil)))))
  (.cons (.asg (.name 5) (.call 35 (.cons (.var 2) (.cons (.var 3) (.cons (.var 4) .nil)))))
  (.cons (.asg (.name 6) (.call 118 (.cons (.var 2) (.cons (.var 3) (.cons (.var 4) (.cons (.lit (.int 1600)) .nil))))))
  (.cons (.forr (.name 7) (.rng1 (.var 2)) [7, 8, 10, 11, 15]
    (.cons (.asg (.name 8) (.lc [("_law_hour", 9)] (.ix (.ix (.var 6) (.var 9)) (.var 7)) (.name 9) (.rng1 (.lit (.int 1600))) .no))
    (.cons (.asg (.name 10) (.lc [("_law_hour", 9)] (.var 9) (.name 9) (.rng2 (.lit (.int 1)) (.lit (.int 1600))) (.of (.cmp .ne (.ix (.var 8) (.var 9)) (.ix (.var 8) (.bin .sub (.var 9) (.lit (.int 1))))))))
    (.cons (.forr (.name 11) (.rng1 (.lit (.int 10))) [11, 12, 14]
      (.cons (.asg (.name 9) (.call 91 (.cons (.var 1) (.cons (.lit (.int 1300)) .nil))))
      (.cons (.asg (.name 12) (.lc [("_law_one", 13)] (.var 13) (.name 13) (.of (.var 10)) (.of (.cmp .gt (.var 13) (.var 9)))))
      (.cons (.asg (.name 14) (.call 42 (.cons (.var 5) (.cons (.var 7) (.cons (.var 9) .nil)))))
      (.cons (.ite (.and (.cmp .gt (.bi .len (.cons (.var 12) .nil)) (.lit (.int 0))) (.cmp .ne (.var 14) (.ix (.var 12) (.lit (.int 0)))))
        (.cons (.ret (.lit (.bl false))) .nil)
        .nil)
      (.cons (.ite (.and (.cmp .eq (.bi .len (.cons (.var 12) .nil)) (.lit (.int 0))) (.notN (.var 14)))
        (.cons (.ret (.lit (.bl false))) .nil)
        .nil) .nil))))))
    (.cons (.asg (.name 15) (.lit .non))
    (.cons (.ite (.cmp .gt (.bi .len (.cons (.var 10) .nil)) (.lit (.int 0)))
      (.cons (.asg (.name 15) (.ix (.var 10) (.neg (.lit (.int 1)))))
      (.cons (.ite (.cmp .gt (.var 15) (.bin .sub (.lit (.int 1600)) (.lit (.int 169))))
        (.cons (.asg (.name 15) (.lit (.str "never"))) .nil)
        .nil) .nil))
      .nil)
    (.cons (.ite (.cmp .ne (.call 43 (.cons (.var 5) (.cons (.var 7) .nil))) (.var 15))
      (.cons (.ret (.lit (.bl false))) .nil)
      .nil) .nil)))))))
  (.cons (.ret (.lit (.bl true))) .nil))))))))⟩
/-! 157: law_k06 -/
/-- 0=_law_script 1=_law_draws 2=_law_rooms 3=_law_order 4=_law_log_here 5=_law_house 6=_law_hours_here 7=_law_every 8=_law_room 9=_law_k 10=_law_begin_here 11=_law_end 12=_law_value 13=_law_due 14=_law_hour 15=_law_middle 16=_law_total 17=_law_first 18=_law_second 19=_law_week -/
def f_law_k06 : FDef := ⟨1, 20,
  (.cons (.asg (.name 1) (.call 90 (.cons (.var 0) .nil)))
  (.cons (.asg (.name 2) (.bin .add (.lit (.int 1)) (.call 91 (.cons (.var 1) (.cons (.lit (.int 2)) .nil)))))
  (.cons (.asg (.name 3) (.ix (.lst (.cons (.lit (.str "newest")) (.cons (.lit (.str "away")) .nil))) (.call 91 (.cons (.var 1) (.cons (.lit (.int 2)) .nil)))))
  (.cons (.asg (.name 4) (.call 102 (.cons (.var 1) (.cons (.var 2) (.cons (.lit (.int 10)) .nil)))))
  (.cons (.asg (.name 5) (.call 35 (.cons (.var 2) (.cons (.var 3) (.cons (.var 4) .nil)))))
  (.cons (.asg (.name 6) (.call 118 (.cons (.var 2) (.cons (.var 3) (.cons (.var 4) (.cons (.lit (.int 1600)) .nil))))))
  (.cons (.asg (.name 7) (.bin .add (.lst (.cons (.lit .non) .nil)) (.lrng1 (.lit (.int 10)))))
  (.cons (.forr (.name 8) (.rng1 (.var 2)) [8, 9, 15, 16]
    (.cons (.forr (.name 9) (.rng1 (.lit (.int 6))) [9, 13]
      (.cons (.asg (.name 10) (.call 91 (.cons (.var 1) (.cons (.lit (.int 1600)) .nil))))
      (.cons (.asg (.name 11) (.call 91 (.cons (.var 1) (.cons (.lit (.int 1600)) .nil))))
      (.cons (.asg (.name 12) (.ix (.ix (.var 6) (.var 10)) (.var 8)))
      (.cons (.asg (.name 13) (.bi .len (.cons (.lc [("_law_hour", 14)] (.var 14) (.name 14) (.rng2 (.var 10) (.var 11)) (.of (.cmp .eq (.ix (.ix (.var 6) (.var 14)) (.var 8)) (.var 12)))) .nil)))
      (.cons (.ite (.cmp .ne (.call 45 (.cons (.var 5) (.cons (.var 8) (.cons (.var 12) (.cons (.var 10) (.cons (.var 11) .nil)))))) (.var 13))
        (.cons (.ret (.lit (.bl false))) .nil)
        .nil) .nil))))))
    (.cons (.asg (.name 10) (.call 91 (.cons (.var 1) (.cons (.lit (.int 2000)) .nil))))
    (.cons (.asg (.name 15) (.bin .add (.bin .add (.var 10) (.bin .mul (.call 91 (.cons (.var 1) (.cons (.lit (.int 9)) .nil))) (.lit (.int 1000000000007)))) (.call 91 (.cons (.var 1) (.cons (.lit (.int 500)) .nil)))))
    (.cons (.asg (.name 11) (.bin .add (.bin .add (.var 15) (.bin .mul (.call 91 (.cons (.var 1) (.cons (.lit (.int 9)) .nil))) (.lit (.int 99999999999)))) (.call 91 (.cons (.var 1) (.cons (.lit (.int 500)) .nil)))))
    (.cons (.asg (.name 16) (.lit (.int 0)))
    (.cons (.forr (.name 12) (.of (.var 7)) [17, 18, 19]
      (.cons (.asg (.name 17) (.call 45 (.cons (.var 5) (.cons (.var 8) (.cons (.var 12) (.cons (.var 10) (.cons (.var 15) .nil)))))))
      (.cons (.asg (.name 18) (.call 45 (.cons (.var 5) (.cons (.var 8) (.cons (.var 12) (.cons (.var 15) (.cons (.var 11) .nil)))))))
      (.cons (.ite (.cmp .ne (.call 45 (.cons (.var 5) (.cons (.var 8) (.cons (.var 12) (.cons (.var 10) (.cons (.var 11) .nil)))))) (.bin .add (.var 17) (.var 18)))
        (.cons (.ret (.lit (.bl false))) .nil)
        .nil)
      (.cons (.asg (.name 16) (.bin .add (.bin .add (.var 16) (.var 17)) (.var 18)))
      (.cons (.asg (.name 19) (.call 45 (.cons (.var 5) (.cons (.var 8) (.cons (.var 12) (.cons (.lit (.int 2000)) (.cons (.lit (.int 2168)) .nil)))))))
      (.cons (.ite (.cmp .ne (.call 45 (.cons (.var 5) (.cons (.var 8) (.cons (.var 12) (.cons (.lit (.int 2000)) (.cons (.bin .add (.lit (.int 2000)) (.bin .mul (.lit (.int 168)) (.bin .pow (.lit (.int 10)) (.lit (.int 9))))) .nil)))))) (.bin .mul (.var 19) (.bin .pow (.lit (.int 10)) (.lit (.int 9)))))
        (.cons (.ret (.lit (.bl false))) .nil)
        .nil) .nil)))))))
    (.cons (.ite (.cmp .ne (.var 16) (.bin .sub (.var 11) (.var 10)))
      (.cons (.ret (.lit (.bl false))) .nil)
      .nil) .nil))))))))
  (.cons (.ret (.and (.cmp .eq (.call 45 (.cons (.var 5) (.cons (.lit (.int 0)) (.cons (.lit .non) (.cons (.lit (.int 5)) (.cons (.lit (.int 5)) .nil)))))) (.lit (.int 0))) (.cmp .eq (.call 45 (.cons (.var 5) (.cons (.lit (.int 0)) (.cons (.lit .non) (.cons (.lit (.int 9)) (.cons (.lit (.int 2)) .nil)))))) (.lit (.int 0))))) .nil)))))))))⟩
/-! 158: law_k07 -/
/-- 0=_law_script 1=_law_draws 2=_law_rooms 3=_law_order 4=_law_log_here 5=_law_other 6=_law_at 7=_law_second 8=_law_one 9=_law_two 10=_law_first 11=_law_later 12=_law_hour 13=_law_due 14=_law_room -/
def f_law_k07 : FDef := ⟨1, 15,
  (.cons (.asg (.name 1) (.call 90 (.cons (.var 0) .nil)))
  (.cons (.asg (.name 2) (.bin .add (.lit (.int 2)) (.call 91 (.cons (.var 1) (.cons (.lit (.int 2)) .nil)))))
  (.cons (.asg (.name 3) (.ix (.lst (.cons (.lit (.str "newest")) (.cons (.lit (.str "away")) .nil))) (.call 91 (.cons (.var 1) (.cons (.lit (.int 2)) .nil)))))
  (.cons (.asg (.name 4) (.call 102 (.cons (.var 1) (.cons (.var 2) (.cons (.lit (.int 8)) .nil)))))
  (.cons (.asg (.name 5) (.bi .list (.cons (.var 4) .nil)))
  (.cons (.asg (.name 6) (.bin .add (.var 2) (.call 91 (.cons (.var 1) (.cons (.bin .add (.bin .sub (.bi .len (.cons (.var 5) .nil)) (.var 2)) (.lit (.int 1))) .nil)))))
  (.cons (.ite (.and (.cmp .lt (.var 6) (.bi .len (.cons (.var 5) .nil))) (.cmp .ne (.ix (.ix (.var 5) (.var 6)) (.lit (.int 0))) (.lit (.str "follow"))))
    (.cons (.expr (.bm .pop (.var 5) (.cons (.var 6) .nil))) .nil)
    .nil)
  (.cons (.asg (.name 7) (.ix (.lst (.cons (.var 3) (.cons (.var 3) (.cons (.lit (.str "away")) .nil)))) (.call 91 (.cons (.var 1) (.cons (.lit (.int 3)) .nil)))))
  (.cons (.asg (.name 8) (.call 35 (.cons (.var 2) (.cons (.var 3) (.cons (.var 4) .nil)))))
  (.cons (.asg (.name 9) (.call 35 (.cons (.var 2) (.cons (.var 7) (.cons (.var 5) .nil)))))
  (.cons (.asg (.name 10) (.call 118 (.cons (.var 2) (.cons (.var 3) (.cons (.var 4) (.cons (.lit (.int 1600)) .nil))))))
  (.cons (.asg (.name 11) (.call 118 (.cons (.var 2) (.cons (.var 7) (.cons (.var 5) (.cons (.lit (.int 1600)) .nil))))))
  (.cons (.forr (.name 12) (.of (.lst (.cons (.lit (.int 0)) (.cons (.call 91 (.cons (.var 1) (.cons (.lit (.int 300)) .nil))) (.cons (.call 91 (.cons (.var 1) (.cons (.lit (.int 1200)) .nil))) .nil))))) [12, 13]
    (.cons (.asg (.name 13) (.lit .non))
    (.cons (.forr (.name 6) (.rng3 (.lit (.int 1599)) (.bin .sub (.var 12) (.lit (.int 1))) (.neg (.lit (.int 1)))) [14]
      (.cons (.forr (.name 14) (.rng3 (.bin .sub (.var 2) (.lit (.int 1))) (.neg (.lit (.int 1))) (.neg (.lit (.int 1)))) [14]
        (.cons (.ite (.cmp .ne (.ix (.ix (.var 10) (.var 6)) (.var 14)) (.ix (.ix (.var 11) (.var 6)) (.var 14)))
          (.cons (.asg (.name 13) (.tup (.cons (.var 6) (.cons (.var 14) .nil)))) .nil)
          .nil) .nil)) .nil))
    (.cons (.ite (.cmp .ne (.call 47 (.cons (.var 8) (.cons (.var 9) (.cons (.var 12) .nil)))) (.var 13))
      (.cons (.ret (.lit (.bl false))) .nil)
      .nil)
    (.cons (.ite (.and (.cmp .eq (.var 12) (.lit (.int 0))) (.cmp .ne (.call 48 (.cons (.var 8) (.cons (.var 9) .nil))) (.isN (.var 13))))
      (.cons (.ret (.lit (.bl false))) .nil)
      .nil)
    (.cons (.asg (.name 13) (.lit .non))
    (.cons (.forr (.name 6) (.rng3 (.lit (.int 1599)) (.bin .sub (.var 12) (.lit (.int 1))) (.neg (.lit (.int 1)))) []
      (.cons (.ite (.cmp .eq (.ix (.ix (.var 10) (.var 6)) (.lit (.int 0))) (.ix (.ix (.var 10) (.var 6)) (.lit (.int 1))))
        (.cons (.asg (.name 13) (.var 6)) .nil)
        .nil) .nil))
    (.cons (.ite (.cmp .ne (.call 85 (.cons (.var 8) (.cons (.lit (.int 0)) (.cons (.lit (.int 1)) (.cons (.var 12) .nil))))) (.var 13))
      (.cons (.ret (.lit (.bl false))) .nil)
      .nil) .nil))))))))
  (.cons (.ret (.cmp .eq (.call 121 (.cons (.var 8) (.cons (.call 35 (.cons (.lit (.int 1)) (.cons (.var 3) (.cons (.lst .nil) .nil)))) .nil))) (.lst (.cons (.lit (.bl true)) (.cons (.lit (.bl true)) .nil))))) .nil))))))))))))))⟩
/-! 159: law_k08 -/
/-- 0=_law_script 1=_law_draws 2=_law_rooms 3=_law_order 4=_law_log_here 5=_law_house 6=_law_hours_here 7=_law_room 8=_law_plan_here 9=_law_row 10=_law_hour 11=_law_value 12=_law_due 13=_law_wrong -/
def f_law_k08 : FDef := ⟨1, 14,
  (.cons (.asg (.name 1) (.call 90 (.cons (.var 0) .nil)))
  (.cons (.asg (.name 2) (.bin .add (.lit (.int 1)) (.call 91 (.cons (.var 1) (.cons (.lit (.int 3)) .nil)))))
  (.cons (.asg (.name 3) (.ix (.lst (.cons (.lit (.str "newest")) (.cons (.lit (.str "away")) .nil))) (.call 91 (.cons (.var 1) (.cons (.lit (.int 2)) .nil)))))
  (.cons (.asg (.name 4) (.call 102 (.cons (.var 1) (.cons (.var 2) (.cons (.lit (.int 10)) .nil)))))
  (.cons (.asg (.name 5) (.call 35 (.cons (.var 2) (.cons (.var 3) (.cons (.var 4) .nil)))))
  (.cons (.asg (.name 6) (.call 118 (.cons (.var 2) (.cons (.var 3) (.cons (.var 4) (.cons (.lit (.int 1700)) .nil))))))
  (.cons (.forr (.name 7) (.rng1 (.var 2)) [7, 8, 9, 13]
    (.cons (.asg (.name 8) (.call 49 (.cons (.var 5) (.cons (.var 7) .nil))))
    (.cons (.ite (.or (.nt (.of (.call 3 (.cons (.var 8) .nil)))) (.cmp .ne (.call 7 (.cons (.var 8) .nil)) (.var 8)))
      (.cons (.ret (.lit (.bl false))) .nil)
      .nil)
    (.cons (.asg (.name 9) (.lc [("_law_hour", 10)] (.ix (.ix (.var 6) (.var 10)) (.var 7)) (.name 10) (.rng1 (.lit (.int 1700))) .no))
    (.cons (.ite (.of (.bi .any (.cons (.lc [("_law_hour", 10)] (.cmp .ne (.ix (.var 9) (.var 10)) (.call 113 (.cons (.var 8) (.cons (.var 10) .nil)))) (.name 10) (.rng2 (.lit (.int 1500)) (.lit (.int 1700))) .no) .nil)))
      (.cons (.ret (.lit (.bl false))) .nil)
      .nil)
    (.cons (.ite (.cmp .eq (.bi .len (.cons (.bi .set (.cons (.lc [("_law_value", 11)] (.bi .str (.cons (.var 11) .nil)) (.name 11) (.of (.sl (.var 9) (.of (.lit (.int 1500))) (.of (.lit (.int 1700))))) .no) .nil)) .nil)) (.lit (.int 1)))
      (.cons (.asg (.name 12) (.tup .nil))
      (.cons (.ite (.notN (.ix (.var 9) (.lit (.int 1600))))
        (.cons (.asg (.name 12) (.tup (.cons (.tup (.cons (.lit (.int 0)) (.cons (.ix (.var 9) (.lit (.int 1600))) .nil))) .nil))) .nil)
        .nil)
      (.cons (.ite (.cmp .ne (.var 8) (.var 12))
        (.cons (.ret (.lit (.bl false))) .nil)
        .nil) .nil)))
      .nil)
    (.cons (.asg (.name 13) (.lc [("_law_hour", 10)] (.var 10) (.name 10) (.rng1 (.lit (.int 1700))) (.of (.cmp .ne (.ix (.var 9) (.var 10)) (.call 113 (.cons (.var 8) (.cons (.var 10) .nil)))))))
    (.cons (.ite (.cmp .ne (.call 51 (.cons (.var 5) (.cons (.var 7) .nil))) (.bin .add (.ix (.bin .add (.lst (.cons (.neg (.lit (.int 1))) .nil)) (.var 13)) (.neg (.lit (.int 1)))) (.lit (.int 1))))
      (.cons (.ret (.lit (.bl false))) .nil)
      .nil) .nil))))))))
  (.cons (.ret (.lit (.bl true))) .nil))))))))⟩
/-! 160: law_k09 -/
/-- 0=_law_script 1=_law_draws 2=_law_rooms 3=_law_order 4=_law_log_here 5=_law_house 6=_law_due 7=_law_k 8=_law_other -/
def f_law_k09 : FDef := ⟨1, 9,
  (.cons (.asg (.name 1) (.call 90 (.cons (.var 0) .nil)))
  (.cons (.asg (.name 2) (.bin .add (.lit (.int 1)) (.call 91 (.cons (.var 1) (.cons (.lit (.int 3)) .nil)))))
  (.cons (.asg (.name 3) (.ix (.lst (.cons (.lit (.str "newest")) (.cons (.lit (.str "away")) .nil))) (.call 91 (.cons (.var 1) (.cons (.lit (.int 2)) .nil)))))
  (.cons (.asg (.name 4) (.call 102 (.cons (.var 1) (.cons (.var 2) (.cons (.lit (.int 6)) .nil)))))
  (.cons (.asg (.name 5) (.call 35 (.cons (.var 2) (.cons (.var 3) (.cons (.var 4) .nil)))))
  (.cons (.asg (.name 6) (.lst .nil))
  (.cons (.forr (.name 7) (.rng1 (.bi .len (.cons (.var 4) .nil))) [7, 8]
    (.cons (.asg (.name 8) (.call 123 (.cons (.var 2) (.cons (.var 3) (.cons (.bin .add (.sl (.var 4) .no (.of (.var 7))) (.sl (.var 4) (.of (.bin .add (.var 7) (.lit (.int 1)))) .no)) .nil)))))
    (.cons (.ite (.and (.notN (.var 8)) (.of (.call 48 (.cons (.var 5) (.cons (.var 8) .nil)))))
      (.cons (.expr (.bm .append (.var 6) (.cons (.var 7) .nil))) .nil)
      .nil) .nil)))
  (.cons (.ret (.call 122 (.cons (.call 53 (.cons (.var 5) .nil)) (.cons (.var 6) .nil)))) .nil))))))))⟩
/-! 161: law_k10 -/
/-- 0=_law_script 1=_law_draws 2=_law_rooms 3=_law_order 4=_law_house 5=_law_log_here 6=_law_k 7=_law_hour 8=_law_deed_here 9=_law_hours_here 10=_law_j 11=_law_room -/
def f_law_k10 : FDef := ⟨1, 12,
  (.cons (.asg (.name 1) (.call 90 (.cons (.var 0) .nil)))
  (.cons (.asg (.name 2) (.bin .add (.lit (.int 1)) (.call 91 (.cons (.var 1) (.cons (.lit (.int 3)) .nil)))))
  (.cons (.asg (.name 3) (.ix (.lst (.cons (.lit (.str "newest")) (.cons (.lit (.str "away")) .nil))) (.call 91 (.cons (.var 1) (.cons (.lit (.int 2)) .nil)))))
  (.cons (.asg (.name 4) (.call 35 (.cons (.var 2) (.cons (.var 3) (.cons (.lst .nil) .nil)))))
  (.cons (.asg (.name 5) (.lst .nil))
  (.cons (.forr (.name 6) (.rng1 (.lit (.int 50))) []
    (.cons (.ite (.cmp .eq (.call 91 (.cons (.var 1) (.cons (.lit (.int 4)) .nil))) (.lit (.int 0)))
      (.cons (.ite (.cmp .ne (.call 124 (.cons (.var 4) .nil)) (.cmp .gt (.bi .len (.cons (.var 5) .nil)) (.lit (.int 0))))
        (.cons (.ret (.lit (.bl false))) .nil)
        .nil)
      (.cons (.asg (.name 5) (.sl (.var 5) .no (.of (.neg (.lit (.int 1)))))) .nil))
      (.cons (.asg (.name 7) (.bin .add (.ix (.bin .add (.lst (.cons (.lit (.int 0)) .nil)) (.lc [("_law_deed_here", 8)] (.ix (.var 8) (.neg (.lit (.int 1)))) (.name 8) (.of (.var 5)) .no)) (.neg (.lit (.int 1)))) (.ix (.lst (.cons (.lit (.int 0)) (.cons (.lit (.int 1)) (.cons (.lit (.int 5)) (.cons (.lit (.int 17)) .nil))))) (.call 91 (.cons (.var 1) (.cons (.lit (.int 4)) .nil))))))
      (.cons (.asg (.name 8) (.call 99 (.cons (.var 1) (.cons (.var 2) (.cons (.var 7) .nil)))))
      (.cons (.ite (.nt (.of (.call 101 (.cons (.var 5) (.cons (.var 8) .nil)))))
        (.cons (.expr (.call 104 (.cons (.var 4) (.cons (.var 8) .nil))))
        (.cons (.asg (.name 5) (.bin .add (.var 5) (.lst (.cons (.var 8) .nil)))) .nil))
        .nil) .nil))))
    (.cons (.ite (.or (.cmp .ne (.meth 0 30 (.var 4) .nil) (.var 5)) (.cmp .ne (.lenI 0 31 (.var 4)) (.bi .len (.cons (.var 5) .nil))))
      (.cons (.ret (.lit (.bl false))) .nil)
      .nil)
    (.cons (.ite (.cmp .ne (.prop 0 20 (.var 4)) (.ix (.bin .add (.lst (.cons (.lit (.int 0)) .nil)) (.lc [("_law_deed_here", 8)] (.ix (.var 8) (.neg (.lit (.int 1)))) (.name 8) (.of (.var 5)) .no)) (.neg (.lit (.int 1)))))
      (.cons (.ret (.lit (.bl false))) .nil)
      .nil)
    (.cons (.ite (.cmp .eq (.bin .mod (.var 6) (.lit (.int 7))) (.lit (.int 6)))
      (.cons (.asg (.name 9) (.call 118 (.cons (.var 2) (.cons (.var 3) (.cons (.var 5) (.cons (.bin .add (.prop 0 20 (.var 4)) (.lit (.int 60))) .nil))))))
      (.cons (.forr (.name 10) (.rng1 (.lit (.int 6))) [10]
        (.cons (.asg (.name 7) (.call 91 (.cons (.var 1) (.cons (.bin .add (.prop 0 20 (.var 4)) (.lit (.int 60))) .nil))))
        (.cons (.ite (.cmp .ne (.lc [("_law_room", 11)] (.meth 0 33 (.var 4) (.cons (.var 11) (.cons (.var 7) .nil))) (.name 11) (.rng1 (.var 2)) .no) (.ix (.var 9) (.var 7)))
          (.cons (.ret (.lit (.bl false))) .nil)
          .nil) .nil))) .nil))
      .nil) .nil)))))
  (.cons (.ite (.nt (.of (.call 48 (.cons (.var 4) (.cons (.call 35 (.cons (.var 2) (.cons (.var 3) (.cons (.meth 0 30 (.var 4) .nil) .nil)))) .nil)))))
    (.cons (.ret (.lit (.bl false))) .nil)
    .nil)
  (.cons (.forr (.name 6) (.rng1 (.bi .len (.cons (.var 5) .nil))) []
    (.cons (.ite (.nt (.of (.call 124 (.cons (.var 4) .nil))))
      (.cons (.ret (.lit (.bl false))) .nil)
      .nil) .nil))
  (.cons (.ret (.and (.nt (.call 124 (.cons (.var 4) .nil))) (.isN (.meth 0 33 (.var 4) (.cons (.lit (.int 0)) (.cons (.lit (.int 5)) .nil)))))) .nil)))))))))⟩
/-! 162: law_k11 -/
/-- 0=_law_script 1=_law_draws 2=_law_deeds 3=_law_odd 4=_law_k 5=_law_handed 6=_law_told 7=_law_row_here 8=e 9=_law_order 10=_law_plan_here 11=_law_house 12=_law_hours_here 13=_law_hour -/
def f_law_k11 : FDef := ⟨1, 14,
  (.cons (.asg (.name 1) (.call 90 (.cons (.var 0) .nil)))
  (.cons (.asg (.name 2) (.call 128 (.cons (.var 1) (.cons (.lit (.int 4)) .nil))))
  (.cons (.asg (.name 3) (.lst (.cons (.tup (.cons (.lit (.str "turn")) (.cons (.lit (.int 10)) (.cons (.tup (.cons (.lit (.str "next")) .nil)) (.cons (.lit (.int 20)) .nil))))) (.cons (.tup (.cons (.lit (.str "turn")) (.cons (.lit (.int 1)) (.cons (.tup (.cons (.lit (.str "till")) (.cons (.lit (.int 5)) .nil))) (.cons (.lit (.int 20)) .nil))))) (.cons (.tup (.cons (.lit (.str "back")) .nil)) (.cons (.tup (.cons (.lit (.str "home")) (.cons (.lit (.int 401)) .nil))) (.cons (.tup (.cons (.lit (.str "away")) (.cons (.lit (.int 5)) (.cons (.lit (.int 9)) (.cons (.lit (.int 1)) (.cons (.lit (.int 20)) .nil)))))) .nil)))))))
  (.cons (.asg (.name 3) (.bin .add (.var 3) (.lst (.cons (.tup (.cons (.lit (.str "away")) (.cons (.lit (.int 20)) (.cons (.lit (.int 20)) (.cons (.lit (.int 1)) (.cons (.lit (.int 20)) .nil)))))) (.cons (.tup (.cons (.lit (.str "turn")) (.cons (.lit (.int 1)) (.cons (.tup (.cons (.lit (.str "till")) (.cons (.lit (.int 401)) .nil))) (.cons (.lit (.int 20)) .nil))))) (.cons (.tup (.cons (.lit (.str "back")) (.cons (.lit (.bl true)) .nil))) (.cons (.tup (.cons (.lit (.str "plan")) (.cons (.tup .nil) (.cons (.lit (.int 3)) .nil)))) (.cons (.tup (.cons (.lit (.str "home")) (.cons (.neg (.lit (.int 1))) .nil))) .nil))))))))
  (.cons (.asg (.name 3) (.bin .add (.var 3) (.lst (.cons (.lit .non) (.cons (.tup .nil) (.cons (.tup (.cons (.lit (.str "away")) (.cons (.lit (.int 20)) (.cons (.lit (.int 401)) (.cons (.lit (.int 1)) (.cons (.lit (.int 20)) .nil)))))) .nil))))))
  (.cons (.asg (.name 3) (.bin .add (.var 3) (.lst (.cons (.tup (.cons (.lit (.str "away")) (.cons (.lit (.int 400)) (.cons (.lit .non) (.cons (.lit (.int 9)) (.cons (.lit (.int 20)) .nil)))))) (.cons (.tup (.cons (.lit (.str "turn")) (.cons (.lit (.int 1)) (.cons (.tup (.cons (.lit (.str "hold")) .nil)) (.cons (.lit (.int 20)) .nil))))) (.cons (.lst (.cons (.lit (.str "home")) (.cons (.lit (.int 3)) .nil))) (.cons (.tup (.cons (.lit (.str "home")) (.cons (.lit (.int 20)) .nil))) (.cons (.tup (.cons (.lit (.str "home")) (.cons (.lit (.int 0)) .nil))) .nil))))))))
  (.cons (.forr (.name 4) (.rng1 (.call 91 (.cons (.var 1) (.cons (.lit (.int 3)) .nil)))) []
    (.cons (.expr (.bm .insert (.var 2) (.cons (.call 91 (.cons (.var 1) (.cons (.bin .add (.bi .len (.cons (.var 2) .nil)) (.lit (.int 1))) .nil))) (.cons (.ix (.var 3) (.call 91 (.cons (.var 1) (.cons (.bi .len (.cons (.var 3) .nil)) .nil)))) .nil)))) .nil))
  (.cons (.asg (.name 5) (.bi .list (.cons (.var 2) .nil)))
  (.cons (.asg (.name 6) (.tup (.cons (.lit (.str "good")) .nil)))
  (.cons (.asg (.name 7) (.lit .non))
  (.cons (.tryAs
    (.cons (.asg (.name 7) (.make 1 58 (.cons (.var 5) .nil))) .nil)
    13 8 [.payT 6 (.str "deed") "index"])
  (.cons (.ite (.cmp .ne (.var 6) (.call 132 (.cons (.var 2) .nil)))
    (.cons (.ret (.lit (.bl false))) .nil)
    .nil)
  (.cons (.ite (.isN (.var 7))
    (.cons (.ret (.lit (.bl true))) .nil)
    .nil)
  (.cons (.expr (.bm .append (.var 5) (.cons (.lit (.str "late")) .nil)))
  (.cons (.ite (.cmp .ne (.fld "deeds" (.var 7)) (.bi .tuple (.cons (.var 2) .nil)))
    (.cons (.ret (.lit (.bl false))) .nil)
    .nil)
  (.cons (.asg (.name 9) (.ix (.lst (.cons (.lit (.str "newest")) (.cons (.lit (.str "away")) .nil))) (.call 91 (.cons (.var 1) (.cons (.lit (.int 2)) .nil)))))
  (.cons (.asg (.name 10) (.call 92 (.cons (.var 1) .nil)))
  (.cons (.asg (.name 11) (.call 87 (.cons (.var 9) (.cons (.var 10) (.cons (.var 7) .nil)))))
  (.cons (.asg (.name 12) (.call 126 (.cons (.lit (.int 1)) (.cons (.var 9) (.cons (.call 133 (.cons (.var 2) (.cons (.var 10) .nil))) (.cons (.lit (.int 450)) .nil))))))
  (.cons (.forr (.name 4) (.rng1 (.lit (.int 30))) [13]
    (.cons (.asg (.name 13) (.call 91 (.cons (.var 1) (.cons (.lit (.int 450)) .nil))))
    (.cons (.ite (.cmp .ne (.lst (.cons (.meth 0 33 (.var 11) (.cons (.lit (.int 0)) (.cons (.var 13) .nil))) .nil)) (.ix (.var 12) (.var 13)))
      (.cons (.ret (.lit (.bl false))) .nil)
      .nil) .nil)))
  (.cons (.ret (.and (.cmp .eq (.call 134 (.cons (.var 7) (.cons (.lit (.str "oldest")) (.cons (.lit .non) .nil)))) (.lit (.str "order"))) (.cmp .eq (.call 134 (.cons (.var 7) (.cons (.var 9) (.cons (.lit .non) .nil)))) (.lit (.str "plan"))))) .nil)))))))))))))))))))))⟩
/-! 163: law_k12 -/
/-- 0=_law_script 1=_law_draws 2=_law_order 3=_law_deeds 4=_law_other 5=_law_one 6=_law_two 7=_law_told 8=_law_back 9=_law_here 10=_law_there 11=_law_k 12=_law_plan_here 13=_law_hour -/
def f_law_k12 : FDef := ⟨1, 14,
  (.cons (.asg (.name 1) (.call 90 (.cons (.var 0) .nil)))
  (.cons (.asg (.name 2) (.ix (.lst (.cons (.lit (.str "newest")) (.cons (.lit (.str "away")) .nil))) (.call 91 (.cons (.var 1) (.cons (.lit (.int 2)) .nil)))))
  (.cons (.asg (.name 3) (.call 128 (.cons (.var 1) (.cons (.lit (.int 4)) .nil))))
  (.cons (.asg (.name 4) (.call 129 (.cons (.var 1) (.cons (.var 3) .nil))))
  (.cons (.asg (.name 5) (.make 1 58 (.cons (.var 3) .nil)))
  (.cons (.asg (.name 6) (.make 1 58 (.cons (.var 4) .nil)))
  (.cons (.asg (.name 7) (.call 64 (.cons (.var 2) (.cons (.var 5) (.cons (.var 6) .nil)))))
  (.cons (.asg (.name 8) (.call 64 (.cons (.var 2) (.cons (.var 6) (.cons (.var 5) .nil)))))
  (.cons (.ite (.or (.cmp .ne (.call 84 (.cons (.var 2) (.cons (.var 5) (.cons (.var 6) .nil)))) (.isN (.var 7))) (.cmp .ne (.isN (.var 8)) (.isN (.var 7))))
    (.cons (.ret (.lit (.bl false))) .nil)
    .nil)
  (.cons (.ite (.notN (.var 7))
    (.cons (.ite (.or (.cmp .ne (.ix (.var 8) (.lit (.int 0))) (.ix (.var 7) (.lit (.int 0)))) (.cmp .gt (.bi .len (.cons (.ix (.var 7) (.lit (.int 1))) .nil)) (.lit (.int 1))))
      (.cons (.ret (.lit (.bl false))) .nil)
      .nil)
    (.cons (.asg (.name 9) (.call 126 (.cons (.lit (.int 1)) (.cons (.var 2) (.cons (.call 133 (.cons (.var 3) (.cons (.ix (.var 7) (.lit (.int 1))) .nil))) (.cons (.bin .add (.ix (.var 7) (.lit (.int 0))) (.lit (.int 1))) .nil))))))
    (.cons (.asg (.name 10) (.call 126 (.cons (.lit (.int 1)) (.cons (.var 2) (.cons (.call 133 (.cons (.var 4) (.cons (.ix (.var 7) (.lit (.int 1))) .nil))) (.cons (.bin .add (.ix (.var 7) (.lit (.int 0))) (.lit (.int 1))) .nil))))))
    (.cons (.ite (.cmp .eq (.ix (.var 9) (.ix (.var 7) (.lit (.int 0)))) (.ix (.var 10) (.ix (.var 7) (.lit (.int 0)))))
      (.cons (.ret (.lit (.bl false))) .nil)
      .nil) .nil))))
    .nil)
  (.cons (.forr (.name 11) (.rng1 (.lit (.int 12))) [11, 12, 13]
    (.cons (.asg (.name 12) (.call 135 (.cons (.var 1) (.cons (.var 3) .nil))))
    (.cons (.asg (.name 9) (.call 126 (.cons (.lit (.int 1)) (.cons (.var 2) (.cons (.call 133 (.cons (.var 3) (.cons (.var 12) .nil))) (.cons (.lit (.int 600)) .nil))))))
    (.cons (.asg (.name 10) (.call 126 (.cons (.lit (.int 1)) (.cons (.var 2) (.cons (.call 133 (.cons (.var 4) (.cons (.var 12) .nil))) (.cons (.lit (.int 600)) .nil))))))
    (.cons (.forr (.name 13) (.rng1 (.lit (.int 600))) [13]
      (.cons (.ite (.and (.cmp .ne (.ix (.var 9) (.var 13)) (.ix (.var 10) (.var 13))) (.or (.isN (.var 7)) (.cmp .lt (.var 13) (.ix (.var 7) (.lit (.int 0))))))
        (.cons (.ret (.lit (.bl false))) .nil)
        .nil) .nil)) .nil)))))
  (.cons (.ret (.and (.call 84 (.cons (.var 2) (.cons (.var 5) (.cons (.var 5) .nil)))) (.call 136 (.cons (.var 5) (.cons (.var 6) .nil))))) .nil))))))))))))⟩
/-! 164: law_k13 -/
/-- 0=_law_script 1=_law_draws 2=_law_order 3=_law_deeds 4=_law_row_here 5=_law_due 6=_law_k 7=_law_other -/
def f_law_k13 : FDef := ⟨1, 8,
  (.cons (.asg (.name 1) (.call 90 (.cons (.var 0) .nil)))
  (.cons (.asg (.name 2) (.ix (.lst (.cons (.lit (.str "newest")) (.cons (.lit (.str "away")) .nil))) (.call 91 (.cons (.var 1) (.cons (.lit (.int 2)) .nil)))))
  (.cons (.asg (.name 3) (.call 128 (.cons (.var 1) (.cons (.lit (.int 4)) .nil))))
  (.cons (.asg (.name 4) (.make 1 58 (.cons (.var 3) .nil)))
  (.cons (.asg (.name 5) (.lst .nil))
  (.cons (.forr (.name 6) (.rng1 (.bi .len (.cons (.var 3) .nil))) []
    (.cons (.ite (.of (.call 84 (.cons (.var 2) (.cons (.var 4) (.cons (.make 1 58 (.cons (.bin .add (.sl (.var 3) .no (.of (.var 6))) (.sl (.var 3) (.of (.bin .add (.var 6) (.lit (.int 1)))) .no)) .nil)) .nil)))))
      (.cons (.expr (.bm .append (.var 5) (.cons (.var 6) .nil))) .nil)
      .nil) .nil))
  (.cons (.ite (.nt (.of (.call 122 (.cons (.call 65 (.cons (.var 2) (.cons (.var 4) .nil))) (.cons (.var 5) .nil)))))
    (.cons (.ret (.lit (.bl false))) .nil)
    .nil)
  (.cons (.asg (.name 5) (.lst .nil))
  (.cons (.forr (.name 6) (.rng1 (.bin .sub (.bi .len (.cons (.var 3) .nil)) (.lit (.int 1)))) []
    (.cons (.ite (.cmp .eq (.ix (.ix (.var 3) (.var 6)) (.neg (.lit (.int 1)))) (.ix (.ix (.var 3) (.bin .add (.var 6) (.lit (.int 1)))) (.neg (.lit (.int 1)))))
      (.cons (.asg (.name 7) (.bin .add (.bin .add (.sl (.var 3) .no (.of (.var 6))) (.lst (.cons (.ix (.var 3) (.bin .add (.var 6) (.lit (.int 1)))) (.cons (.ix (.var 3) (.var 6)) .nil)))) (.sl (.var 3) (.of (.bin .add (.var 6) (.lit (.int 2)))) .no)))
      (.cons (.ite (.of (.call 84 (.cons (.var 2) (.cons (.var 4) (.cons (.make 1 58 (.cons (.var 7) .nil)) .nil)))))
        (.cons (.expr (.bm .append (.var 5) (.cons (.var 6) .nil))) .nil)
        .nil) .nil))
      .nil) .nil))
  (.cons (.ite (.nt (.of (.call 122 (.cons (.call 66 (.cons (.var 2) (.cons (.var 4) .nil))) (.cons (.var 5) .nil)))))
    (.cons (.ret (.lit (.bl false))) .nil)
    .nil)
  (.cons (.ret (.cmp .eq (.call 137 (.cons (.var 4) .nil)) (.lst (.cons (.lit (.bl true)) (.cons (.lit (.bl true)) .nil))))) .nil)))))))))))⟩
/-! 165: law_k14 -/
/-- 0=_law_script 1=_law_draws 2=_law_rooms 3=_law_order 4=_law_log_here 5=_law_house 6=_law_text 7=_law_again -/
def f_law_k14 : FDef := ⟨1, 8,
  (.cons (.asg (.name 1) (.call 90 (.cons (.var 0) .nil)))
  (.cons (.asg (.name 2) (.bin .add (.lit (.int 1)) (.call 91 (.cons (.var 1) (.cons (.lit (.int 3)) .nil)))))
  (.cons (.asg (.name 3) (.ix (.lst (.cons (.lit (.str "newest")) (.cons (.lit (.str "away")) .nil))) (.call 91 (.cons (.var 1) (.cons (.lit (.int 2)) .nil)))))
  (.cons (.asg (.name 4) (.call 102 (.cons (.var 1) (.cons (.var 2) (.cons (.lit (.int 10)) .nil)))))
  (.cons (.asg (.name 5) (.call 35 (.cons (.var 2) (.cons (.var 3) (.cons (.var 4) .nil)))))
  (.cons (.asg (.name 6) (.call 70 (.cons (.var 5) .nil)))
  (.cons (.ite (.or (.nt (.of (.isi "str" (.var 6)))) (.cmp .ne (.var 6) (.bm .join (.lit (.str "\n")) (.cons (.call 140 (.cons (.var 2) (.cons (.var 3) (.cons (.var 4) .nil)))) .nil))))
    (.cons (.ret (.lit (.bl false))) .nil)
    .nil)
  (.cons (.asg (.name 7) (.call 81 (.cons (.var 6) .nil)))
  (.cons (.ite (.or (.cmp .ne (.fld "rooms" (.var 7)) (.var 2)) (.or (.cmp .ne (.fld "order" (.var 7)) (.var 3)) (.cmp .ne (.meth 0 30 (.var 7) .nil) (.var 4))))
    (.cons (.ret (.lit (.bl false))) .nil)
    .nil)
  (.cons (.ret (.and (.call 48 (.cons (.var 7) (.cons (.var 5) .nil))) (.cmp .eq (.call 70 (.cons (.var 7) .nil)) (.var 6)))) .nil))))))))))⟩
/-! 166: law_k15 -/
/-- 0=_law_script 1=_law_draws 2=_law_rooms 3=_law_order 4=_law_lines_here 5=_law_k 6=_law_told_here -/
def f_law_k15 : FDef := ⟨1, 7,
  (.cons (.asg (.name 1) (.call 90 (.cons (.var 0) .nil)))
  (.cons (.asg (.name 2) (.bin .add (.lit (.int 1)) (.call 91 (.cons (.var 1) (.cons (.lit (.int 3)) .nil)))))
  (.cons (.asg (.name 3) (.ix (.lst (.cons (.lit (.str "newest")) (.cons (.lit (.str "away")) .nil))) (.call 91 (.cons (.var 1) (.cons (.lit (.int 2)) .nil)))))
  (.cons (.asg (.name 4) (.call 140 (.cons (.var 2) (.cons (.var 3) (.cons (.call 102 (.cons (.var 1) (.cons (.var 2) (.cons (.lit (.int 8)) .nil)))) .nil)))))
  (.cons (.ite (.of (.isi "int" (.call 141 (.cons (.var 4) .nil))))
    (.cons (.ret (.lit (.bl false))) .nil)
    .nil)
  (.cons (.forr (.name 5) (.rng1 (.call 91 (.cons (.var 1) (.cons (.lit (.int 3)) .nil)))) [5]
    (.cons (.expr (.call 142 (.cons (.var 1) (.cons (.var 4) .nil)))) .nil))
  (.cons (.asg (.name 6) (.call 141 (.cons (.var 4) .nil)))
  (.cons (.ite (.nt (.of (.isi "int" (.var 6))))
    (.cons (.ret (.cmp .eq (.call 70 (.cons (.var 6) .nil)) (.bm .join (.lit (.str "\n")) (.cons (.var 4) .nil)))) .nil)
    .nil)
  (.cons (.ite (.or (.nt (.chain .le .le (.lit (.int 1)) (.var 6) (.bi .len (.cons (.var 4) .nil)))) (.nt (.of (.isi "int" (.call 141 (.cons (.sl (.var 4) .no (.of (.var 6))) .nil))))))
    (.cons (.ret (.lit (.bl false))) .nil)
    .nil)
  (.cons (.ite (.and (.cmp .gt (.var 6) (.lit (.int 1))) (.of (.isi "int" (.call 141 (.cons (.sl (.var 4) .no (.of (.bin .sub (.var 6) (.lit (.int 1))))) .nil)))))
    (.cons (.ret (.lit (.bl false))) .nil)
    .nil)
  (.cons (.ret (.lit (.bl true))) .nil)))))))))))⟩
/-! 167: law_k16 -/
/-- 0=_law_script 1=_law_draws 2=_law_left 3=_law_order 4=_law_k 5=_law_rooms 6=_law_rule 7=_law_log_here 8=_law_deed_here 9=_law_one 10=_law_two 11=_law_hour 12=_law_room 13=_law_plan_here 14=_law_switch -/
def f_law_k16 : FDef := ⟨1, 15,
  (.cons (.asg (.name 1) (.call 90 (.cons (.var 0) .nil)))
  (.cons (.asg (.name 2) (.lrng1 (.lit (.int 10))))
  (.cons (.asg (.name 3) (.lc [("_law_k", 4)] (.bm .pop (.var 2) (.cons (.call 91 (.cons (.var 1) (.cons (.bi .len (.cons (.var 2) .nil)) .nil))) .nil)) (.name 4) (.rng1 (.lit (.int 10))) .no))
  (.cons (.asg (.name 5) (.bin .add (.lit (.int 1)) (.call 91 (.cons (.var 1) (.cons (.lit (.int 3)) .nil)))))
  (.cons (.asg (.name 6) (.ix (.lst (.cons (.lit (.str "newest")) (.cons (.lit (.str "away")) .nil))) (.call 91 (.cons (.var 1) (.cons (.lit (.int 2)) .nil)))))
  (.cons (.asg (.name 7) (.lst .nil))
  (.cons (.forr (.name 8) (.of (.call 102 (.cons (.var 1) (.cons (.var 5) (.cons (.lit (.int 8)) .nil))))) []
    (.cons (.ite (.cmp .eq (.ix (.var 8) (.lit (.int 0))) (.lit (.str "follow")))
      (.cons (.asg (.name 8) (.tup (.cons (.lit (.str "follow")) (.cons (.ix (.var 8) (.lit (.int 1))) (.cons (.ix (.var 8) (.lit (.int 2))) (.cons (.lit (.int 0)) (.cons (.ix (.var 8) (.lit (.int 4))) .nil))))))) .nil)
      .nil)
    (.cons (.expr (.bm .append (.var 7) (.cons (.var 8) .nil))) .nil)))
  (.cons (.asg (.name 9) (.call 35 (.cons (.var 5) (.cons (.var 6) (.cons (.var 7) .nil)))))
  (.cons (.asg (.name 10) (.call 35 (.cons (.var 5) (.cons (.var 6) (.cons (.lc [("_law_deed_here", 8)] (.call 144 (.cons (.var 8) (.cons (.var 3) .nil))) (.name 8) (.of (.var 7)) .no) .nil)))))
  (.cons (.forr (.name 4) (.rng1 (.lit (.int 40))) [11]
    (.cons (.asg (.name 11) (.call 91 (.cons (.var 1) (.cons (.lit (.int 1200)) .nil))))
    (.cons (.forr (.name 12) (.rng1 (.var 5)) []
      (.cons (.ite (.cmp .ne (.meth 0 33 (.var 10) (.cons (.var 12) (.cons (.var 11) .nil))) (.call 143 (.cons (.meth 0 33 (.var 9) (.cons (.var 12) (.cons (.var 11) .nil))) (.cons (.var 3) .nil))))
        (.cons (.ret (.lit (.bl false))) .nil)
        .nil) .nil)) .nil)))
  (.cons (.forr (.name 12) (.rng1 (.var 5)) [13]
    (.cons (.ite (.or (.cmp .ne (.call 43 (.cons (.var 9) (.cons (.var 12) .nil))) (.call 43 (.cons (.var 10) (.cons (.var 12) .nil)))) (.cmp .ne (.call 51 (.cons (.var 9) (.cons (.var 12) .nil))) (.call 51 (.cons (.var 10) (.cons (.var 12) .nil)))))
      (.cons (.ret (.lit (.bl false))) .nil)
      .nil)
    (.cons (.asg (.name 13) (.bi .tuple (.cons (.lc [("_law_switch", 14)] (.tup (.cons (.ix (.var 14) (.lit (.int 0))) (.cons (.ix (.var 3) (.ix (.var 14) (.lit (.int 1)))) .nil))) (.name 14) (.of (.call 49 (.cons (.var 9) (.cons (.var 12) .nil)))) .no) .nil)))
    (.cons (.ite (.cmp .ne (.call 49 (.cons (.var 10) (.cons (.var 12) .nil))) (.var 13))
      (.cons (.ret (.lit (.bl false))) .nil)
      .nil) .nil))))
  (.cons (.ret (.cmp .eq (.call 53 (.cons (.var 9) .nil)) (.call 53 (.cons (.var 10) .nil)))) .nil))))))))))))⟩
/-! 168: law_k17 -/
/-- 0=_law_script 1=_law_draws 2=_law_at 3=_law_house 4=_law_told 5=_law_e 6=_law_k -/
def f_law_k17 : FDef := ⟨1, 7,
  (.cons (.asg (.name 1) (.call 90 (.cons (.var 0) .nil)))
  (.cons (.asg (.name 2) (.call 91 (.cons (.var 1) (.cons (.lit (.int 14)) .nil))))
  (.cons (.asg (.name 3) (.make 0 19 (.cons (.lit (.int 2)) (.cons (.lit (.str "newest")) .nil))))
  (.cons (.asg (.name 4) (.lst .nil))
  (.cons .bad
  (.cons (.ret (.cmp .eq (.var 4) (.bin .add (.lc [("_law_k", 6)] (.cmp .eq (.var 6) (.var 2)) (.name 6) (.rng1 (.lit (.int 14))) .no) (.lst (.cons (.lit (.bl true)) .nil))))) .nil))))))⟩
/-! 169: law_k18 -/
/-- 0=_law_script 1=_law_draws 2=_law_rooms 3=_law_log_here 4=_law_handed 5=_law_house 6=_law_second 7=_law_other 8=_law_deeds 9=_law_one 10=_law_two 11=_law_told 12=_law_kept 13=_law_value 14=_law_later -/
def f_law_k18 : FDef := ⟨1, 15,
  (.cons (.asg (.name 1) (.call 90 (.cons (.var 0) .nil)))
  (.cons (.asg (.name 2) (.bin .add (.lit (.int 1)) (.call 91 (.cons (.var 1) (.cons (.lit (.int 2)) .nil)))))
  (.cons (.asg (.name 3) (.call 102 (.cons (.var 1) (.cons (.var 2) (.cons (.lit (.int 5)) .nil)))))
  (.cons (.asg (.name 4) (.bi .list (.cons (.var 3) .nil)))
  (.cons (.asg (.name 5) (.call 35 (.cons (.var 2) (.cons (.lit (.str "newest")) (.cons (.var 4) .nil)))))
  (.cons (.asg (.name 6) (.bin .add (.lit (.int 1)) (.call 91 (.cons (.var 1) (.cons (.lit (.int 2)) .nil)))))
  (.cons (.asg (.name 7) (.call 35 (.cons (.var 6) (.cons (.lit (.str "away")) (.cons (.call 102 (.cons (.var 1) (.cons (.var 6) (.cons (.lit (.int 5)) .nil)))) .nil)))))
  (.cons (.asg (.name 8) (.call 148 (.cons (.var 1) (.cons (.lit (.int 3)) .nil))))
  (.cons (.asg (.name 9) (.make 1 58 (.cons (.var 8) .nil)))
  (.cons (.asg (.name 10) (.make 1 58 (.cons (.call 148 (.cons (.var 1) (.cons (.lit (.int 3)) .nil))) .nil)))
  (.cons (.asg (.name 11) (.call 150 (.cons (.var 5) (.cons (.var 7) (.cons (.var 9) (.cons (.var 10) .nil))))))
  (.cons (.asg (.name 12) (.lc [("_law_value", 13)] (.call 151 (.cons (.var 13) .nil)) (.name 13) (.of (.var 11)) .no))
  (.cons (.asg (.name 14) (.lc [("_law_value", 13)] (.call 151 (.cons (.var 13) .nil)) (.name 13) (.of (.call 150 (.cons (.var 7) (.cons (.var 5) (.cons (.var 10) (.cons (.var 9) .nil)))))) .no))
  (.cons (.forr (.name 13) (.of (.var 11)) []
    (.cons (.ite (.of (.isi "list" (.var 13)))
      (.cons (.expr (.bm .append (.var 13) (.cons (.lit (.str "late")) .nil))) .nil)
      .nil) .nil))
  (.cons (.expr (.bm .append (.var 4) (.cons (.tup (.cons (.lit (.str "home")) (.cons (.lit (.int 0)) .nil))) .nil)))
  (.cons (.expr (.bm .append (.var 8) (.cons (.tup (.cons (.lit (.str "home")) (.cons (.lit (.int 400)) .nil))) .nil)))
  (.cons (.ite (.or (.cmp .ne (.call 150 (.cons (.var 5) (.cons (.var 7) (.cons (.var 9) (.cons (.var 10) .nil))))) (.var 12)) (.cmp .ne (.call 150 (.cons (.var 7) (.cons (.var 5) (.cons (.var 10) (.cons (.var 9) .nil))))) (.var 14)))
    (.cons (.ret (.lit (.bl false))) .nil)
    .nil)
  (.cons (.ret (.cmp .eq (.meth 0 30 (.var 5) .nil) (.var 3))) .nil))))))))))))))))))⟩
end Pg
end
end

section
set_option Elab.async false
set_option linter.all false
set_option maxRecDepth 100000
set_option maxHeartbeats 400000
/-! PlA: runs of the plans' defs; what fewest gives. -/
noncomputable section
namespace Pg
open PySem Ws
abbrev Tbl := Nat → Option FDef
structure HPl (P : Tbl) : Prop where
  is_number : P 1 = some f_is_number
  is_switch : P 2 = some f_is_switch
  is_plan : P 3 = some f_is_plan
  check_plan : P 4 = some f_check_plan
structure HFw (P : Tbl) : Prop extends HPl P where
  fewest : P 7 = some f_fewest
def numB : D → Int → Int → Bool
  | .int i, a, b => decide (a ≤ i) && decide (i ≤ b)
  | _, _, _ => false
theorem r_is_number {P : Nat → Option FDef} (H : HPl P) (n : Nat) (st : AS) (v : D) (a b : Int) (h : tyB st v = true) : callF P (n + 1) 1 [v, .int a, .int b] st = .ok (.bl (numB v a b)) st := by
  rw [callF_eq H.is_number n _ rfl]
  unfold f_is_number
  cases v with
  | int i =>
    simp [numB, gcR_same]
    by_cases h : a ≤ i <;> simp [h, gcR_same]
  | ref l =>
    simp [numB, gcR_same, isi_ref h]
  | clo f cs => simp [tyB] at h
  | kls f => simp [tyB] at h
  | _ => simp [numB, gcR_same]
def swB : D → Bool
  | .tup [x, y] => numB x 0 167 && numB y 0 9
  | _ => false
/-- what is_switch may be asked -/
def tySw (st : AS) (v : D) : Bool := tyB st v && match v with
  | .tup [x, y] => tyB st x && tyB st y
  | _ => true
theorem r_is_switch {P : Nat → Option FDef} (H : HPl P) (n : Nat) (st : AS) (v : D) (h : tySw st v = true) : callF P (n + 2) 2 [v] st = .ok (.bl (swB v)) st := by
  rw [callF_eq H.is_switch (n + 1) _ rfl]
  unfold f_is_switch
  unfold tySw at h
  rw [Bool.and_eq_true] at h
  cases v with
  | tup ds =>
    match ds, h with
    | [x, y], h =>
      have h2 := h.2
      dsimp only at h2
      rw [Bool.and_eq_true] at h2
      simp [swB, gcR_same, r_is_number H n st x _ _ h2.1, r_is_number H n st y _ _ h2.2]
    | [], h => simp [swB, gcR_same]
    | [x], h => simp [swB, gcR_same]
    | x :: y :: z :: r, h =>
      have e : ¬ (r.length + 1 + 1 + 1 : Int) = 2 := by omega
      simp [swB, gcR_same, e]
  | ref l => simp [swB, gcR_same, isi_ref h.1]
  | clo f cs => simp [tyB] at h
  | kls f => simp [tyB] at h
  | _ => simp [swB, gcR_same]
/-- neighbours rise -/
def fstI : D → Int
  | .tup (.int i :: _) => i
  | _ => 0
def riseB : List D → Bool
  | a :: b :: r => decide (fstI a < fstI b) && riseB (b :: r)
  | _ => true
def riseZ : D → Bool
  | .tup [x, y] => decide (fstI x < fstI y)
  | _ => false
theorem riseZ_all : ∀ ds : List D, (List.zipWith (fun x y => D.tup [x, y]) ds (ds.drop 1)).all riseZ = riseB ds
  | [] => rfl
  | [_] => rfl
  | a :: b :: r => by
    have ih := riseZ_all (b :: r)
    simp only [List.drop_succ_cons, List.drop_zero] at ih
    simp only [List.drop_succ_cons, List.drop_zero, List.zipWith_cons_cons, List.all_cons, riseB]
    rw [← ih]
    rfl
theorem zipW_mem {xs ys : List D} {d : D} (h : d ∈ List.zipWith (fun x y => D.tup [x, y]) xs ys) : ∃ x y, x ∈ xs ∧ y ∈ ys ∧ d = .tup [x, y] := by
  obtain ⟨i, hi⟩ := List.getElem?_of_mem h
  obtain ⟨x, y, h1, h2, rfl⟩ := zipW_get hi
  exact ⟨x, y, List.mem_of_getElem? h1, List.mem_of_getElem? h2, rfl⟩
theorem numB_form {d : D} {a b : Int} (h : numB d a b = true) : ∃ i, d = .int i ∧ a ≤ i ∧ i ≤ b := by
  cases d <;> simp [numB] at h
  exact ⟨_, rfl, h.1, h.2⟩
theorem swB_form {d : D} (h : swB d = true) : ∃ a b, d = .tup [.int a, .int b] ∧ 0 ≤ a ∧ a ≤ 167 ∧ 0 ≤ b ∧ b ≤ 9 := by
  unfold swB at h
  split at h
  · rw [Bool.and_eq_true] at h
    obtain ⟨i, rfl, h1, h2⟩ := numB_form h.1
    obtain ⟨j, rfl, h3, h4⟩ := numB_form h.2
    exact ⟨i, j, rfl, h1, h2, h3, h4⟩
  · cases h
def plB : D → Bool
  | .tup ds => decide (ds.length ≤ 14) && ds.all swB && riseB ds
  | _ => false
def tyPl (st : AS) (v : D) : Bool := tyB st v && match v with
  | .tup ds => ds.all (tySw st)
  | _ => true
theorem r_is_plan {P : Nat → Option FDef} (H : HPl P) (n : Nat) (st : AS) (v : D) (h : tyPl st v = true) : callF P (n + 3) 3 [v] st = .ok (.bl (plB v)) st := by
  rw [callF_eq H.is_plan (n + 2) _ rfl]
  unfold f_is_plan
  unfold tyPl at h
  rw [Bool.and_eq_true] at h
  cases v with
  | tup ds =>
    have h2 : ∀ d ∈ ds, tySw st d = true := List.all_eq_true.mp h.2
    simp [plB]
    by_cases hl : (14 : Int) < ds.length
    · have e : ¬ ds.length ≤ 14 := by omega
      simp [hl, e, gcR_same]
    · have e : ds.length ≤ 14 := by omega
      simp only [hl, e, if_false]
      rw [lcLoop_map (watchOk_none st) (fun d => [some (.tup ds), some d, none]) (fun d => .bl (swB d)) ds (fun d hd => ⟨rfl, by simp [r_is_switch H n st d (h2 d hd)]⟩)]
      have ha := all_map (getLast_app st (.lst (ds.map fun d => .bl (swB d))))
      cases hs : ds.all swB with
      | true =>
        rw [hs] at ha
        have hs' : ∀ x ∈ ds, swB x = true := List.all_eq_true.mp hs
        simp [ha, cutD_from1]
        rw [lcLoop_map (watchOk_none _) (fun d => match d with
          | .tup [x, y] => [some (.tup ds), some x, some y]
          | _ => []) (fun d => .bl (riseZ d)) _ (fun d hd => ?_)]
        · have hb := all_map (getLast_app (st ++ [O.lst (ds.map fun d => .bl (swB d))]) (.lst ((List.zipWith (fun x y => D.tup [x, y]) ds (ds.drop 1)).map fun d => .bl (riseZ d))))
          rw [riseZ_all] at hb
          simp at hb
          simp [hb]
          exact gcR_app _ _ rfl
        · obtain ⟨x, y, hx, hy, rfl⟩ := zipW_mem hd
          obtain ⟨a, b, rfl, ra⟩ := swB_form (hs' x hx)
          obtain ⟨c, e, rfl, rc⟩ := swB_form (hs' y (List.mem_of_mem_tail hy))
          simp [riseZ, fstI]
          rfl
      | false =>
        rw [hs] at ha
        simp [ha]
        exact gcR_app _ _ rfl
  | ref l => simp [plB, gcR_same, isi_ref h.1]
  | clo f cs => simp [tyB] at h
  | kls f => simp [tyB] at h
  | _ => simp [plB, gcR_same]
abbrev Pl := List (Int × Int)
def mk (p : Int × Int) : D := .tup [.int p.1, .int p.2]
def Dd : Int → Pl → Pl
  | _, [] => []
  | pv, x :: r => if x.2 = pv then Dd x.2 r else x :: Dd x.2 r
def lastv (ps : Pl) : Int := (ps.getLast?.map (·.2)).getD 0
def fw (ps : Pl) : Pl := if Dd (lastv ps) ps = [] then ps.take 1 else Dd (lastv ps) ps
def Ris (ps : Pl) : Prop := ps.Pairwise fun a b => a.1 < b.1
def Bnd (ps : Pl) : Prop := ∀ p ∈ ps, 0 ≤ p.1 ∧ p.1 ≤ 167 ∧ 0 ≤ p.2 ∧ p.2 ≤ 9
theorem Dd_sub : ∀ (pv : Int) (l : Pl), (Dd pv l).Sublist l
  | _, [] => .slnil
  | pv, x :: r => by
    unfold Dd
    split
    · exact (Dd_sub x.2 r).cons x
    · exact (Dd_sub x.2 r).cons₂ x
theorem fw_sub (ps : Pl) : (fw ps).Sublist ps := by
  unfold fw
  split
  · exact List.take_sublist 1 ps
  · exact Dd_sub _ _
theorem rise_ris : ∀ {ps : Pl}, riseB (ps.map mk) = true → Ris ps
  | [], _ => .nil
  | [a], _ => .cons (by simp) .nil
  | a :: b :: r, h => by
    simp only [List.map_cons, riseB, Bool.and_eq_true, decide_eq_true_eq] at h
    have ih : Ris (b :: r) := rise_ris (ps := b :: r) (by rw [List.map_cons]; exact h.2)
    have hab : a.1 < b.1 := h.1
    refine .cons (fun x hx => ?_) ih
    rcases List.mem_cons.mp hx with rfl | hx
    · exact hab
    · exact Int.lt_trans hab ((List.pairwise_cons.mp ih).1 x hx)
theorem ris_rise : ∀ {ps : Pl}, Ris ps → riseB (ps.map mk) = true
  | [], _ => rfl
  | [a], _ => rfl
  | a :: b :: r, h => by
    simp only [List.map_cons, riseB, Bool.and_eq_true, decide_eq_true_eq]
    have h' := List.pairwise_cons.mp h
    exact ⟨h'.1 b List.mem_cons_self, by
      have := ris_rise (ps := b :: r) h'.2
      rwa [List.map_cons] at this⟩
theorem sw_mk {p : Int × Int} (h : 0 ≤ p.1 ∧ p.1 ≤ 167 ∧ 0 ≤ p.2 ∧ p.2 ≤ 9) : swB (mk p) = true := by
  simp [swB, mk, numB, h.1, h.2.1, h.2.2.1, h.2.2.2]
theorem pl_of {ps : Pl} (hl : ps.length ≤ 14) (r : Ris ps) (b : Bnd ps) : plB (.tup (ps.map mk)) = true := by
  unfold plB
  dsimp only
  rw [ris_rise r, decide_eq_true (by rw [List.length_map]; exact hl), List.all_eq_true.mpr fun d hd => ?_]
  · rfl
  · obtain ⟨p, hp, rfl⟩ := List.mem_map.mp hd
    exact sw_mk (b p hp)
theorem all_form : ∀ {ds : List D}, ds.all swB = true → ∃ ps : Pl, ds = ps.map mk ∧ Bnd ps
  | [], _ => ⟨[], rfl, fun _ h => by cases h⟩
  | d :: r, h => by
    rw [List.all_cons, Bool.and_eq_true] at h
    obtain ⟨ps, rfl, hb⟩ := all_form h.2
    obtain ⟨a, b, rfl, q⟩ := swB_form h.1
    refine ⟨(a, b) :: ps, rfl, fun p hp => ?_⟩
    rcases List.mem_cons.mp hp with rfl | hp
    · exact q
    · exact hb p hp
theorem pl_form {v : D} (h : plB v = true) : ∃ ps : Pl, v = .tup (ps.map mk) ∧ ps.length ≤ 14 ∧ Ris ps ∧ Bnd ps := by
  unfold plB at h
  split at h
  · simp only [Bool.and_eq_true, decide_eq_true_eq] at h
    obtain ⟨ps, rfl, hb⟩ := all_form h.1.2
    exact ⟨ps, rfl, by simpa using h.1.1, rise_ris h.2, hb⟩
  · cases h
theorem filt_dd : ∀ (pv : Int) (l : Pl), ((List.range l.length).filter fun i => decide ((l.getD i (0, 0)).2 ≠ if i = 0 then pv else (l.getD (i - 1) (0, 0)).2)).map (fun i => l.getD i (0, 0)) = Dd pv l
  | _, [] => rfl
  | pv, x :: r => by
    have ih := filt_dd x.2 r
    rw [List.length_cons, List.range_succ_eq_map, List.filter_cons]
    have tail : (((List.range r.length).map Nat.succ).filter fun i => decide (((x :: r).getD i (0, 0)).2 ≠ if i = 0 then pv else ((x :: r).getD (i - 1) (0, 0)).2)).map (fun i => (x :: r).getD i (0, 0)) = Dd x.2 r := by
      rw [← ih, List.filter_map, List.map_map]
      congr 1
      congr 1
      funext i
      cases i with
      | zero => rfl
      | succ i => rfl
    unfold Dd
    by_cases hx : x.2 = pv
    · rw [if_neg (by simp [hx]), if_pos hx, tail]
    · rw [if_pos (by simp [hx]), if_neg hx, List.map_cons, tail]
      rfl
/-! ### what it shows -/
def shf (h : Int) (acc : Int) (x : Int × Int) : Int := if x.1 ≤ h then x.2 else acc
def shw (ps : Pl) (h : Int) : Int := ps.foldl (shf h) (lastv ps)
theorem fold_dd (h : Int) : ∀ (l : Pl) (pv acc : Int), Ris l → (acc = pv ∨ ∀ x ∈ l, h < x.1) → (Dd pv l).foldl (shf h) acc = l.foldl (shf h) acc
  | [], _, _, _, _ => rfl
  | x :: r, pv, acc, hr, hc => by
    have hr' := List.pairwise_cons.mp hr
    have nx : ∀ a, a = shf h acc x → (a = x.2 ∨ ∀ y ∈ r, h < y.1) := fun a ha => by
      by_cases hx : x.1 ≤ h
      · left; rw [ha]; unfold shf; rw [if_pos hx]
      · right; intro y hy
        have := hr'.1 y hy
        omega
    unfold Dd
    split
    · rename_i e
      have e2 : shf h acc x = acc := by
        unfold shf
        split
        · rename_i hx
          rcases hc with hc | hc
          · rw [hc, e]
          · have := hc x List.mem_cons_self
            omega
        · rfl
      rw [List.foldl_cons, e2]
      exact fold_dd h r x.2 acc hr'.2 (nx acc e2.symm)
    · rw [List.foldl_cons, List.foldl_cons]
      exact fold_dd h r x.2 _ hr'.2 (nx _ rfl)
theorem lastv_cons (x : Int × Int) (r : Pl) : lastv (x :: r) = if r = [] then x.2 else lastv r := by
  cases r with
  | nil => rfl
  | cons y s => simp [lastv, List.getLast?_cons_cons]
theorem dd_last : ∀ (pv : Int) (l : Pl), (Dd pv l = [] → ∀ x ∈ l, x.2 = pv) ∧ (Dd pv l ≠ [] → lastv (Dd pv l) = lastv l)
  | _, [] => ⟨fun _ x h => (nomatch h), fun h => (h rfl).elim⟩
  | pv, x :: r => by
    obtain ⟨i1, i2⟩ := dd_last x.2 r
    unfold Dd
    split
    · rename_i e
      refine ⟨fun h y hy => ?_, fun h => ?_⟩
      · rcases List.mem_cons.mp hy with rfl | hy
        · exact e
        · rw [i1 h y hy, e]
      · rw [i2 h, lastv_cons]
        split
        · rename_i hr; subst hr; exact (h rfl).elim
        · rfl
    · refine ⟨fun h => (by cases h), fun _ => ?_⟩
      rw [lastv_cons, lastv_cons]
      by_cases hd : Dd x.2 r = []
      · rw [if_pos hd]
        split
        · rfl
        · rename_i hr
          have all := i1 hd
          unfold lastv
          cases hl : r.getLast? with
          | none => exact absurd (List.getLast?_eq_none_iff.mp hl) hr
          | some y => exact (all y (List.mem_of_getLast? hl)).symm
      · rw [if_neg hd, i2 hd, if_neg]
        intro hr
        subst hr
        exact hd rfl
theorem shw_fw {ps : Pl} (r : Ris ps) (h : Int) (hne : ps ≠ []) : fw ps ≠ [] ∧ shw (fw ps) h = shw ps h := by
  unfold fw
  split
  · rename_i e
    obtain ⟨x, s, rfl⟩ := List.exists_cons_of_ne_nil hne
    have all := (dd_last _ _).1 e
    refine ⟨by simp, ?_⟩
    have key : ∀ (l : Pl) (a : Int), (∀ x ∈ l, x.2 = a) → l.foldl (shf h) a = a := by
      intro l a
      induction l with
      | nil => intro _; rfl
      | cons y t ih =>
        intro hy
        rw [List.foldl_cons]
        have : shf h a y = a := by
          unfold shf
          split
          · exact hy y List.mem_cons_self
          · rfl
        rw [this]
        exact ih fun z hz => hy z (List.mem_cons_of_mem _ hz)
    have hx : x.2 = lastv (x :: s) := all x List.mem_cons_self
    unfold shw
    rw [key _ _ all]
    have e1 : lastv (List.take 1 (x :: s)) = x.2 := rfl
    rw [e1]
    rw [key _ _ (by simp)]
    exact hx
  · rename_i e
    refine ⟨e, ?_⟩
    unfold shw
    rw [(dd_last _ _).2 e]
    exact fold_dd h ps _ _ r (.inl rfl)
/-- neighbours differ -/
def Nbr : Int → Pl → Prop
  | _, [] => True
  | pv, x :: r => x.2 ≠ pv ∧ Nbr x.2 r
theorem dd_nbr : ∀ (pv : Int) (l : Pl), Nbr pv (Dd pv l)
  | _, [] => trivial
  | pv, x :: r => by
    unfold Dd
    split
    · rename_i e
      have := dd_nbr x.2 r
      rw [e] at this ⊢
      exact this
    · rename_i e
      exact ⟨e, dd_nbr x.2 r⟩
theorem r_check_plan {P : Nat → Option FDef} (H : HPl P) (n : Nat) (st : AS) (v : D) (h : tyPl st v = true) : callF P (n + 4) 4 [v] st = if plB v = true then .ok .non st else .exn 1 .non st := by
  rw [callF_eq H.check_plan (n + 3) _ rfl]
  unfold f_check_plan
  cases hp : plB v with
  | true => simp [r_is_plan H n st v h, hp, gcR_same]
  | false => simp [r_is_plan H n st v h, hp, gcR_exn]
theorem mk_get {ps : Pl} {i : Nat} (h : i < ps.length) : atI (ps.map mk) (i : Int) = some (mk (ps.getD i (0, 0))) := by
  rw [atI_nat (by rw [List.length_map]; exact h)]
  simp [h]
theorem mk_prev {ps : Pl} {i : Nat} (h : i < ps.length) : ∃ q, atI (ps.map mk) ((i : Int) - 1) = some (mk q) ∧ q.2 = if i = 0 then lastv ps else (ps.getD (i - 1) (0, 0)).2 := by
  cases i with
  | zero =>
    obtain ⟨l, x, rfl⟩ : ∃ l x, ps = l ++ [x] := ⟨ps.dropLast, ps.getLast (by intro e; subst e; simp at h), (List.dropLast_concat_getLast _).symm⟩
    refine ⟨x, ?_, ?_⟩
    · rw [List.map_append, List.map_singleton]
      exact atI_last _
    · rw [if_pos rfl]
      simp [lastv]
  | succ i =>
    refine ⟨_, ?_, by rw [if_neg (by omega)]⟩
    have e : ((i + 1 : Nat) : Int) - 1 = (i : Nat) := by omega
    rw [e, mk_get (by omega)]
    rfl
theorem ty_pl {ps : Pl} (st : AS) : tyPl st (.tup (ps.map mk)) = true := by
  simp [tyPl, tyB, tySw, mk]
theorem r_fewest_no {P : Nat → Option FDef} (H : HFw P) (n : Nat) (st : AS) (v : D) (h : tyPl st v = true) (hp : plB v = false) : callF P (n + 5) 7 [v] st = .exn 1 .non st := by
  rw [callF_eq H.fewest (n + 4) _ rfl]
  unfold f_fewest
  simp [r_check_plan H.toHPl n st v h, hp, gcR_exn]
theorem r_fewest {P : Nat → Option FDef} (H : HFw P) (n : Nat) (st : AS) (ps : Pl) (hl : ps.length ≤ 14) (r : Ris ps) (b : Bnd ps) : callF P (n + 5) 7 [.tup (ps.map mk)] st = .ok (.tup ((fw ps).map mk)) st := by
  rw [callF_eq H.fewest (n + 4) _ rfl]
  unfold f_fewest
  have hsm : small (ps.length : Int) = true := small_ok (by omega) (by omega)
  simp [r_check_plan H.toHPl n st _ (ty_pl st), pl_of hl r b, hsm, sized_rng (show ps.length ≤ 16777216 by omega)]
  rw [lcLoop_rangeF (watchOk_none _) (fun i => [some (.tup (ps.map mk)), none, some (.int i)]) (fun i => decide ((ps.getD i (0, 0)).2 ≠ if i = 0 then lastv ps else (ps.getD (i - 1) (0, 0)).2)) (fun i => mk (ps.getD i (0, 0))) 0 _ fun i hi => ⟨by simp, ?_, fun _ => ?_⟩]
  · have e : ((List.range ps.length).filter fun i => decide ((ps.getD i (0, 0)).2 ≠ if i = 0 then lastv ps else (ps.getD (i - 1) (0, 0)).2)).map (fun i => mk (ps.getD i (0, 0))) = (Dd (lastv ps) ps).map mk := by
      rw [← filt_dd, List.map_map]
      rfl
    rw [e]
    have ht := tru_lst (getLast_app st (.lst ((Dd (lastv ps) ps).map mk)))
    simp [truR, ht]
    unfold fw
    by_cases hd : Dd (lastv ps) ps = []
    · have ec : cutD (ps.map mk) none (some 1) = List.take 1 (ps.map mk) := by
        unfold cutD sIx
        cases ps <;> simp
      simp only [hd, List.map_nil, List.isEmpty_nil, Bool.not_true, Bool.false_eq_true, if_false, bind_ok, sl_tup, stm_ok, seq_ret, res_ret, ec, if_true, List.map_take]
      exact gcR_app _ _ (reflessAll_iff.mpr fun d hd => by
        obtain ⟨p, _, rfl⟩ := List.mem_map.mp (List.mem_of_mem_take hd)
        rfl)
    · simp [hd, tuple_lst (getLast_app st (.lst ((Dd (lastv ps) ps).map mk)))]
      exact gcR_app _ _ (reflessAll_iff.mpr fun d hd => by
        obtain ⟨p, _, rfl⟩ := List.mem_map.mp hd
        rfl)
  · obtain ⟨q, h1, h2⟩ := mk_prev hi
    have g := mk_get hi
    generalize ps.getD i (0, 0) = z at g ⊢
    rw [← h2]
    simp [g, h1, mk]
    rfl
  · simp [mk_get hi]
end Pg
end
end

section
set_option Elab.async false
set_option linter.all false
set_option maxRecDepth 100000
set_option maxHeartbeats 1000000
/-! L01: runs of the law k01. -/
noncomputable section
namespace Pg
open PySem Ws
structure H01 (P : Tbl) : Prop extends HFw P where
  law_begin : P 90 = some f_law_begin
  law_draw : P 91 = some f_law_draw
  law_int : P 95 = some f_law_int
  law_good : P 96 = some f_law_good
  law_shows : P 97 = some f_law_shows
  law_told : P 98 = some f_law_told
theorem r_law_int {P : Nat → Option FDef} (H : H01 P) (n : Nat) (st : AS) (v : D) (b : Int) (h : tyB st v = true) : callF P (n + 1) 95 [v, .int b] st = .ok (.bl (numB v 0 b)) st := by
  rw [callF_eq H.law_int n _ rfl]
  unfold f_law_int
  cases v with
  | int i =>
    simp [numB, gcR_same]
    by_cases h : 0 ≤ i <;> simp [h, gcR_same]
  | ref l => simp [numB, gcR_same, isi_ref h]
  | clo f cs => simp [tyB] at h
  | kls f => simp [tyB] at h
  | _ => simp [numB, gcR_same]
theorem range_rise : ∀ ds : List D, (List.range (ds.length - 1)).all (fun i => decide (fstI (ds.getD i .non) < fstI (ds.getD (i + 1) .non))) = riseB ds
  | [] => rfl
  | [_] => rfl
  | a :: b :: r => by
    have ih := range_rise (b :: r)
    have e1 : (a :: b :: r).length - 1 = (b :: r).length - 1 + 1 := by simp
    rw [e1, List.range_succ_eq_map, List.all_cons, List.all_map, riseB, ← ih]
    rfl
theorem r_law_good {P : Nat → Option FDef} (H : H01 P) (n : Nat) (st : AS) (v : D) (h : tyPl st v = true) : callF P (n + 2) 96 [v] st = .ok (.bl (plB v)) st := by
  rw [callF_eq H.law_good (n + 1) _ rfl]
  unfold f_law_good
  unfold tyPl at h
  rw [Bool.and_eq_true] at h
  cases v with
  | tup ds =>
    have h2 : ∀ d ∈ ds, tySw st d = true := List.all_eq_true.mp h.2
    by_cases hl : (14 : Int) < ds.length
    · have e : ¬ ds.length ≤ 14 := by omega
      simp [plB, hl, e, gcR_same]
    · have e : ds.length ≤ 14 := by omega
      simp [plB, hl, e]
      refine for_run ds (fun i env st' => st' = st ∧ (∃ o, env = [some (.tup ds), o, none]) ∧ ∀ d ∈ ds.take i, swB d = true) (fun r => gcR st ((r.seq _).res) = .ok (D.bl (ds.all swB && riseB ds)) st) (fun _ _ st _ => watchOk_none st) ?_ ?_ _ _ ⟨rfl, ⟨_, rfl⟩, by simp⟩
      · rintro env st' ⟨rfl, ⟨o, rfl⟩, hs⟩
        rw [List.take_length] at hs
        have hs2 : ds.all swB = true := List.all_eq_true.mpr hs
        have hsm : small ((ds.length : Int) - 1) = true := small_ok (by omega) (by omega)
        simp [hs2, hsm, sized_rng (show ds.length - 1 ≤ 16777216 by omega)]
        rw [lcLoop_range (watchOk_none _) (fun i => [some (.tup ds), none, some (.int i)]) (fun i => .bl (decide (fstI (ds.getD i .non) < fstI (ds.getD (i + 1) .non)))) 0 _ fun i hi => ⟨by simp, ?_⟩]
        · have ha := all_map (getLast_app st' (.lst ((List.range (ds.length - 1)).map fun i => .bl (decide (fstI (ds.getD i .non) < fstI (ds.getD (i + 1) .non))))))
          rw [range_rise] at ha
          simp at ha
          simp [ha]
          exact gcR_app _ _ rfl
        · have i1 : atI ds (i : Int) = some ds[i] := atI_nat (by omega)
          have i2 : atI ds ((i : Int) + 1) = some ds[i + 1] := by
            have := atI_nat (xs := ds) (i := i + 1) (by omega)
            exact_mod_cast this
          obtain ⟨a, b, ea, _⟩ := swB_form (hs ds[i] (List.getElem_mem _))
          obtain ⟨c, d, ec, _⟩ := swB_form (hs ds[i + 1] (List.getElem_mem _))
          have g1 : ds[i]? = some (.tup [.int a, .int b]) := by rw [List.getElem?_eq_getElem (by omega), ea]
          have g2 : ds[i + 1]? = some (.tup [.int c, .int d]) := by rw [List.getElem?_eq_getElem (by omega), ec]
          simp [i1, i2, ea, ec, g1, g2, fstI]
      · rintro i x env st' hx ⟨rfl, ⟨o, rfl⟩, hs⟩
        have hm : x ∈ ds := List.mem_of_getElem? hx
        refine ⟨[some (.tup ds), some x, none], rfl, ?_⟩
        have bad : swB x = false → gcR st' ((RS.ret (D.bl false) st').res) = Res.ok (D.bl (ds.all swB && riseB ds)) st' := fun hb => by
          have hf : ds.all swB = false := by
            cases ha : ds.all swB with
            | false => rfl
            | true => rw [List.all_eq_true.mp ha x hm] at hb; cases hb
          rw [hf]
          simp [gcR_same]
        have ok : swB x = true → ∀ d ∈ ds.take (i + 1), swB d = true := fun hb d hd => by
          rw [List.take_add_one, hx] at hd
          rcases List.mem_append.mp hd with hd | hd
          · exact hs d hd
          · simp at hd
            subst hd
            exact hb
        have tx := h2 x hm
        unfold tySw at tx
        rw [Bool.and_eq_true] at tx
        cases x with
        | tup es =>
          match es, bad, ok, tx with
          | [u, w], bad, ok, tx =>
            have tx2 := tx.2
            dsimp only at tx2
            rw [Bool.and_eq_true] at tx2
            simp [r_law_int H n st' u _ tx2.1, r_law_int H n st' w _ tx2.2]
            have hb : swB (.tup [u, w]) = (numB u 0 167 && numB w 0 9) := rfl
            cases h1 : numB u 0 167 with
            | false => simp; exact bad (by rw [hb, h1]; rfl)
            | true =>
              cases h3 : numB w 0 9 with
              | false => simp; exact bad (by rw [hb, h1, h3]; rfl)
              | true => simp; exact ok (by rw [hb, h1, h3]; rfl)
          | [], bad, ok, tx => simp; exact bad rfl
          | [u], bad, ok, tx => simp; exact bad rfl
          | u :: w :: z :: r, bad, ok, tx =>
            have e : ¬ (r.length + 1 + 1 + 1 : Int) = 2 := by omega
            simp [e]
            exact bad rfl
        | ref l => simp [isi_ref tx.1]; exact bad rfl
        | clo f cs => simp [tyB] at tx
        | kls f => simp [tyB] at tx
        | _ => simp; exact bad rfl
  | ref l => simp [plB, gcR_same, isi_ref h.1]
  | clo f cs => simp [tyB] at h
  | kls f => simp [tyB] at h
  | _ => simp [plB, gcR_same]
theorem r_law_shows0 {P : Nat → Option FDef} (H : H01 P) (n : Nat) (st : AS) (h : D) : callF P (n + 1) 97 [.tup [], h] st = .ok .non st := by
  rw [callF_eq H.law_shows n _ rfl]
  unfold f_law_shows
  simp [gcR_same]
theorem r_law_shows {P : Nat → Option FDef} (H : H01 P) (n : Nat) (st : AS) (ps : Pl) (h : Int) (hne : ps ≠ []) : callF P (n + 1) 97 [.tup (ps.map mk), .int h] st = .ok (.int (shw ps h)) st := by
  rw [callF_eq H.law_shows n _ rfl]
  unfold f_law_shows
  have hl : ¬ (ps.length : Int) = 0 := by
    cases ps with
    | nil => exact absurd rfl hne
    | cons a r => simp only [List.length_cons]; omega
  have e1 : atI (ps.map mk) (-1) = some (mk (0, lastv ps)) ∨ ∃ a, atI (ps.map mk) (-1) = some (mk (a, lastv ps)) := by
    right
    obtain ⟨l, x, rfl⟩ : ∃ l x, ps = l ++ [x] := ⟨ps.dropLast, ps.getLast hne, (List.dropLast_concat_getLast _).symm⟩
    refine ⟨x.1, ?_⟩
    rw [List.map_append, List.map_singleton, atI_last]
    simp [lastv]
  obtain ⟨a, e2⟩ : ∃ a, atI (ps.map mk) (-1) = some (mk (a, lastv ps)) := by
    rcases e1 with e | e
    · exact ⟨_, e⟩
    · exact e
  have e3 : ixD st (mk (a, lastv ps)) (.int 1) = some (.int (lastv ps)) := by simp [mk]
  simp [hne, e2, e3, negD]
  refine for_run (ps.map mk) (fun i env st' => st' = st ∧ ∃ o p, env = [some (.tup (ps.map mk)), some (.int h), some (.int ((ps.take i).foldl (shf h) (lastv ps))), o, p]) (fun r => gcR st ((r.seq _).res) = .ok (D.int (shw ps h)) st) (fun _ _ st _ => watchOk_none st) ?_ ?_ _ _ ⟨rfl, _, _, rfl⟩
  · rintro env st' ⟨rfl, o, p, rfl⟩
    rw [List.length_map, List.take_length]
    simp [gcR_same, shw]
  · rintro i x env st' hx ⟨rfl, o, p, rfl⟩
    rw [List.getElem?_map, Option.map_eq_some_iff] at hx
    obtain ⟨z, hz, rfl⟩ := hx
    refine ⟨[some (.tup (ps.map mk)), some (.int h), some (.int ((ps.take i).foldl (shf h) (lastv ps))), some (.int z.1), some (.int z.2)], by simp [mk], ?_⟩
    have step : (ps.take (i + 1)).foldl (shf h) (lastv ps) = shf h ((ps.take i).foldl (shf h) (lastv ps)) z := by
      rw [List.take_add_one, hz, List.foldl_append]
      rfl
    rw [step]
    by_cases hh : z.1 ≤ h
    · simp [hh, shf]
    · simp [hh, shf]
theorem r_law_told_no {P : Nat → Option FDef} (H : H01 P) (n : Nat) (st : AS) (v : D) (h : tyPl st v = true) (hp : plB v = false) : callF P (n + 6) 98 [v] st = .ok (.str "bad") st := by
  rw [callF_eq H.law_told (n + 5) _ rfl]
  unfold f_law_told
  simp [r_fewest_no H.toHFw n st v h hp, pickH, subX, gcR_same]
theorem r_law_told {P : Nat → Option FDef} (H : H01 P) (n : Nat) (st : AS) (ps : Pl) (hl : ps.length ≤ 14) (r : Ris ps) (b : Bnd ps) : callF P (n + 6) 98 [.tup (ps.map mk)] st = .ok (.tup ((fw ps).map mk)) st := by
  rw [callF_eq H.law_told (n + 5) _ rfl]
  unfold f_law_told
  simp [r_fewest H.toHFw n st ps hl r b, gcR_same]
def mkP (p : Int × Int) : PyData := .tuple [.int p.1, .int p.2]
theorem toD_mk (st : AS) (p : Int × Int) : toD st 8 (mk p) = some (mkP p) := rfl
theorem toLs_mk (st : AS) : ∀ ps : Pl, toLs (toD st 8) (ps.map mk) = some (ps.map mkP)
  | [] => rfl
  | p :: r => by
    have e : toL (toD st 8) (mk p) = some (mkP p) := rfl
    simp only [List.map_cons, toLs, e, toLs_mk st r]
theorem shaped_mk (p : Int × Int) : SeqAt.shaped (mkP p) = true := rfl
theorem eqv_mk (p q : Int × Int) : PyData.eqv (mkP p) (mkP q) = (p == q) := by
  simp [mkP, PyData.eqv, PyData.eqvAll]
  cases p; cases q
  rfl
theorem eqD_mk (st : AS) (p q : Int × Int) : eqD st (mk p) (mk q) = some (p == q) := by
  have e : eqD st (mk p) (mk q) = match toD st 8 (mk p), toD st 8 (mk q) with
    | some a, some b => if SeqAt.shaped a && SeqAt.shaped b then some (PyData.eqv a b) else none
    | _, _ => none := rfl
  rw [e, toD_mk, toD_mk]
  dsimp only
  rw [shaped_mk, shaped_mk, eqv_mk]
  rfl
theorem shaped_list : ∀ ps : Pl, SeqAt.shaped (.list (ps.map mkP)) = true := by
  intro ps
  unfold SeqAt.shaped
  rw [Bool.and_eq_true]
  constructor
  · induction ps with
    | nil => rfl
    | cons p r ih =>
      have ih2 : PyData.canLayAll0 (r.map mkP) = true := by simpa [PyData.canLay0] using ih
      show PyData.canLayAll0 (mkP p :: r.map mkP) = true
      have e : PyData.canLayAll0 (mkP p :: r.map mkP) = (PyData.canLay0 (mkP p) && PyData.canLayAll0 (r.map mkP)) := rfl
      rw [e, ih2]
      rfl
  · refine decide_eq_true ?_
    have key : PyData.depthAll (ps.map mkP) ≤ 1 := by
      induction ps with
      | nil => exact Nat.zero_le _
      | cons p r ih =>
        have e : PyData.depthAll (List.map mkP (p :: r)) = max (PyData.depth (mkP p)) (PyData.depthAll (r.map mkP)) := rfl
        have e2 : PyData.depth (mkP p) = 1 := rfl
        rw [e, e2]
        omega
    show PyData.depthAll (ps.map mkP) + 1 ≤ 64
    omega
theorem inD_mk (st : AS) (p : Int × Int) (ps : Pl) (hne : ps ≠ []) : inD st (mk p) (.tup (ps.map mk)) = some (ps.any fun z => z == p) := by
  have e : inD st (mk p) (.tup (ps.map mk)) = match toD st 8 (mk p), toLs (toD st 8) (ps.map mk) with
      | some q, some qs => if SeqAt.shaped q && SeqAt.shaped (.list qs) then some (qs.any fun z => PyData.eqv z q) else none
      | _, _ => none := rfl
  rw [e, toD_mk, toLs_mk]
  dsimp only
  rw [shaped_mk, shaped_list]
  simp only [Bool.and_self, if_true, List.any_map]
  congr 1
  congr 1
  funext z
  exact eqv_mk z p
end Pg
end
end

section
set_option Elab.async false
set_option linter.all false
set_option maxRecDepth 100000
set_option maxHeartbeats 1000000
/-! L01b: the law k01's run. -/
noncomputable section
namespace Pg
open PySem Ws
/-- the end: one switch alone -/
theorem one_alone {ps : Pl} (h1 : (fw ps).length = 1) : ∃ x, fw ps = [x] ∧ (∀ p ∈ ps, p.2 = x.2) ∧ ∃ r, ps = x :: r := by
  unfold fw at h1 ⊢
  split at h1
  · rename_i e
    rw [if_pos e]
    cases ps with
    | nil => simp at h1
    | cons x r =>
      have all := (dd_last _ _).1 e
      exact ⟨x, rfl, fun p hp => by rw [all p hp, all x List.mem_cons_self], r, rfl⟩
  · rename_i e
    exfalso
    have hl := (dd_last _ _).2 e
    have hn := dd_nbr (lastv ps) ps
    cases hd : Dd (lastv ps) ps with
    | nil => exact e hd
    | cons x r =>
      rw [hd] at h1 hl hn
      have hr : r = [] := by simpa using h1
      subst hr
      exact hn.1 hl
def dropSs : Nat → Ss → Ss
  | 0, s => s
  | n + 1, .cons _ r => dropSs n r
  | _ + 1, .nil => .nil
/-- behind the value's choice -/
def tail01 : Ss := dropSs 7 f_law_k01.body
theorem tail_bad {P : Tbl} (H : H01 P) (n : Nat) (st : AS) (v : D) (h : tyPl st v = true) (hp : plB v = false) (o0 o1 o2 o3 o4 o5 o6 : Option D) :
    ∃ st', exSs (callF P (n + 6)) tail01 [o0, o1, o2, o3, o4, o5, o6, some v, none, none, none, none, none] st = .ret (.bl true) st' := by
  refine ⟨st, ?_⟩
  unfold tail01 f_law_k01
  simp [dropSs, r_law_good H (n + 4) st v h, r_is_plan H.toHPl (n + 3) st v h, r_law_told_no H n st v h hp, hp]
def sv (ps : Pl) (h : Int) : D := if ps = [] then .non else .int (shw ps h)
theorem r_shows {P : Tbl} (H : H01 P) (n : Nat) (st : AS) (ps : Pl) (h : Int) : callF P (n + 1) 97 [.tup (ps.map mk), .int h] st = .ok (sv ps h) st := by
  unfold sv
  split
  · rename_i e
    subst e
    exact r_law_shows0 H n st (.int h)
  · rename_i e
    exact r_law_shows H n st ps h e
theorem sv_fw {ps : Pl} (r : Ris ps) (h : Int) : sv (fw ps) h = sv ps h := by
  by_cases hne : ps = []
  · subst hne; rfl
  · obtain ⟨h1, h2⟩ := shw_fw r h hne
    unfold sv
    rw [if_neg h1, if_neg hne, h2]
theorem sv_eq (st : AS) (ps : Pl) (h : Int) : eqD st (sv ps h) (sv ps h) = some true := by
  unfold sv
  split <;> simp
theorem nbr_prev : ∀ {pv : Int} {l : Pl}, Nbr pv l → ∀ i, i < l.length → (l.getD i (0, 0)).2 ≠ if i = 0 then pv else (l.getD (i - 1) (0, 0)).2
  | pv, x :: r, h, 0, _ => fun e => h.1 e
  | pv, x :: r, h, i + 1, hi => by
    have q := nbr_prev (l := r) h.2 i (by simpa using hi)
    rw [if_neg (by omega)]
    cases i with
    | zero => simpa using q
    | succ i => simpa using q
theorem tail_good {P : Tbl} (H : H01 P) (n : Nat) (st : AS) (ps : Pl) (hl : ps.length ≤ 14) (r : Ris ps) (b : Bnd ps) (o0 o1 o2 o3 o4 o5 o6 : Option D) :
    ∃ st', exSs (callF P (n + 6)) tail01 [o0, o1, o2, o3, o4, o5, o6, some (.tup (ps.map mk)), none, none, none, none, none] st = .ret (.bl true) st' := by
  have hp : plB (.tup (ps.map mk)) = true := pl_of hl r b
  have hfl : (fw ps).length ≤ 14 := Nat.le_trans (fw_sub ps).length_le hl
  have hf : plB (.tup ((fw ps).map mk)) = true := pl_of hfl (r.sublist (fw_sub ps)) fun p hp => b p ((fw_sub ps).subset hp)
  unfold tail01 f_law_k01
  simp [dropSs, r_law_good H (n + 4) st _ (ty_pl st), r_is_plan H.toHPl (n + 3) st _ (ty_pl st), r_law_told H n st ps hl r b, hp, hf]
  rw [lcLoop_map (watchOk_none _) (fun x => [o0, o1, o2, o3, o4, o5, o6, some (.tup (ps.map mk)), some (.bl true), some (.bl true), some (.tup ((fw ps).map mk)), some x, none]) (fun _ => .bl false) _ (fun x hx => ⟨by simp, ?_⟩)]
  · have a1 := any_map (f := fun _ : D => false) (xs := (fw ps).map mk) (getLast_app st (.lst (((fw ps).map mk).map fun _ => .bl false)))
    have f0 : ((fw ps).map mk).any (fun _ => false) = false := by simp
    rw [f0] at a1
    have hsm : small 168 = true := small_ok (by omega) (by omega)
    simp only [bind_ok, a1, truR_bl, stm_ok, seq_next, Bool.false_eq_true, if_false, hsm, if_true, sized_rng (show (168 : Nat) ≤ 16777216 by omega)]
    generalize st ++ [O.lst (((fw ps).map mk).map fun _ => D.bl false)] = st2
    rw [lcLoop_range (watchOk_none _) (fun i => [o0, o1, o2, o3, o4, o5, o6, some (.tup (ps.map mk)), some (.bl true), some (.bl true), some (.tup ((fw ps).map mk)), none, some (.int (i : Nat))]) (fun _ => .bl false) 0 168 fun i hi => ⟨by simp, ?_⟩]
    · have a2 := any_map (f := fun _ : Nat => false) (xs := List.range 168) (getLast_app st2 (.lst ((List.range 168).map fun _ => .bl false)))
      have f2 : (List.range 168).any (fun _ => false) = false := by simp
      rw [f2] at a2
      simp only [bind_ok, a2, truR_bl, stm_ok, seq_next, Bool.false_eq_true, if_false]
      generalize st2 ++ [O.lst ((List.range 168).map fun _ => D.bl false)] = st3
      by_cases h1 : (fw ps).length = 1
      · obtain ⟨x, hx, hall, q, hq⟩ := one_alone h1
        subst hq
        rw [hx]
        simp
        rw [lcLoop_map (watchOk_none _) (fun y => [o0, o1, o2, o3, o4, o5, o6, some (.tup (mk x :: q.map mk)), some (.bl true), some (.bl true), some (.tup [mk x]), some y, none]) (fun _ => .bl true) _ (fun y hy => ⟨by simp, ?_⟩)]
        · have a3 := all_map (f := fun _ : D => true) (xs := mk x :: q.map mk) (getLast_app st3 (.lst ((mk x :: q.map mk).map fun _ => .bl true)))
          have f3 : (mk x :: q.map mk).all (fun _ => true) = true := by simp
          rw [f3] at a3
          simp only [bind_ok, a3, boolR_bl, if_true, eqD_mk]
          simp
        · have hy' : y ∈ (x :: q).map mk := hy
          obtain ⟨p, hp, rfl⟩ := List.mem_map.mp hy'
          have e := hall p hp
          simp [mk, e]
      · have hne : ¬ ((fw ps).length : Int) = 1 := by omega
        have hsm2 : small ((fw ps).length : Int) = true := small_ok (by omega) (by omega)
        simp [hne, hsm2, sized_rng (show (fw ps).length ≤ 16777216 by omega)]
        rw [lcLoop_range (watchOk_none _) (fun i => [o0, o1, o2, some (.int (i : Nat)), o4, o5, o6, some (.tup (ps.map mk)), some (.bl true), some (.bl true), some (.tup ((fw ps).map mk)), none, none]) (fun _ => .bl true) 0 (fw ps).length fun i hi => ⟨by simp, ?_⟩]
        · have a3 := all_map (f := fun _ : Nat => true) (xs := List.range (fw ps).length) (getLast_app st3 (.lst ((List.range (fw ps).length).map fun _ => .bl true)))
          have f3 : (List.range (fw ps).length).all (fun _ => true) = true := by simp
          rw [f3] at a3
          simp only [bind_ok, a3]
          simp
        · obtain ⟨z, h3, h4⟩ := mk_prev hi
          have g := mk_get hi
          have hd : Dd (lastv ps) ps ≠ [] := fun e => by
            unfold fw at h1 hi
            rw [if_pos e] at h1 hi
            cases ps with
            | nil => simp at hi
            | cons a t => simp at h1
          have ef : fw ps = Dd (lastv ps) ps := by unfold fw; rw [if_neg hd]
          have hl2 : lastv (fw ps) = lastv ps := by rw [ef]; exact (dd_last _ _).2 hd
          have hn : Nbr (lastv (fw ps)) (fw ps) := by
            rw [hl2, ef]
            exact dd_nbr _ _
          have q := nbr_prev hn i hi
          rw [← h4] at q
          generalize (fw ps).getD i (0, 0) = u at g q
          simp [g, h3, mk, q]
    · simp [r_shows H (n + 5), sv_fw r, sv_eq]
  · obtain ⟨p, hp', rfl⟩ := List.mem_map.mp hx
    have hm : p ∈ ps := (fw_sub ps).subset hp'
    have e := inD_mk st p ps (List.ne_nil_of_mem hm)
    have e2 : (ps.any fun z => z == p) = true := List.any_eq_true.mpr ⟨p, hm, by simp⟩
    rw [e2] at e
    simp [e]
end Pg
end
end

section
set_option Elab.async false
set_option linter.all false
set_option maxRecDepth 100000
set_option maxHeartbeats 1000000
/-! L01c: the whole run of the law k01. -/
noncomputable section
namespace Pg
open PySem Ws
def pr (a b : Int) : D := .tup [.int a, .int b]
def seq15 : List D := (List.range 15).map fun i => D.tup [.int (i : Nat), .int ((i : Int) % 2)]
def odds (x : Nat) : List D := [.non, .int 5, .ref x, .tup [pr 1 1, pr 1 2], .tup [pr 2 1, pr 1 2], .tup [pr 168 1], .tup [pr 1 10], .tup [.tup [.bl true, .int 1]], .tup [.tup [.int 1]], pr 1 2, .tup [.tup [.int 0, .non]], .str "plan", .tup seq15]
theorem odds_bad (x : Nat) (v : D) (h : v ∈ odds x) : plB v = false := by
  unfold odds at h
  simp only [List.mem_cons, List.not_mem_nil, or_false] at h
  rcases h with rfl | rfl | rfl | rfl | rfl | rfl | rfl | rfl | rfl | rfl | rfl | rfl | rfl
  all_goals first | rfl | (simp [plB, pr, swB, numB, riseB, fstI, seq15])
theorem odds_ty {st : AS} {x : Nat} {ys : List D} (hx : st[x]? = some (.lst ys)) (v : D) (h : v ∈ odds x) : tyPl st v = true := by
  unfold odds at h
  simp only [List.mem_cons, List.not_mem_nil, or_false] at h
  rcases h with rfl | rfl | rfl | rfl | rfl | rfl | rfl | rfl | rfl | rfl | rfl | rfl | rfl
  all_goals first | rfl | (simp [tyPl, tyB, tySw, pr, hx, seq15])
theorem odds_len (x : Nat) : (odds x).length = 13 := rfl
theorem zip_mk : ∀ (pl ks : List Int), List.zipWith (fun p k => D.tup [.int p, .int k]) pl ks = (pl.zip ks).map mk
  | [], _ => by simp
  | _ :: _, [] => by simp
  | p :: pl, k :: ks => by simp [zip_mk pl ks, mk]
theorem zip_ris : ∀ {pl ks : List Int}, pl.Pairwise (· < ·) → Ris (pl.zip ks)
  | [], _, _ => by simp [Ris]
  | _ :: _, [], _ => by simp [Ris]
  | p :: pl, k :: ks, h => by
    unfold Ris
    rw [List.zip_cons_cons, List.pairwise_cons]
    refine ⟨fun q hq => ?_, zip_ris (List.pairwise_cons.mp h).2⟩
    have := List.of_mem_zip (a := q.1) (b := q.2) hq
    exact (List.pairwise_cons.mp h).1 _ this.1
theorem law01_run {P : Tbl} (H : H01 P) (hlaw : P 152 = some f_law_k01) (n : Nat) (ns : List Int) (st : AS) (d : D) (hs : Scr st d ns) : ∃ st', callF P (n + 8) 152 [d] st = .ok (.bl true) st' := by
  refine run_ex hlaw rfl (Q := fun r => ∃ st', r = .ok (.bl true) st') ?_
  obtain ⟨st0, b0, D1, len0⟩ := begin_ok (P := P) H.law_begin (n + 6) hs
  generalize hl : st.length + 1 = l at b0 D1
  generalize hsl : st.length = s at D1
  obtain ⟨r, pl, st1, p1, pr1, prl, prlt, pw, pb, pn, D2, o1⟩ := places_ok (P := P) (iD := 91) H.law_draw (n + 6) D1 (dv := 1) (kv := 3) (x := "_law_k") (big := 168) (cnt := 16) (by omega) (by omega) (by omega) (by omega)
    (env := [some d, some (.ref l), none, none, none, none, none, none, none, none, none, none, none]) rfl (by omega)
  obtain ⟨ks, st2, q1, q2, q3, D3, o2⟩ := planE_ok (P := P) (iD := 91) H.law_draw (n + 6) D2 (dv := 1) (pv := 2) (kv := 5) (r := r) (x := "_law_place") (big := 3) (pl := pl) (by omega) (by omega)
    (env := [some d, some (.ref l), some (.ref r), none, none, none, none, none, none, none, none, none, none]) rfl (by omega) (by simp) rfl pr1 prl
  refine Wp.of (show Wp (exSs (callF P (n + 7)) f_law_k01.body [some d, none, none, none, none, none, none, none, none, none, none, none, none] st) (fun r => ∃ s2, r = .ret (.bl true) s2) from ?_) fun r ⟨s2, hr⟩ => by
    rw [hr, res_ret]; exact gcR_bl st s2 true
  unfold f_law_k01
  refine to_asg (st' := st0) (d := .ref l) (by simp only [evE, evEs, List.getElem?_cons_zero, bind_ok]; exact b0) ?_
  refine to_asg (st' := st1) (d := .ref r) p1 ?_
  refine to_asg (st' := st2) q1 ?_
  rw [zip_mk]
  refine to_asg (d := .ref (st2.length + 1)) (st' := st2 ++ [.lst [pr 1 1]] ++ [.lst ((odds st2.length).take 8)]) (by simp only [evE, evEs, bind_ok, newL, List.length_append, List.length_singleton]; rfl) ?_
  have D4 := (D3.app [.lst [pr 1 1]]).app [.lst ((odds st2.length).take 8)]
  have hx4 : (st2 ++ [.lst [pr 1 1]] ++ [.lst ((odds st2.length).take 8)])[st2.length]? = some (.lst [pr 1 1]) := by simp
  have hy4 : (st2 ++ [.lst [pr 1 1]] ++ [.lst ((odds st2.length).take 8)])[st2.length + 1]? = some (.lst ((odds st2.length).take 8)) := by simp
  generalize hg4 : st2 ++ [.lst [pr 1 1]] ++ [.lst ((odds st2.length).take 8)] = st4 at D4 hx4 hy4 ⊢
  have hl4 : st4.length = st2.length + 2 := by rw [← hg4]; simp
  generalize st2.length = x at hx4 hy4 hl4 ⊢
  refine to_asg (d := .ref (st4.length + 2)) (st' := st4 ++ [.lst seq15] ++ [.lst ((odds x).drop 8)] ++ [.lst (odds x)]) ?_ ?_
  · simp only [evE, evEs, evC, bind_ok, newL, List.set_cons_succ, List.set_cons_zero, List.getElem?_cons_succ, List.getElem?_cons_zero]
    have hsm : small 15 = true := small_ok (by omega) (by omega)
    simp only [evSrc, evE, bind_ok, hsm, if_true]
    rw [sized_rng (show (15 : Int).toNat ≤ 16777216 by decide)]
    simp only [bind_ok]
    rw [lcLoop_range (watchOk_none _) (fun i => [some d, some (.ref l), some (.ref r), some (.int (i : Nat)), some (.tup ((pl.zip ks).map mk)), none, some (.ref (x + 1)), none, none, none, none, none, none]) (fun i => D.tup [.int (i : Nat), .int ((i : Int) % 2)]) 0 (15 : Int).toNat fun i hi => ⟨by simp, by simp⟩]
    simp only [bind_ok]
    have ht := tuple_lst (getLast_app st4 (.lst seq15))
    have e15 : (List.map (fun i : Nat => D.tup [.int (i : Nat), .int ((i : Int) % 2)]) (List.range (15 : Int).toNat)) = seq15 := rfl
    rw [e15, ht]
    simp only [bind_ok, List.getElem?_cons_succ, List.getElem?_cons_zero, List.set_cons_succ, List.set_cons_zero, List.length_append, List.length_singleton]
    have hb := bin_lst (st := st4 ++ [.lst seq15] ++ [.lst ((odds x).drop 8)]) (a := x + 1) (b := st4.length + 1) (xs := (odds x).take 8) (ys := (odds x).drop 8)
      (by rw [List.append_assoc, List.getElem?_append_left (by omega)]; exact hy4) (by simp) (by simp [odds_len, szMax])
    rw [List.take_append_drop] at hb
    refine Eq.trans ?_ (hb.trans ?_)
    · rfl
    · simp [newL]
  have D5 := ((D4.app [.lst seq15]).app [.lst ((odds x).drop 8)]).app [.lst (odds x)]
  have hx5 : (st4 ++ [.lst seq15] ++ [.lst ((odds x).drop 8)] ++ [.lst (odds x)])[x]? = some (.lst [pr 1 1]) := by
    rw [List.append_assoc, List.append_assoc, List.getElem?_append_left (by omega)]; exact hx4
  have hy5 : (st4 ++ [.lst seq15] ++ [.lst ((odds x).drop 8)] ++ [.lst (odds x)])[st4.length + 2]? = some (.lst (odds x)) := by simp
  generalize hg5 : st4 ++ [.lst seq15] ++ [.lst ((odds x).drop 8)] ++ [.lst (odds x)] = st5 at D5 hx5 hy5 ⊢
  have hl5 : st5.length = st4.length + 3 := by rw [← hg5]; simp
  have hrl : l < st4.length := D4.lt
  generalize st4.length + 2 = y at hy5 ⊢
  refine to_asg (d := .tup ((pl.zip ks).map mk)) (st' := st5) (by simp) ?_
  obtain ⟨k, st6, r6, k1, k2, D6, b6⟩ := draw_ok H.law_draw (n + 6) D5 3 (by omega) (by omega)
  have Hr : Ris (pl.zip ks) := zip_ris pw
  have Hb : Bnd (pl.zip ks) := fun p hp => by
    have := List.of_mem_zip (a := p.1) (b := p.2) hp
    have h1 := pb _ this.1
    have h2 := q3 _ this.2
    omega
  refine to_if1 (c := k == 0) (st' := st6) (by simp [r6]) (fun hk => ?_) fun hk => ?_
  · have hyl : y ≠ l := fun e => by
      obtain ⟨a, b, c, e1, _⟩ := D5.at_
      rw [← e, hy5] at e1
      simp [odds] at e1
    have hxl : x ≠ l := fun e => by
      obtain ⟨a, b, c, e1, _⟩ := D5.at_
      rw [← e, hx5] at e1
      simp [pr] at e1
    have hy6 : st6[y]? = some (.lst (odds x)) := by rw [b6.at_ y hyl]; exact hy5
    have hx6 : st6[x]? = some (.lst [pr 1 1]) := by rw [b6.at_ x hxl]; exact hx5
    obtain ⟨j, st7, r7, j1, j2, D7, b7⟩ := draw_ok H.law_draw (n + 6) D6 13 (by omega) (by omega)
    have hy7 : st7[y]? = some (.lst (odds x)) := by rw [b7.at_ y hyl]; exact hy6
    have hx7 : st7[x]? = some (.lst [pr 1 1]) := by rw [b7.at_ x hxl]; exact hx6
    obtain ⟨i, rfl⟩ := Int.eq_ofNat_of_zero_le j1
    have hi : i < (odds x).length := by rw [odds_len]; omega
    refine to_asg (d := (odds x)[i]) (st' := st7) ?_ ?_
    · simp only [evE, evEs, List.getElem?_cons_succ, List.getElem?_cons_zero, List.set_cons_succ, List.set_cons_zero, bind_ok]
      rw [len_lst hy6, odds_len]
      simp only [bind_ok]
      have r7' : callF P (n + 7) 91 [.ref l, .int ((13 : Nat) : Int)] st6 = .ok (.int (i : Nat)) st7 := r7
      rw [r7']
      simp only [bind_ok]
      rw [ixD_lst hy7, atI_nat hi]
      rfl
    · refine to_nil ?_
      have hm : (odds x)[i] ∈ odds x := List.getElem_mem hi
      obtain ⟨s8, e8⟩ := tail_bad H (n + 1) st7 (odds x)[i] (odds_ty hx7 _ hm) (odds_bad x _ hm) (some d) (some (.ref l)) (some (.ref r)) none (some (.tup ((pl.zip ks).map mk))) none (some (.ref y))
      exact ⟨s8, e8⟩
  · by_cases Hl : (pl.zip ks).length ≤ 14
    case neg =>
      obtain ⟨s8, e8⟩ := tail_bad H (n + 1) st6 (.tup ((pl.zip ks).map mk)) (ty_pl st6) (by simp only [plB, List.length_map, decide_eq_false Hl, Bool.false_and]) (some d) (some (.ref l)) (some (.ref r)) none (some (.tup ((pl.zip ks).map mk))) none (some (.ref y))
      exact ⟨s8, e8⟩
    obtain ⟨s8, e8⟩ := tail_good H (n + 1) st6 (pl.zip ks) Hl Hr Hb (some d) (some (.ref l)) (some (.ref r)) none (some (.tup ((pl.zip ks).map mk))) none (some (.ref y))
    exact ⟨s8, e8⟩
end Pg
end
end

section
set_option Elab.async false
set_option linter.all false
set_option maxRecDepth 100000
set_option maxHeartbeats 0
/-! K01: the law's text and tables (printed by gen.py). -/
noncomputable section
namespace K01
open PySem PySem.Spec PyProof.Rows L2 Ws Pg
def top (i : Nat) : Stmt := PySem.Challenge.rw_weekswitch_k01_whole_plans.prog.main.body.getD i (.Pass ⟨0, 0, 0, 0⟩)
def clsB : Stmt → List Stmt
  | .ClassDef (body := b) .. => b
  | _ => []
abbrev s_is_number : Stmt := top 6
def d_is_number : Df := ⟨⟨("is_number", none), "is_number", "is_number", defArgs s_is_number, defBody s_is_number, defScope s_is_number, [], []⟩, ["value", "least", "most"], ["value", "least", "most"], f_is_number⟩
theorem b_is_number : BindOk d_is_number := fun _ _ _ _ _ _ us hl => match us, hl with | [_, _, _], _ => rfl
abbrev s_is_switch : Stmt := top 7
def d_is_switch : Df := ⟨⟨("is_switch", none), "is_switch", "is_switch", defArgs s_is_switch, defBody s_is_switch, defScope s_is_switch, [], []⟩, ["value"], ["value"], f_is_switch⟩
theorem b_is_switch : BindOk d_is_switch := fun _ _ _ _ _ _ us hl => match us, hl with | [_], _ => rfl
abbrev s_is_plan : Stmt := top 8
def d_is_plan : Df := ⟨⟨("is_plan", none), "is_plan", "is_plan", defArgs s_is_plan, defBody s_is_plan, defScope s_is_plan, [], []⟩, ["value", "one", "two"], ["value"], f_is_plan⟩
theorem b_is_plan : BindOk d_is_plan := fun _ _ _ _ _ _ us hl => match us, hl with | [_], _ => rfl
abbrev s_check_plan : Stmt := top 9
def d_check_plan : Df := ⟨⟨("check_plan", none), "check_plan", "check_plan", defArgs s_check_plan, defBody s_check_plan, defScope s_check_plan, [], []⟩, ["plan"], ["plan"], f_check_plan⟩
theorem b_check_plan : BindOk d_check_plan := fun _ _ _ _ _ _ us hl => match us, hl with | [_], _ => rfl
abbrev s_fewest : Stmt := top 10
def d_fewest : Df := ⟨⟨("fewest", none), "fewest", "fewest", defArgs s_fewest, defBody s_fewest, defScope s_fewest, [], []⟩, ["plan", "found", "at"], ["plan"], f_fewest⟩
theorem b_fewest : BindOk d_fewest := fun _ _ _ _ _ _ us hl => match us, hl with | [_], _ => rfl
abbrev s_law_begin : Stmt := top 12
def d_law_begin : Df := ⟨⟨("_law_begin", none), "_law_begin", "_law_begin", defArgs s_law_begin, defBody s_law_begin, defScope s_law_begin, [], []⟩, ["_law_script"], ["_law_script"], f_law_begin⟩
theorem b_law_begin : BindOk d_law_begin := fun _ _ _ _ _ _ us hl => match us, hl with | [_], _ => rfl
abbrev s_law_draw : Stmt := top 13
def d_law_draw : Df := ⟨⟨("_law_draw", none), "_law_draw", "_law_draw", defArgs s_law_draw, defBody s_law_draw, defScope s_law_draw, [], []⟩, ["_law_draws", "_law_many", "_law_cell", "_law_found"], ["_law_draws", "_law_many"], f_law_draw⟩
theorem b_law_draw : BindOk d_law_draw := fun _ _ _ _ _ _ us hl => match us, hl with | [_, _], _ => rfl
abbrev s_law_int : Stmt := top 17
def d_law_int : Df := ⟨⟨("_law_int", none), "_law_int", "_law_int", defArgs s_law_int, defBody s_law_int, defScope s_law_int, [], []⟩, ["_law_value", "_law_high"], ["_law_value", "_law_high"], f_law_int⟩
theorem b_law_int : BindOk d_law_int := fun _ _ _ _ _ _ us hl => match us, hl with | [_, _], _ => rfl
abbrev s_law_good : Stmt := top 18
def d_law_good : Df := ⟨⟨("_law_good", none), "_law_good", "_law_good", defArgs s_law_good, defBody s_law_good, defScope s_law_good, [], []⟩, ["_law_value", "_law_one", "_law_k"], ["_law_value"], f_law_good⟩
theorem b_law_good : BindOk d_law_good := fun _ _ _ _ _ _ us hl => match us, hl with | [_], _ => rfl
abbrev s_law_shows : Stmt := top 19
def d_law_shows : Df := ⟨⟨("_law_shows", none), "_law_shows", "_law_shows", defArgs s_law_shows, defBody s_law_shows, defScope s_law_shows, [], []⟩, ["_law_plan_here", "_law_hour", "_law_found", "_law_place", "_law_value"], ["_law_plan_here", "_law_hour"], f_law_shows⟩
theorem b_law_shows : BindOk d_law_shows := fun _ _ _ _ _ _ us hl => match us, hl with | [_, _], _ => rfl
abbrev s_law_told : Stmt := top 20
def d_law_told : Df := ⟨⟨("_law_told", none), "_law_told", "_law_told", defArgs s_law_told, defBody s_law_told, defScope s_law_told, [], []⟩, ["_law_value", "_law_told_here"], ["_law_value"], f_law_told⟩
theorem b_law_told : BindOk d_law_told := fun _ _ _ _ _ _ us hl => match us, hl with | [_], _ => rfl
abbrev s_law_k01 : Stmt := top 21
def d_law_k01 : Df := ⟨⟨("law", none), "law", "law", defArgs s_law_k01, defBody s_law_k01, defScope s_law_k01, [], []⟩, ["_law_script", "_law_draws", "_law_places", "_law_k", "_law_plan_here", "_law_place", "_law_odd", "_law_value", "_law_good_here", "_law_told_here", "_law_found", "_law_switch", "_law_hour"], ["_law_script"], f_law_k01⟩
theorem b_law_k01 : BindOk d_law_k01 := fun _ _ _ _ _ _ us hl => match us, hl with | [_], _ => rfl
def LT : LawT := ⟨[none, some d_is_number, some d_is_switch, some d_is_plan, some d_check_plan, none, none, some d_fewest, none, none, none, none, none, none, none, none, none, none, none, none, none, none, none, none, none, none, none, none, none, none, none, none, none, none, none, none, none, none, none, none, none, none, none, none, none, none, none, none, none, none, none, none, none, none, none, none, none, none, none, none, none, none, none, none, none, none, none, none, none, none, none, none, none, none, none, none, none, none, none, none, none, none, none, none, none, none, none, none, none, none, some d_law_begin, some d_law_draw, none, none, none, some d_law_int, some d_law_good, some d_law_shows, some d_law_told, none, none, none, none, none, none, none, none, none, none, none, none, none, none, none, none, none, none, none, none, none, none, none, none, none, none, none, none, none, none, none, none, none, none, none, none, none, none, none, none, none, none, none, none, none, none, none, none, none, none, none, none, none, some d_law_k01], [some "WeekError", some "BadPlan"], [1], ["all", "any", "bool", "int", "isinstance", "len", "list", "range", "set", "sorted", "tuple", "zip"], [(0, "WEEK", .int 168), (1, "MOST", .int 14)]⟩
theorem bo : ∀ d ∈ LT.dl, BindOk d := List.forall_mem_cons.mpr ⟨b_is_number, List.forall_mem_cons.mpr ⟨b_is_switch, List.forall_mem_cons.mpr ⟨b_is_plan, List.forall_mem_cons.mpr ⟨b_check_plan, List.forall_mem_cons.mpr ⟨b_fewest, List.forall_mem_cons.mpr ⟨b_law_begin, List.forall_mem_cons.mpr ⟨b_law_draw, List.forall_mem_cons.mpr ⟨b_law_int, List.forall_mem_cons.mpr ⟨b_law_good, List.forall_mem_cons.mpr ⟨b_law_shows, List.forall_mem_cons.mpr ⟨b_law_told, List.forall_mem_cons.mpr ⟨b_law_k01, List.forall_mem_nil _⟩⟩⟩⟩⟩⟩⟩⟩⟩⟩⟩⟩
theorem k_is_number : d_is_number.okB LT.tab = true := by kernel_rfl
theorem k_is_switch : d_is_switch.okB LT.tab = true := by kernel_rfl
theorem k_is_plan : d_is_plan.okB LT.tab = true := by kernel_rfl
theorem k_check_plan : d_check_plan.okB LT.tab = true := by kernel_rfl
theorem k_fewest : d_fewest.okB LT.tab = true := by kernel_rfl
theorem k_law_begin : d_law_begin.okB LT.tab = true := by kernel_rfl
theorem k_law_draw : d_law_draw.okB LT.tab = true := by kernel_rfl
theorem k_law_int : d_law_int.okB LT.tab = true := by kernel_rfl
theorem k_law_good : d_law_good.okB LT.tab = true := by kernel_rfl
theorem k_law_shows : d_law_shows.okB LT.tab = true := by kernel_rfl
theorem k_law_told : d_law_told.okB LT.tab = true := by kernel_rfl
theorem k_law_k01 : d_law_k01.okB LT.tab = true := by kernel_rfl
theorem ok : LT.okB = true := by kernel_rfl
abbrev PP := PF LT.ds
theorem p_is_number : PP 1 = some f_is_number := rfl
theorem p_is_switch : PP 2 = some f_is_switch := rfl
theorem p_is_plan : PP 3 = some f_is_plan := rfl
theorem p_check_plan : PP 4 = some f_check_plan := rfl
theorem p_fewest : PP 7 = some f_fewest := rfl
theorem p_law_begin : PP 90 = some f_law_begin := rfl
theorem p_law_draw : PP 91 = some f_law_draw := rfl
theorem p_law_int : PP 95 = some f_law_int := rfl
theorem p_law_good : PP 96 = some f_law_good := rfl
theorem p_law_shows : PP 97 = some f_law_shows := rfl
theorem p_law_told : PP 98 = some f_law_told := rfl
theorem p_law_k01 : PP 152 = some f_law_k01 := rfl
/-! ### the head -/
abbrev R : PySem.W.OpenRow := PySem.W.OpenLaw.row PySem.Challenge.rw_weekswitch_k01_whole_plans
abbrev hk : PySem.W.Hook := He.hookX 4 LT.fa LT.fn [] [] LT.ex
def ob (s : PySem.W.SharedT) : He.AlX := He.obsX 4 LT.fa LT.fn [] [] LT.ex (HandSHeadRun.getT s)
theorem ob_eq (s : PySem.W.SharedT) : ob s = hk.obs s.abs := He.obsX_eq (HandSHeadRun.getT_eq s)
abbrev qv : Program := PySem.W.view R.prog [21]
def loose : List PySem.Str := (["WeekError", "BadPlan", "WEEK", "MOST", "is_number", "is_switch", "is_plan", "check_plan", "fewest", "_law_begin", "_law_draw", "_law_plan", "_law_until", "_law_away", "_law_int", "_law_good", "_law_shows", "_law_told"] : List PySem.Str)
theorem run (w : World) : HandSHeadRun.RunEq R qv hk ob 4000 loose w := by
  intro os
  kernel_rfl
end K01
namespace K01
open PySem PySem.W PySem.Calls PyProof.Rows L2 Ws Pg
/-- the law holds where the interpreter says so -/
theorem holds_of (n : Nat) (hn : Room (2 * n) callerA) (hl : ∀ (ns : List Int) (st : AS) (d : D), ns.length ≤ 63 → Scr st d ns → ∃ st', callF PP n 152 [d] st = .ok (.bl true) st') : PySem.Challenge.rw_weekswitch_k01_whole_plans.Holds := by
  w_on; o_law
  refine HandSHeadRun.head_any (r := OpenLaw.row PySem.Challenge.rw_weekswitch_k01_whole_plans) (q := view (OpenLaw.row PySem.Challenge.rw_weekswitch_k01_whole_plans).prog [21]) (H := K01.hk) (ob := K01.ob) (M := 4000) (loose := K01.loose) (d := HandSHeadRun.topDef (OpenLaw.row PySem.Challenge.rw_weekswitch_k01_whole_plans).prog 21) (kwd := []) K01.ob_eq
    (by kernel_rfl) (fun s => by kernel_rfl) K01.run (by kernel_rfl) (by kernel_rfl) (by kernel_rfl) (by rfl) (by first | assumption | decide +kernel) (by decide +kernel) ⟨rfl, rfl, rfl, rfl, rfl, by decide +kernel⟩ ?hw ?hc
  case hw => w_witness2
  case hc =>
    refine walk_ofX (l := PySem.Challenge.rw_weekswitch_k01_whole_plans) (n := 63) (k := 2 * n) (x := "_law_script") rfl (by decide) (by kernel_rfl) hn ?F
    intro w mg fa h Y Gn hmg0
    obtain ⟨K, KX, c⟩ := Y
    have hmg : mg ("law" : PySem.Str) = some (.ref fa) := by
      have e : (HandSHeadRun.topDef (OpenLaw.row PySem.Challenge.rw_weekswitch_k01_whole_plans).prog 21).name = ("law" : PySem.Str) := by kernel_rfl
      rw [← e]
      exact hmg0
    obtain ⟨fD, X⟩ := LT.text (w := w) (mg := mg) KX Gn c ok bo
    have hf : LT.tab.fns 152 = some ((some ("law" : PySem.Str), [("_law_script" : PySem.Str)]) : Option PySem.Str × List PySem.Str) := by kernel_rfl
    have g1 := X.fx.fns 152 _ _ hf
    have ea : (LT.gam K w mg fD).fA 152 = fa := by
      have e2 := g1.2.1 "law" rfl
      have e3 : (LT.gam K w mg fD).mg "law" = mg ("law" : PySem.Str) := rfl
      rw [e3, hmg] at e2
      cases e2
      rfl
    have ep : (LT.gam K w mg fD).fP 152 = ([("_law_script" : PySem.Str)] : List PySem.Str) := g1.1
    have hfs : (LT.tab.fns 152).isSome = true := by rw [hf]; rfl
    obtain ⟨dd, hd, okd, hpd, FD⟩ := X.fns 152 hfs
    refine ⟨K, (LT.gam K w mg fD).fD 152, spI (LT.gam K w mg fD) (callF PP n) 152, KX, ?_, fun H a ns hz hO hS => law_end ep hl H a ns hz hO hS, fun base hb hns => ?_⟩
    · have q := FD.bindsA (ps := ([("_law_script" : PySem.Str)] : List PySem.Str)) (by
        have e4 : dd = d_law_k01 := by
          have e5 : LT.ds[152]? = some (some d_law_k01) := rfl
          rw [e5] at hd
          exact (Option.some.inj (Option.some.inj hd)).symm
        rw [e4]
        exact b_law_k01)
      exact fun s u => q s [u] rfl
    · have q := fns_ok X (base := base) (Pg := PySem.Challenge.rw_weekswitch_k01_whole_plans.prog) n 152 hfs
      rw [ep, ea] at q
      exact q
end K01
end
end

section
set_option Elab.async false
set_option linter.all false
set_option maxRecDepth 100000
namespace K01
open Ws Pg
theorem h01 : H01 PP := { is_number := rfl, is_switch := rfl, is_plan := rfl, check_plan := rfl, fewest := rfl, law_begin := rfl, law_draw := rfl, law_int := rfl, law_good := rfl, law_shows := rfl, law_told := rfl }
end K01
theorem PySem.Challenge.cw_weekswitch_k01_whole_plans_holds : PySem.Challenge.rw_weekswitch_k01_whole_plans.Holds :=
  K01.holds_of 8 ⟨rfl, by decide, by decide⟩ fun ns st d _ hs => Pg.law01_run K01.h01 rfl 0 ns st d hs
end

