import PyProof.Rows.All
import Wide.All
import OpenK.AllK
import Wide.FinOn
import HandS.ForMost
import HandS.ForExc
import HandS.Strs
import HandS.TupAny
import HandS.Small
import HandS.IsInst
import HandS.Deep
import HandS.Zip
import HandS.Conv
import HandS.DictComp
import HandS.SortInts
import HandS.TryMany
import HandS.ExcInit
import HandS.Property
import HandS.SetFor
import HandS.More
import HandS.Defaults
import HandS.Text
import HandS.CallSlots
import HandS.Style
import HandS.NamedTupGet
import HandS.HeadHook4
import KE.KStateDown
import HandS.Head0
import HandS.Head1
import HandS.Head2
import HandS.HeadEnd
import HandS.EndBits
import HandS.HeadHook1
import HandS.HeadHook2
import PySem.Challenge.RW_weekswitch_k03_whole_hours_walked
section
set_option Elab.async false
set_option linter.all false
set_option maxRecDepth 100000
set_option maxHeartbeats 4000000
/-! WsA: values, objects, the small syntax, the interpreter. -/
noncomputable section
namespace Ws
open PySem

/-! ### values and objects -/
inductive D where
  | non | bl (b : Bool) | int (i : Int) | str (x : Str) | tup (ds : List D) | ref (l : Nat) | clo (f : Nat) (cs : List D)
  /-- a list of the module's own, never written -/
  | kls (ds : List D)
  deriving Inhabited
mutual
def D.refless : D → Bool
  | .tup ds => reflessAll ds
  | .ref _ => false
  | .clo _ _ => false
  | .kls _ => false
  | .non => true
  | .bl _ => true
  | .int _ => true
  | .str _ => true
def reflessAll : List D → Bool
  | [] => true
  | d :: ds => d.refless && reflessAll ds
end
mutual
def D.lowB (n : Nat) : D → Bool
  | .tup ds => lowAll n ds
  | .ref l => decide (l < n)
  | .clo _ cs => lowAll n cs
  | .kls cs => lowAll n cs
  | .non => true
  | .bl _ => true
  | .int _ => true
  | .str _ => true
def lowAll (n : Nat) : List D → Bool
  | [] => true
  | d :: ds => d.lowB n && lowAll n ds
end
inductive O where
  | lst (xs : List D)
  | dic (kvs : List (L2.Key × D)) (lock : Bool)
  | ins (C : Nat) (fs : List (Str × D))
  | iset (xs : List Int)
  | frz (xs : List D)
  deriving Inhabited
def O.lowB (n : Nat) : O → Bool
  | .lst xs => lowAll n xs
  | .dic kvs _ => lowAll n (kvs.map (·.2))
  | .ins _ fs => lowAll n (fs.map (·.2))
  | .iset _ => true
  | .frz xs => lowAll n xs
def O.flat : O → Bool
  | .lst xs => reflessAll xs
  | _ => false
abbrev AS := List O
abbrev Env := List (Option D)
inductive Res (α : Type) where
  | ok (a : α) (st : AS)
  | exn (c : Nat) (p : D) (st : AS)
  | bad
def Res.bind {α β : Type} (r : Res α) (k : α → AS → Res β) : Res β := match r with
  | .ok a st => k a st
  | .exn c p st => .exn c p st
  | .bad => .bad
@[simp] theorem bind_ok {α β : Type} (a : α) (st : AS) (k : α → AS → Res β) : (Res.ok a st).bind k = k a st := rfl
@[simp] theorem bind_exn {α β : Type} (c : Nat) (p : D) (st : AS) (k : α → AS → Res β) : (Res.exn (α := α) c p st).bind k = .exn c p st := rfl
@[simp] theorem bind_bad {α β : Type} (k : α → AS → Res β) : (Res.bad (α := α)).bind k = .bad := rfl

/-! ### the syntax -/
inductive BOp where | add | sub | mul | fdiv | mod | pow
  deriving DecidableEq
inductive COp where | eq | ne | lt | le | gt | ge | inn | nin
  deriving DecidableEq
/-- built-in functions of values -/
inductive Bi where | len | all | any | sum | min | max | sorted | set | list | tuple | int | str
  deriving DecidableEq
/-- built-in methods -/
inductive Bm where | append | pop | insert | split | join
  deriving DecidableEq
mutual
inductive Tg where
  | name (i : Nat)
  | tup (ts : Tgs)
inductive Tgs where
  | nil
  | cons (t : Tg) (r : Tgs)
end
mutual
inductive E where
  | bad | var (i : Nat) | lit (d : D) | glo (k : Nat) (d : D)
  | tup (es : Es) | lst (es : Es) | dic0 | dic1 (k v : E)
  | bin (op : BOp) (a b : E) | neg (a : E) | nt (a : E) | and (a b : E) | or (a b : E)
  | cmp (op : COp) (a b : E) | chain (p q : COp) (a b c : E) | isN (a : E) | notN (a : E)
  | ite (t : T) (a b : E)
  | call (f : Nat) (es : Es) | make (C f : Nat) (es : Es) | meth (C f : Nat) (o : E) (es : Es) | prop (C f : Nat) (o : E)
  | bi (b : Bi) (es : Es) | isi (T : String) (e : E) | bm (m : Bm) (o : E) (es : Es)
  | fld (x : Str) (o : E) | ix (a b : E) | ixd (a b : E) | sl (a : E) (lo hi : Eo) | slr (a : E)
  | ginD (neg : Bool) (e : E) (k : Nat) (kvs : List (Str × D)) | gixD (k : Nat) (kvs : List (Str × D)) (e : E)
  | lc (own : List (Str × Nat)) (elt : E) (tg : Tg) (src : Src) (c : To)
  | lcd (own : List (Str × Nat)) (elt : E) (tg : Tg) (e : E) (c : To)
  | lc2 (own : List (Str × Nat)) (elt : E) (tg : Tg) (src : Src) (tg2 : Tg) (src2 : Src) (c : To)
  | dc2 (own : List (Str × Nat)) (k v : E) (tg : Tg) (src : Src) (tg2 : Tg) (src2 : Src)
  | fstr (es : Es)
  | lzip (a b : E) | lrng1 (a : E) | lrng3 (a b c : E)
  | clo (f : Nat) (cs : List Nat) | callc (i : Nat) (es : Es) | lenI (C f : Nat) (e : E)
inductive T where
  | bad | ginD (neg : Bool) (e : E) (k : Nat) (kvs : List (Str × D)) | nt (t : T) | and (a b : T) | or (a b : T) | cmp (op : COp) (a b : E) | chain (p q : COp) (a b c : E) | isN (a : E) | notN (a : E) | of (e : E)
inductive To where
  | no
  | of (t : T)
inductive Es where
  | nil
  | cons (e : E) (r : Es)
inductive Eo where
  | no
  | of (e : E)
inductive Src where
  | of (e : E) | rng1 (a : E) | rng2 (a b : E) | rng3 (a b c : E) | enum (a : E) | zip (a b : E)
end
inductive H1 where
  | lit (i : Nat) (d : D) | sub (i : Nat) (k : Int) (d : D) | pay (i : Nat) (f : Str) | payT (i : Nat) (d : D) (f : Str)
mutual
inductive S where
  | bad | asg (tg : Tg) (e : E) | par (i j : Nat) (a b : E) | setIx (o i e : E) | setFld (x : Str) (o e : E)
  | aug (i : Nat) (op : BOp) (e : E) | expr (e : E) | pass
  | ite (t : T) (a b : Ss) | forr (tg : Tg) (src : Src) (tmp : List Nat) (body : Ss) | whil (t : T) (tmp : List Nat) (body : Ss)
  | ret (e : E) | retN | raise (c : Nat) (f : Option Nat) (e : Eo) | tryx (body : Ss) (hs : List (Nat × List H1)) | tryAs (body : Ss) (c n : Nat) (h : List H1)
inductive Ss where
  | nil
  | cons (s : S) (r : Ss)
end
structure FDef where
  np : Nat
  ns : Nat
  body : Ss

/-! ### operations on values -/
mutual
def toP (st : AS) : D → Option PyData
  | .non => some .none
  | .bl b => some (.bool b)
  | .int i => some (.int i)
  | .str x => some (.str x)
  | .tup ds => (toPs st ds).map .tuple
  | .ref _ => none
  | .clo _ _ => none
  | .kls _ => none
def toPs (st : AS) : List D → Option (List PyData)
  | [] => some []
  | d :: ds => match toP st d, toPs st ds with
    | some p, some ps => some (p :: ps)
    | _, _ => none
end
/- lists of data too, nested so many times -/
mutual
def toL (f : D → Option PyData) : D → Option PyData
  | .tup ds => (toLs f ds).map .tuple
  | d => f d
def toLs (f : D → Option PyData) : List D → Option (List PyData)
  | [] => some []
  | d :: ds => match toL f d, toLs f ds with
    | some p, some ps => some (p :: ps)
    | _, _ => none
end
def toD (st : AS) : Nat → D → Option PyData
  | 0, _ => none
  | n + 1, d => toL (fun
    | .non => some .none
    | .bl b => some (.bool b)
    | .int i => some (.int i)
    | .str x => some (.str x)
    | .ref l => match st[l]? with
      | some (.lst xs) => (toLs (toD st n) xs).map .list
      | _ => none
    | _ => none) d
/-- x == y: none where it is not told -/
def eqD (st : AS) (x y : D) : Option Bool := match x, y with
  | .int i, .int j => some (i == j)
  | .str i, .str j => some (i == j)
  | .bl i, .bl j => some (i == j)
  | .non, .non => some true
  | .int _, .str _ => some false
  | .str _, .int _ => some false
  | .non, .int _ => some false
  | .int _, .non => some false
  | .non, .str _ => some false
  | .str _, .non => some false
  | .non, .bl _ => some false
  | .bl _, .non => some false
  | x, y => match toD st 8 x, toD st 8 y with
    | some p, some q => if SeqAt.shaped p && SeqAt.shaped q then some (PyData.eqv p q) else none
    | _, _ => none
/-- flat values -/
@[simp] def D.flatB : D → Bool
  | .non => true
  | .bl _ => true
  | .int _ => true
  | .str _ => true
  | _ => false
def eqF : D → D → Bool
  | .non, .non => true
  | .bl a, .bl b => a == b
  | .bl a, .int b => (if a then 1 else 0) == b
  | .int a, .bl b => a == (if b then 1 else 0)
  | .int a, .int b => a == b
  | .str a, .str b => a == b
  | _, _ => false
def inF (x : D) (xs : List D) : Bool := xs.any fun y => eqF y x
/-- x in y -/
def inD (st : AS) (x y : D) : Option Bool :=
  let go (xs : List D) (isL : Bool) : Option Bool :=
    if x.flatB && xs.all D.flatB then some (inF x xs)
    else match toD st 8 x, toLs (toD st 8) xs with
      | some p, some ps => if SeqAt.shaped p && SeqAt.shaped (.list ps) then some (ps.any fun z => PyData.eqv z p) else none
      | _, _ => none
  match y with
  | .tup xs => go xs false
  | .ref l => match st[l]? with
    | some (.lst xs) => go xs true
    | _ => none
  | .str z => match x with
    | .str w => some (!(Builtin.Str.occurrences z w 0 z.length 1).isEmpty)
    | _ => none
  | _ => none
def cmpI (f : Int → Int → Bool) (x y : D) : Option Bool := match x, y with
  | .int i, .int j => some (f i j)
  | _, _ => none
@[simp] def cmpD (st : AS) (op : COp) (x y : D) : Option Bool := match op with
  | .eq => eqD st x y
  | .ne => (eqD st x y).map (!·)
  | .lt => cmpI (fun i j => decide (i < j)) x y
  | .le => cmpI (fun i j => decide (i ≤ j)) x y
  | .gt => cmpI (fun i j => decide (j < i)) x y
  | .ge => cmpI (fun i j => decide (j ≤ i)) x y
  | .inn => inD st x y
  | .nin => (inD st x y).map (!·)
def ofB (st : AS) : Option Bool → Res D
  | some b => .ok (.bl b) st
  | none => .bad
def ofBT (st : AS) : Option Bool → Res Bool
  | some b => .ok b st
  | none => .bad
@[simp] def isNon : D → Bool
  | .non => true
  | _ => false
def szMax : Nat := 16777216
@[simp] def newL (st : AS) (xs : List D) : Res D := .ok (.ref st.length) (st ++ [.lst xs])
def binD (op : BOp) (x y : D) (st : AS) : Res D := match op, x, y with
  | .add, .int i, .int j => .ok (.int (i + j)) st
  | .sub, .int i, .int j => .ok (.int (i - j)) st
  | .mul, .int i, .int j => @ite _ ((-(2 ^ 64) < i ∧ i < 2 ^ 64) ∨ (-(2 ^ 64) < j ∧ j < 2 ^ 64)) (Classical.propDecidable _) (.ok (.int (i * j)) st) .bad
  | .fdiv, .int i, .int j => @ite _ (0 < j ∧ j < 1073741824) (Classical.propDecidable _) (.ok (.int (i / j)) st) .bad
  | .mod, .int i, .int j => @ite _ (0 < j) (Classical.propDecidable _) (.ok (.int (i % j)) st) .bad
  | .pow, .int i, .int j => @ite _ (0 ≤ j ∧ j ≤ 1000000 ∧ i.natAbs < 2 ^ 64) (Classical.propDecidable _) (.ok (.int (i ^ j.toNat)) st) .bad
  | .add, .str i, .str j => @ite _ (i.length + j.length ≤ szMax) (Classical.propDecidable _) (.ok (.str (i ++ j)) st) .bad
  | .add, .tup a, .tup b => @ite _ (a ≠ [] ∧ a.length + b.length ≤ szMax) (Classical.propDecidable _) (.ok (.tup (a ++ b)) st) .bad
  | .add, .ref a, .ref b => match st[a]?, st[b]? with
    | some (.lst xs), some (.lst ys) => @ite _ (xs.length + ys.length ≤ szMax) (Classical.propDecidable _) (newL st (xs ++ ys)) .bad
    | _, _ => .bad
  | _, _, _ => .bad
def augD (op : BOp) (x y : D) (st : AS) : Res D := match op, x, y with
  | .add, .int i, .int j => .ok (.int (i + j)) st
  | .sub, .int i, .int j => .ok (.int (i - j)) st
  | _, _, _ => .bad
@[simp] def negD (x : D) (st : AS) : Res D := match x with
  | .int i => .ok (.int (-i)) st
  | _ => .bad
def truD (st : AS) : D → Option Bool
  | .non => some false
  | .bl b => some b
  | .int i => some (i != 0)
  | .str y => if y.length ≤ szMax then some ((y.length : Int) != 0) else none
  | .tup ds => some (!ds.isEmpty)
  | .ref l => match st[l]? with
    | some (.lst xs) => some (!xs.isEmpty)
    | some (.dic kvs false) => some (!kvs.isEmpty)
    | _ => none
  | .clo _ _ => none
  | .kls _ => none
def sIx (n d : Nat) : Option Int → Nat
  | none => d
  | some v => if v < 0 then (v + (n : Int)).toNat else min v.toNat n
def cutD {α : Type} (xs : List α) (lo hi : Option Int) : List α := (xs.drop (sIx xs.length 0 lo)).take (sIx xs.length xs.length hi - sIx xs.length 0 lo)
def ixN (n : Nat) (i : Int) : Option Nat := if 0 ≤ i then (if i < n then some i.toNat else none) else if -(n : Int) ≤ i then some (i + n).toNat else none
def atI {α : Type} (xs : List α) (i : Int) : Option α := (ixN xs.length i).bind fun j => xs[j]?
def lookK (kvs : List (L2.Key × D)) (k : L2.Key) : Option D := (kvs.find? fun kv => decide (kv.1 = k)).map (·.2)
def putK (kvs : List (L2.Key × D)) (k : L2.Key) (v : D) : List (L2.Key × D) :=
  if (kvs.any fun kv => decide (kv.1 = k)) = true then kvs.map (fun kv => if kv.1 = k then (kv.1, v) else kv) else kvs ++ [(k, v)]
@[simp] def keyD : D → Option L2.Key
  | .int i => some (.inl i)
  | .str x => some (.inr x)
  | _ => none
def ixD (st : AS) (x y : D) : Option D := match x with
  | .tup xs => match y with
    | .int i => atI xs i
    | _ => none
  | .ref l => match st[l]? with
    | some (.lst xs) => match y with
      | .int i => atI xs i
      | _ => none
    | some (.frz xs) => match y with
      | .int i => atI xs i
      | _ => none
    | _ => none
  | .str z => match y with
    | .int i => if z.length ≤ szMax then (atI z.cps.toList i).map fun c => .str ⟨#[c]⟩ else none
    | _ => none
  | _ => none
def ixK (st : AS) (x y : D) : Option D := match x with
  | .ref l => match st[l]? with
    | some (.dic kvs false) => match keyD y with
      | some k => lookK kvs k
      | none => none
    | _ => none
  | _ => none
def ofD (st : AS) : Option D → Res D
  | some d => .ok d st
  | none => .bad
def slD (st : AS) (x : D) (lo hi : Option Int) : Res D := match x with
  | .tup xs => .ok (.tup (cutD xs lo hi)) st
  | .str z => if z.length ≤ szMax then .ok (.str ⟨(cutD z.cps.toList lo hi).toArray⟩) st else .bad
  | .ref l => match st[l]? with
    | some (.lst xs) => newL st (cutD xs lo hi)
    | _ => .bad
  | _ => .bad
/-- the table of the module's own, text keys -/
@[simp] def ginK (kvs : List (Str × D)) (x : D) : Option Bool := match x with
  | .str z => some (kvs.any fun p => decide (p.1 = z))
  | _ => none
@[simp] def gixK (kvs : List (Str × D)) (x : D) : Option D := match x with
  | .str z => kvs.lookup z
  | _ => none
def slrD (st : AS) (x : D) : Res D := match x with
  | .ref l => match st[l]? with
    | some (.lst xs) => newL st xs.reverse
    | _ => .bad
  | _ => .bad
/-- the field of an own exception -/
def exF (c : Nat) : Str := if c = 13 then "index" else "line"
/-- intsD out of values -/
@[simp] def intsD : List D → Option (List Int)
  | [] => some []
  | .int i :: r => (intsD r).map (i :: ·)
  | _ => none
@[simp] def boolsD : List D → Option (List Bool)
  | [] => some []
  | .bl i :: r => (boolsD r).map (i :: ·)
  | _ => none
@[simp] def strsD : List D → Option (List Str)
  | [] => some []
  | .str i :: r => (strsD r).map (i :: ·)
  | _ => none
def minL : Int → List Int → Int
  | a, [] => a
  | a, b :: r => minL (if b < a then b else a) r
def insS (i : Int) : List Int → List Int
  | [] => [i]
  | j :: r => if i ≤ j then i :: j :: r else j :: insS i r
def sortS : List Int → List Int
  | [] => []
  | i :: r => insS i (sortS r)
def dedS : List Int → List Int
  | [] => []
  | i :: r => if i ∈ r then dedS r else i :: dedS r
def keysI : List (L2.Key × D) → Option (List Int)
  | [] => some []
  | (.inl i, _) :: r => (keysI r).map (i :: ·)
  | (.inr _, _) :: _ => none
def kD : L2.Key → D
  | .inl i => .int i
  | .inr x => .str x
/-- what a value yields when walked: its items; the place that must stay as it is -/
def itemsD (st : AS) : D → Option (List D)
  | .tup xs => some xs
  | .ref l => match st[l]? with
    | some (.lst xs) => some xs
    | some (.frz xs) => some xs
    | _ => none
  | _ => none
def listD (st : AS) : D → Option (List D)
  | .kls xs => some xs
  | d => itemsD st d
def rangeD (a : Int) (n : Nat) : List D := (List.range n).map fun i => .int (a + (i : Nat))
def rangeC (a c : Int) (n : Nat) : List D := (List.range n).map fun i => .int (a + (i : Nat) * c)
def small (i : Int) : Bool := @decide (-(2 ^ 62) ≤ i ∧ i < 2 ^ 62) (Classical.propDecidable _)
def biD (st : AS) (b : Bi) (ds : List D) : Res D := match b, ds with
  | .len, [.str y] => if y.length ≤ szMax then .ok (.int y.length) st else .bad
  | .len, [.tup xs] => .ok (.int xs.length) st
  | .len, [.ref l] => match st[l]? with
    | some (.lst xs) => .ok (.int xs.length) st
    | some (.frz xs) => .ok (.int xs.length) st
    | _ => .bad
  | .all, [.ref l] => match st[l]? with
    | some (.lst xs) => match boolsD xs with
      | some bs => .ok (.bl (bs.all id)) st
      | none => .bad
    | _ => .bad
  | .any, [.ref l] => match st[l]? with
    | some (.lst xs) => match boolsD xs with
      | some bs => .ok (.bl (bs.any id)) st
      | none => .bad
    | _ => .bad
  | .sum, [.ref l] => match st[l]? with
    | some (.lst xs) => match intsD xs with
      | some bs => .ok (.int bs.sum) st
      | none => .bad
    | _ => .bad
  | .min, [.int i, .int j] => .ok (.int (if j < i then j else i)) st
  | .max, [.int i, .int j] => .ok (.int (if j > i then j else i)) st
  | .min, [.ref l] => match st[l]? with
    | some (.lst xs) => match intsD xs with
      | some (a :: r) => .ok (.int (minL a r)) st
      | _ => .bad
    | _ => .bad
  | .sorted, [.ref l] => match st[l]? with
    | some (.lst xs) => match intsD xs with
      | some bs => newL st ((sortS bs).map .int)
      | _ => .bad
    | some (.iset xs) => if xs.length < 64 then newL st ((sortS (dedS xs)).map .int) else .bad
    | some (.dic kvs false) => match keysI kvs with
      | some bs => if bs.length < 64 then newL st ((sortS bs).map .int) else .bad
      | none => .bad
    | _ => .bad
  | .set, [.ref l] => match st[l]? with
    | some (.lst xs) => match intsD xs with
      | some bs => if bs.length ≤ 1000 then .ok (.ref st.length) (st ++ [.iset bs]) else .bad
      | _ => .bad
    | _ => .bad
  | .list, [d] => match listD st d with
    | some xs => newL st xs
    | none => .bad
  | .tuple, [.tup xs] => .ok (.tup xs) st
  | .tuple, [.ref l] => match st[l]? with
    | some (.lst xs) => .ok (.tup xs) st
    | _ => .bad
  | .int, [.int i] => .ok (.int i) st
  | .int, [.bl b] => .ok (.int (if b then 1 else 0)) st
  | _, _ => .bad
/-- the receiver's kind -/
def bmT (st : AS) (m : Bm) (x : D) : Bool := match m, x with
  | .append, .ref l => match st[l]? with
    | some (.lst _) => true
    | _ => false
  | .pop, .ref l => match st[l]? with
    | some (.lst _) => true
    | _ => false
  | .insert, .ref l => match st[l]? with
    | some (.lst _) => true
    | _ => false
  | .split, .str _ => true
  | .join, .str _ => true
  | _, _ => false
def appD (st : AS) (x : D) (ds : List D) : Res D := match x, ds with
  | .ref l, [d] => match st[l]? with
    | some (.lst xs) => if xs.length < szMax then .ok .non (st.set l (.lst (xs ++ [d]))) else .bad
    | _ => .bad
  | _, _ => .bad
def popD (st : AS) (x : D) (ds : List D) : Res D := match x, ds with
  | .ref l, [] => match st[l]? with
    | some (.lst xs) => match xs[xs.length - 1]? with
      | some d => .ok d (st.set l (.lst xs.dropLast))
      | none => .bad
    | _ => .bad
  | .ref l, [.int i] => match st[l]? with
    | some (.lst xs) => if 0 ≤ i then (match xs[i.toNat]? with
      | some d => .ok d (st.set l (.lst (xs.eraseIdx i.toNat)))
      | none => .bad) else .bad
    | _ => .bad
  | _, _ => .bad
def insD (st : AS) (x : D) (ds : List D) : Res D := match x, ds with
  | .ref l, [.int i, d] => match st[l]? with
    | some (.lst xs) => if xs.length < szMax ∧ 0 ≤ i ∧ i ≤ xs.length then .ok .non (st.set l (.lst (xs.take i.toNat ++ [d] ++ xs.drop i.toNat))) else .bad
    | _ => .bad
  | _, _ => .bad
def splD (st : AS) (x : D) (ds : List D) : Res D := match x, ds with
  | .str a, [.str b] => if (b.length == 0) = false ∧ a.length + 2 ≤ szMax then newL st ((Txt.split a b).map .str) else .bad
  | _, _ => .bad
def joiD (st : AS) (x : D) (ds : List D) : Res D := match x, ds with
  | .str a, [.ref l] => match st[l]? with
    | some (.lst xs) => match strsD xs with
      | some ys => if (ys.map (·.length)).sum + ys.length * a.length ≤ szMax then .ok (.str (Txt.join a ys)) st else .bad
      | none => .bad
    | _ => .bad
  | _, _ => .bad
/-- a built-in method: the receiver, the arguments -/
def bmD (st : AS) (m : Bm) (x : D) (ds : List D) : Res D := match m with
  | .append => appD st x ds
  | .pop => popD st x ds
  | .insert => insD st x ds
  | .split => splD st x ds
  | .join => joiD st x ds
def isiD (st : AS) (T : String) (d : D) : Option Bool := match d with
  | .non => some (T == "NoneType")
  | .bl _ => some (T == "bool" || T == "int")
  | .int _ => some (T == "int")
  | .str _ => some (T == "str")
  | .tup _ => some (T == "tuple")
  | .ref l => match st[l]? with
    | some (.lst _) => some (T == "list")
    | some (.dic _ _) => some (T == "dict")
    | _ => none
  | .clo _ _ => none
  | .kls _ => none
/-- the names of fields -/
def FLDS : List Str := ["rooms", "order", "deeds"]
def putF (f : Str) (v : D) : List (Str × D) → List (Str × D)
  | [] => [(f, v)]
  | (g, x) :: r => if g = f then (g, v) :: r else (g, x) :: putF f v r

def fldD (st : AS) (x : Str) (d : D) : Option D := match d with
  | .ref l => match st[l]? with
    | some (.ins _ fs) => fs.lookup x
    | _ => none
  | _ => none
def chR {α : Type} (o : Option Bool) (x y : Res α) : Res α := match o with
  | some true => x
  | some false => y
  | none => .bad
/-! ### the interpreter -/
abbrev Call := Nat → List D → AS → Res D
mutual
def assign : Tg → D → Env → Option Env
  | .name i, d, env => some (env.set i (some d))
  | .tup ts, .tup ds, env => assigns ts ds env
  | .tup _, _, _ => none
def assigns : Tgs → List D → Env → Option Env
  | .nil, [], env => some env
  | .cons t r, d :: ds, env => match assign t d env with
    | some env' => assigns r ds env'
    | none => none
  | _, _, _ => none
end
@[simp] def wipeE (env : Env) : List Nat → Env
  | [] => env
  | v :: vs => (wipeE env vs).set v none
open Classical in
/-- the walked list stands -/
def watchOk (w : Option (Nat × List D)) (st : AS) : Prop := match w with
  | none => True
  | some p => itemsD st (.ref p.1) = some p.2
/-- no error leaves a comprehension here -/
def noX {α : Type} : Res α → Res α
  | .ok a st => .ok a st
  | _ => .bad
/-- list(range(i, j, k)), k above 0 -/
def lr3 (x y z : D) (st : AS) : Res D := match x, y, z with
  | .int i, .int j, .int k => @ite _ (0 ≤ i ∧ i < j ∧ j ≤ 10000 ∧ 0 < k ∧ k ≤ 1000) (Classical.propDecidable _) (newL st (rangeC i k ((j - i - 1) / k + 1).toNat)) .bad
  | _, _, _ => .bad
def lenK : Res D → Res D
  | .ok (.int n) st => if 0 ≤ n ∧ n < 1000000000 then .ok (.int n) st else .bad
  | _ => .bad
@[simp] theorem noX_ok {α : Type} (a : α) (st : AS) : noX (Res.ok a st) = .ok a st := rfl
open Classical in
def lcLoop (w : Option (Nat × List D)) (asg : D → Option Env) (tst : Env → AS → Res Bool) (elt : Env → AS → Res D) : List D → AS → Res (List D)
  | [], st => if watchOk w st then .ok [] st else .bad
  | x :: xs, st => if watchOk w st then (match asg x with
    | some env => (noX (tst env st)).bind fun b st1 => if b = true then (noX (elt env st1)).bind fun d st2 => (lcLoop w asg tst elt xs st2).bind fun ds st3 => .ok (d :: ds) st3 else lcLoop w asg tst elt xs st1
    | none => .bad) else .bad
/- two clauses: the inner loop gives a list -/
open Classical in
def lc2Loop (w : Option (Nat × List D)) (asg : D → Option Env) (inner : Env → AS → Res (List D)) : List D → AS → Res (List D)
  | [], st => if watchOk w st then .ok [] st else .bad
  | x :: xs, st => if watchOk w st then (match asg x with
    | some env => (inner env st).bind fun ds st1 => (lc2Loop w asg inner xs st1).bind fun es st2 => .ok (ds ++ es) st2
    | none => .bad) else .bad
def truR (r : Res D) : Res Bool := r.bind fun d st => match truD st d with
  | some b => .ok b st
  | none => .bad
def boolR (r : Res D) : Res Bool := r.bind fun d st => match d with
  | .bl b => .ok b st
  | _ => .bad
def sized (xs : List D) (w : Option (Nat × List D)) (st : AS) : Res (List D × Option (Nat × List D)) := @ite _ (xs.length ≤ szMax) (Classical.propDecidable _) (.ok (xs, w) st) .bad
section
variable (cl : Call)
mutual
@[simp] def evE : E → Env → AS → Res D
  | .var i, env, st => match env[i]? with
    | some (some d) => .ok d st
    | _ => .bad
  | .lit d, _, st => .ok d st
  | .bad, _, _ => .bad
  | .glo _ d, _, st => .ok d st
  | .tup es, env, st => (evEs es env st).bind fun ds st => .ok (.tup ds) st
  | .lst es, env, st => (evEs es env st).bind fun ds st => newL st ds
  | .dic0, _, st => .ok (.ref st.length) (st ++ [.dic [] false])
  | .dic1 k v, env, st => (evE k env st).bind fun x st => (evE v env st).bind fun y st => match keyD x with
    | some k => .ok (.ref st.length) (st ++ [.dic [(k, y)] false])
    | none => .bad
  | .bin op a b, env, st => (evE a env st).bind fun x st => (evE b env st).bind fun y st => binD op x y st
  | .neg a, env, st => (evE a env st).bind fun x st => negD x st
  | .nt a, env, st => (boolR (evE a env st)).bind fun b st => .ok (.bl (!b)) st
  | .and a b, env, st => (boolR (evE a env st)).bind fun c st => if c = true then evE b env st else .ok (.bl false) st
  | .or a b, env, st => (boolR (evE a env st)).bind fun c st => if c = true then .ok (.bl true) st else evE b env st
  | .cmp op a b, env, st => (evE a env st).bind fun x st => (evE b env st).bind fun y st => ofB st (cmpD st op x y)
  | .chain p q a b c, env, st => (evE a env st).bind fun x st => (evE b env st).bind fun y st => chR (cmpD st p x y) ((evE c env st).bind fun z st => ofB st (cmpD st q y z)) (.ok (.bl false) st)
  | .isN a, env, st => (evE a env st).bind fun x st => .ok (.bl (isNon x)) st
  | .notN a, env, st => (evE a env st).bind fun x st => .ok (.bl (!isNon x)) st
  | .ite t a b, env, st => (evT t env st).bind fun c st => if c = true then evE a env st else evE b env st
  | .call f es, env, st => (evEs es env st).bind fun ds st => cl f ds st
  | .make C f es, env, st => (evEs es env st).bind fun ds st => (cl f (.ref st.length :: ds) (st ++ [.ins C []])).bind fun d st' => match d with
    | .non => .ok (.ref st.length) st'
    | _ => .bad
  | .meth C f o es, env, st => (evE o env st).bind fun x st => match x with
    | .ref l => match st[l]? with
      | some (.ins C' _) => if C' = C then (evEs es env st).bind fun ds st => cl f (.ref l :: ds) st else .bad
      | _ => .bad
    | _ => .bad
  | .prop C f o, env, st => (evE o env st).bind fun x st => match x with
    | .ref l => match st[l]? with
      | some (.ins C' _) => if C' = C then noX (cl f [.ref l] st) else .bad
      | _ => .bad
    | _ => .bad
  | .bi b es, env, st => (evEs es env st).bind fun ds st => biD st b ds
  | .isi T e, env, st => (evE e env st).bind fun d st => ofB st (isiD st T d)
  | .bm m o es, env, st => (evE o env st).bind fun x st => if bmT st m x = true then (evEs es env st).bind fun ds st => bmD st m x ds else .bad
  | .fld x o, env, st => (evE o env st).bind fun d st => ofD st (fldD st x d)
  | .ix a b, env, st => (evE a env st).bind fun x st => (evE b env st).bind fun y st => ofD st (ixD st x y)
  | .ixd a b, env, st => (evE a env st).bind fun x st => (evE b env st).bind fun y st => ofD st (ixK st x y)
  | .sl a lo hi, env, st => (evE a env st).bind fun x st => (evEo lo env st).bind fun l st => (evEo hi env st).bind fun h st => slD st x l h
  | .slr a, env, st => (evE a env st).bind fun x st => slrD st x
  | .ginD neg e _ kvs, env, st => (evE e env st).bind fun x st => ofB st ((ginK kvs x).map fun b => if neg = true then !b else b)
  | .gixD _ kvs e, env, st => (evE e env st).bind fun x st => ofD st (gixK kvs x)
  | .lc own elt tg src c, env, st => (evSrc src env st).bind fun xs st =>
      (lcLoop xs.2 (fun d => assign tg d (wipeE env (own.map (·.2)))) (fun env st => evC c env st) (fun env st => evE elt env st) xs.1 st).bind fun ds st => newL st ds
  | .lcd own elt tg e c, env, st => (evE e env st).bind fun d st => match d with
    | .ref l => match st[l]? with
      | some (.dic kvs false) => (lcLoop none (fun d => assign tg d (wipeE env (own.map (·.2)))) (fun env st => evC c env st) (fun env st => evE elt env st) (kvs.map fun p => kD p.1) (st.set l (.dic kvs true))).bind fun ds st2 => match st2[l]? with
        | some (.dic kvs' true) => newL (st2.set l (.dic kvs' false)) ds
        | _ => .bad
      | _ => .bad
    | _ => .bad
  | .lc2 own elt tg src tg2 src2 c, env, st => (evSrc src env st).bind fun xs st =>
      (lc2Loop xs.2 (fun d => assign tg d (wipeE env (own.map (·.2)))) (fun env st => (noX (evSrc src2 env st)).bind fun ys st => lcLoop ys.2 (fun d => assign tg2 d env) (fun env st => evC c env st) (fun env st => evE elt env st) ys.1 st) xs.1 st).bind fun ds st => newL st ds
  | .dc2 own k v tg src tg2 src2, env, st => .bad
  | .fstr _, _, _ => .bad
  | .lzip a b, env, st => (evE a env st).bind fun x st => (evE b env st).bind fun y st => match x, y with
    | .ref i, .ref j => match st[i]?, st[j]? with
      | some (.lst xs), some (.lst ys) => newL st (List.zipWith (fun x y => .tup [x, y]) xs ys)
      | _, _ => .bad
    | _, _ => .bad
  | .lrng1 a, env, st => (evE a env st).bind fun x st => match x with
    | .int n => if small n = true then (sized (rangeD 0 n.toNat) none st).bind fun xs st => newL st xs.1 else .bad
    | _ => .bad
  | .lrng3 a b c, env, st => (evE a env st).bind fun x st => (evE b env st).bind fun y st => (evE c env st).bind fun z st => lr3 x y z st
  | .clo _ _, _, _ => .bad
  | .callc _ _, _, _ => .bad
  | .lenI C f o, env, st => (evE o env st).bind fun x st => match x with
    | .ref l => match st[l]? with
      | some (.ins C' _) => if C' = C then lenK (cl f [.ref l] st) else .bad
      | _ => .bad
    | _ => .bad
/-- as a test -/
@[simp] def evT : T → Env → AS → Res Bool
  | .bad, _, _ => .bad
  | .ginD neg e _ kvs, env, st => (evE e env st).bind fun x st => ofBT st ((ginK kvs x).map fun b => if neg = true then !b else b)
  | .nt a, env, st => (evT a env st).bind fun b st => .ok (!b) st
  | .and a b, env, st => (evT a env st).bind fun c st => if c = true then evT b env st else .ok false st
  | .or a b, env, st => (evT a env st).bind fun c st => if c = true then .ok true st else evT b env st
  | .cmp op a b, env, st => (evE a env st).bind fun x st => (evE b env st).bind fun y st => ofBT st (cmpD st op x y)
  | .chain p q a b c, env, st => (evE a env st).bind fun x st => (evE b env st).bind fun y st => chR (cmpD st p x y) ((evE c env st).bind fun z st => ofBT st (cmpD st q y z)) (.ok false st)
  | .isN a, env, st => (evE a env st).bind fun x st => .ok (isNon x) st
  | .notN a, env, st => (evE a env st).bind fun x st => .ok (!isNon x) st
  | .of e, env, st => truR (evE e env st)
@[simp] def evC : To → Env → AS → Res Bool
  | .no, _, st => .ok true st
  | .of e, env, st => evT e env st
@[simp] def evEo : Eo → Env → AS → Res (Option Int)
  | .no, _, st => .ok none st
  | .of e, env, st => (evE e env st).bind fun d st => match d with
    | .int i => .ok (some i) st
    | _ => .bad
@[simp] def evEs : Es → Env → AS → Res (List D)
  | .nil, _, st => .ok [] st
  | .cons e r, env, st => (evE e env st).bind fun d st => (evEs r env st).bind fun ds st => .ok (d :: ds) st
@[simp] def evSrc : Src → Env → AS → Res (List D × Option (Nat × List D))
  | .of e, env, st => (evE e env st).bind fun d st => match itemsD st d with
    | some xs => .ok (xs, match d with
      | .ref l => some (l, xs)
      | _ => none) st
    | none => .bad
  | .rng1 a, env, st => (evE a env st).bind fun x st => match x with
    | .int n => if small n = true then sized (rangeD 0 n.toNat) none st else .bad
    | _ => .bad
  | .rng2 a b, env, st => (evE a env st).bind fun x st => (evE b env st).bind fun y st => match x, y with
    | .int i, .int j => if small i = true ∧ small j = true then sized (rangeD i (j - i).toNat) none st else .bad
    | _, _ => .bad
  | .rng3 a b c, env, st => (evE a env st).bind fun x st => (evE b env st).bind fun y st => (evE c env st).bind fun z st => match x, y, z with
    | .int i, .int j, .int k => if small i = true ∧ small j = true ∧ k = -1 then sized (rangeC i (-1) (i - j).toNat) none st else .bad
    | _, _, _ => .bad
  | .enum a, env, st => (evE a env st).bind fun d st => match d with
    | .ref l => match st[l]? with
      | some (.lst xs) => .ok (xs.zipIdx.map fun p => .tup [.int p.2, p.1], some (l, xs)) st
      | _ => .bad
    | _ => .bad
  | .zip a b, env, st => (evE a env st).bind fun x st => (evE b env st).bind fun y st => match x, y with
    | .tup xs, .tup ys => .ok (List.zipWith (fun x y => .tup [x, y]) xs ys, none) st
    | _, _ => .bad
end
end
inductive RS where
  | next (env : Env) (st : AS) | ret (d : D) (st : AS) | brk (env : Env) (st : AS) | cont (env : Env) (st : AS)
  | exn (c : Nat) (p : D) (env : Env) (st : AS) | bad
def Res.stm {α : Type} (r : Res α) (env : Env) (k : α → AS → RS) : RS := match r with
  | .ok a st => k a st
  | .exn c p st => .exn c p env st
  | .bad => .bad
@[simp] theorem stm_ok {α : Type} (a : α) (st : AS) (env : Env) (k : α → AS → RS) : (Res.ok a st).stm env k = k a st := rfl
@[simp] theorem stm_exn {α : Type} (c : Nat) (p : D) (st : AS) (env : Env) (k : α → AS → RS) : (Res.exn (α := α) c p st).stm env k = .exn c p env st := rfl
@[simp] theorem stm_bad {α : Type} (env : Env) (k : α → AS → RS) : (Res.bad (α := α)).stm env k = .bad := rfl
def RS.seq (r : RS) (k : Env → AS → RS) : RS := match r with
  | .next env st => k env st
  | r => r
@[simp] theorem seq_next (env : Env) (st : AS) (k : Env → AS → RS) : (RS.next env st).seq k = k env st := rfl
@[simp] theorem seq_ret (d : D) (st : AS) (k : Env → AS → RS) : (RS.ret d st).seq k = .ret d st := rfl
@[simp] theorem seq_brk (env : Env) (st : AS) (k : Env → AS → RS) : (RS.brk env st).seq k = .brk env st := rfl
@[simp] theorem seq_cont (env : Env) (st : AS) (k : Env → AS → RS) : (RS.cont env st).seq k = .cont env st := rfl
@[simp] theorem seq_exn (c : Nat) (p : D) (env : Env) (st : AS) (k : Env → AS → RS) : (RS.exn c p env st).seq k = .exn c p env st := rfl
@[simp] theorem seq_bad (k : Env → AS → RS) : (RS.bad).seq k = .bad := rfl
open Classical in
def forL (w : Option (Nat × List D)) (asg : D → Env → Option Env) (tmp : List Nat) (body : Env → AS → RS) : List D → Env → AS → RS
  | [], env, st => if watchOk w st then .next (wipeE env tmp) st else .bad
  | x :: xs, env, st => if watchOk w st then (match asg x (wipeE env tmp) with
    | some env1 => match body env1 st with
      | .next e s => forL w asg tmp body xs e s
      | .cont e s => forL w asg tmp body xs e s
      | .brk e s => .next (wipeE e tmp) s
      | r => r
    | none => .bad) else .bad
def whileL (t : Env → AS → Res Bool) (tmp : List Nat) (body : Env → AS → RS) : Nat → Env → AS → RS
  | 0, _, _ => .bad
  | n + 1, env, st => (t (wipeE env tmp) st).stm (wipeE env tmp) fun b st1 => if b = true then (match body (wipeE env tmp) st1 with
      | .next e s => whileL t tmp body n e s
      | .cont e s => whileL t tmp body n e s
      | .brk e s => .next (wipeE e tmp) s
      | r => r) else .next (wipeE env tmp) st1
/-- x[y] = v -/
def setD (v x y : D) (env : Env) (st : AS) : RS := match x with
  | .ref l => match st[l]? with
    | some (.lst xs) => match y with
      | .int k => match ixN xs.length k with
        | some j => .next env (st.set l (.lst (xs.set j v)))
        | none => .bad
      | _ => .bad
    | some (.dic kvs false) => match keyD y with
      | some k => if kvs.length < szMax then .next env (st.set l (.dic (putK kvs k v) false)) else .bad
      | none => .bad
    | _ => .bad
  | _ => .bad
/-- the turns that a while may take -/
def WF : Nat := 1000000
/-- class 0 is the base of all -/
def subX (c h : Nat) : Bool := h == 0 || c == h
@[simp] def runH (c : Nat) : List H1 → D → Env → AS → RS
  | [], _, env, st => .next env st
  | .lit i d :: r, p, env, st => runH c r p (env.set i (some d)) st
  | .sub i k d :: r, p, env, st => match env[i]? with
    | some (some (.ref l)) => match st[l]? with
      | some (.lst xs) => match ixN xs.length k with
        | some j => runH c r p env (st.set l (.lst (xs.set j d)))
        | none => .bad
      | _ => .bad
    | _ => .bad
  | .pay i f :: r, p, env, st => if isNon p = false ∧ exF c = f then runH c r p (env.set i (some p)) st else .bad
  | .payT i d f :: r, p, env, st => if isNon p = false ∧ exF c = f then runH c r p (env.set i (some (.tup [d, p]))) st else .bad
@[simp] def pickH (c : Nat) : List (Nat × List H1) → Option (List H1)
  | [] => none
  | (h, s) :: r => if subX c h = true then some s else pickH c r
section
variable (cl : Call)
mutual
@[simp] def exS : S → Env → AS → RS
  | .bad, _, _ => .bad
  | .asg tg e, env, st => (evE cl e env st).stm env fun d st => match assign tg d env with
    | some env' => .next env' st
    | none => .bad
  | .par i j a b, env, st => (evE cl a env st).stm env fun x st => (evE cl b env st).stm env fun y st => .next ((env.set i (some x)).set j (some y)) st
  | .setIx o i e, env, st => (evE cl e env st).stm env fun v st => (evE cl o env st).stm env fun x st => (evE cl i env st).stm env fun y st => setD v x y env st
  | .setFld x o e, env, st => (evE cl e env st).stm env fun v st => (evE cl o env st).stm env fun d st => match d with
    | .ref l => match st[l]? with
      | some (.ins C fs) => if fs.length < 100 then .next env (st.set l (.ins C (putF x v fs))) else .bad
      | _ => .bad
    | _ => .bad
  | .aug i op e, env, st => match env[i]? with
    | some (some x) => (evE cl e env st).stm env fun y st => (augD op x y st).stm env fun z st => .next (env.set i (some z)) st
    | _ => .bad
  | .expr e, env, st => (evE cl e env st).stm env fun _ st => .next env st
  | .pass, env, st => .next env st
  | .ite t a b, env, st => (evT cl t env st).stm env fun c st => if c = true then exSs a env st else exSs b env st
  | .forr tg src tmp body, env, st => (evSrc cl src env st).stm env fun xs st => forL xs.2 (assign tg) tmp (fun env st => exSs body env st) xs.1 env st
  | .whil t tmp body, env, st => whileL (fun env st => evT cl t env st) tmp (fun env st => exSs body env st) WF env st
  | .ret e, env, st => (evE cl e env st).stm env fun d st => .ret d st
  | .retN, env, st => .ret .non st
  | .raise c f e, env, st => match f, e with
    | none, .no => .exn c .non env st
    | some _, .of e => (evE cl e env st).stm env fun d st => .exn c d env st
    | _, _ => .bad
  | .tryx body hs, env, st => match exSs body env st with
    | .exn c p e s => match pickH c hs with
      | some h => runH c h p e s
      | none => .exn c p e s
    | r => r
  | .tryAs body c0 n h, env, st => match exSs body env st with
    | .exn c p e s => if subX c c0 = true then (match runH c h p (e.set n none) s with
      | .next e s => .next (e.set n none) s
      | _ => .bad) else .exn c p e s
    | r => r
@[simp] def exSs : Ss → Env → AS → RS
  | .nil, env, st => .next env st
  | .cons s r, env, st => (exS s env st).seq fun env st => exSs r env st
end
end
@[simp] def startE (ns : Nat) (ds : List D) : Env := ds.map some ++ List.replicate (ns - ds.length) none
def RS.res : RS → Res D
  | .next _ st => .ok .non st
  | .ret d st => .ok d st
  | .exn c p _ st => .exn c p st
  | _ => .bad
/-- the old objects are as they were, or hold no new place -/
def GcOk (st st' : AS) : Prop := ∀ i, i < st.length → st'[i]? = st[i]? ∨ ∃ o, st'[i]? = some o ∧ o.lowB st.length = true
open Classical in
/-- what was made and is not handed out is forgotten -/
def gcR (st : AS) : Res D → Res D
  | .ok d st' => if GcOk st st' then
      (if d.refless = true then .ok d (st'.take st.length) else match d with
        | .ref r => if st.length ≤ r then (match st'[r]? with
            | some o => if o.flat = true then .ok (.ref st.length) (st'.take st.length ++ [o]) else .ok d st'
            | none => .ok d st') else .ok d st'
        | _ => .ok d st')
    else .ok d st'
  | .exn c p st' => if GcOk st st' then (if p.refless = true then .exn c p (st'.take st.length) else .exn c p st') else .exn c p st'
  | .bad => .bad
def callF (P : Nat → Option FDef) : Nat → Call
  | 0, _, _, _ => .bad
  | n + 1, f, ds, st => match P f with
    | some fd => if ds.length = fd.np then gcR st (exSs (callF P n) fd.body (startE fd.ns ds) st).res else .bad
    | none => .bad
end Ws
end
end

section
set_option Elab.async false
set_option linter.all false
set_option maxRecDepth 100000
set_option maxHeartbeats 4000000
/-! WsB: how values and objects stand in the layer's heap. -/
noncomputable section
namespace Ws
open PySem PySem.Spec PyProof.Rows L2

structure Gam where
  K : PySem.W.Frag
  w : World
  mg : Str → Option Value
  cA : Nat → Addr
  xA : Nat → Addr
  fA : Nat → Addr
  fD : Nat → FuncData
  fP : Nat → List Str
theorem szLine : szMax = sizeLine := by rw [sizeLine_eq]; rfl

section
variable (G : Gam) (μ : Nat → Addr) (n : Nat) (H : Hp)
def KLst (a : Addr) (xs : List V) : Prop :=
  ∃ (o : Obj) (its : Array Value) (n : Nat), G.K.lookup a = some o ∧ o.cls = .type "list" ∧ o.dict = none ∧ o.data = .seq its n ∧ its.size ≤ sizeLine ∧ Vals xs its.toList
def TupAt (a : Addr) (xs : List V) : Prop :=
  H a = some (.tup xs) ∨ ∃ (o : Obj) (its : Array Value) (n : Nat), G.K.lookup a = some o ∧ o.cls = .type "tuple" ∧ o.data = .seq its n ∧ its.size ≤ sizeLine ∧ Vals xs its.toList
mutual
def Rep : D → V → Prop
  | .non, v => v = .non
  | .bl b, v => v = .bl b
  | .int i, v => v = .int i
  | .str x, v => v = .str x
  | .tup ds, v => ds.length ≤ szMax ∧ ∃ a vs, v = .ref a ∧ TupAt G H a vs ∧ Reps ds vs
  | .ref l, v => l < n ∧ v = .ref (μ l)
  | .clo _ _, _ => False
  | .kls ds, v => ds.length ≤ szMax ∧ ∃ a vs, v = .ref a ∧ KLst G a vs ∧ Reps ds vs
def Reps : List D → List V → Prop
  | [], vs => vs = []
  | d :: ds, vs => ∃ v r, vs = v :: r ∧ Rep d v ∧ Reps ds r
end
def KReps : List (Key × D) → List (Key × V) → Prop
  | [], vs => vs = []
  | p :: ds, vs => ∃ v r, vs = (p.1, v) :: r ∧ Rep G μ n H p.2 v ∧ KReps ds r
def FReps : List (Str × D) → List (Str × V) → Prop
  | [], vs => vs = []
  | p :: ds, vs => ∃ v r, vs = (p.1, v) :: r ∧ Rep G μ n H p.2 v ∧ FReps ds r
def RepO : O → Addr → Prop
  | .lst ds, a => ds.length ≤ szMax ∧ ∃ vs, H a = some (.lst vs) ∧ Reps G μ n H ds vs
  | .dic kvs false, a => kvs.length ≤ szMax ∧ ∃ kws, H a = some (.dK kws) ∧ KReps G μ n H kvs kws
  | .dic kvs true, a => kvs.length ≤ szMax ∧ ∃ ob kws, H a = some (.frz ob (.dK kws)) ∧ KReps G μ n H kvs kws
  | .ins C fs, a => (∀ p ∈ fs, p.1 ∈ FLDS) ∧ fs.length ≤ 100 ∧ ∃ dx fs', H a = some (.ins (G.cA C) dx fs') ∧ FReps G μ n H fs fs'
  | .iset xs, a => ∃ c, c ≤ xs.length ∧ H a = some (SetO G.w a (fun k => decide (k ∈ xs)) c)
  | .frz ds, a => ds.length ≤ szMax ∧ ∃ ob vs, H a = some (.frz ob (.lst vs)) ∧ Reps G μ n H ds vs
end
theorem TupAt.sq {G : Gam} {H : Hp} {a : Addr} {xs : List V} (h : TupAt G H a xs) : SqT G.K H a xs := by
  rcases h with h | h
  · exact .inl (.inl h)
  · exact .inr h

section
variable {G : Gam} {μ : Nat → Addr} {n : Nat} {H : Hp}
theorem Reps.length : ∀ {ds : List D} {vs : List V}, Reps G μ n H ds vs → ds.length = vs.length
  | [], _, h => by
    have e : _ = [] := h
    subst e; rfl
  | d :: ds, _, ⟨v, r, e, _, t⟩ => by rw [e, List.length_cons, List.length_cons, Reps.length t]
theorem Reps.get : ∀ {ds : List D} {vs : List V} {i : Nat} {d : D}, Reps G μ n H ds vs → ds[i]? = some d → ∃ v, vs[i]? = some v ∧ Rep G μ n H d v
  | [], _, i, d, h, e => by simp at e
  | x :: ds, _, 0, d, ⟨v, r, rfl, q, t⟩, e => by simp at e; subst e; exact ⟨v, rfl, q⟩
  | x :: ds, _, i + 1, d, ⟨v, r, rfl, q, t⟩, e => by
    obtain ⟨u, h1, h2⟩ := Reps.get (i := i) (d := d) t (by simpa using e)
    exact ⟨u, by simpa using h1, h2⟩
theorem Reps.get' {ds : List D} {vs : List V} {i : Nat} {v : V} (h : Reps G μ n H ds vs) (e : vs[i]? = some v) : ∃ d, ds[i]? = some d ∧ Rep G μ n H d v := by
  have hl := h.length
  obtain ⟨hi, _⟩ := List.getElem?_eq_some_iff.mp e
  have hi' : i < ds.length := by omega
  obtain ⟨u, h1, h2⟩ := h.get (List.getElem?_eq_getElem hi')
  rw [e] at h1; cases h1
  exact ⟨_, List.getElem?_eq_getElem hi', h2⟩
theorem Reps.append : ∀ {ds es : List D} {vs us : List V}, Reps G μ n H ds vs → Reps G μ n H es us → Reps G μ n H (ds ++ es) (vs ++ us)
  | [], _, _, _, h, q => by rw [show _ = [] from h]; exact q
  | d :: ds, _, _, _, ⟨v, r, rfl, h, t⟩, q => ⟨v, _, rfl, h, Reps.append t q⟩
theorem Reps.take : ∀ {ds : List D} {vs : List V} (k : Nat), Reps G μ n H ds vs → Reps G μ n H (ds.take k) (vs.take k)
  | [], _, _, h => by rw [show _ = [] from h]; simp [Reps]
  | d :: ds, _, 0, ⟨v, r, rfl, h, t⟩ => by simp [Reps]
  | d :: ds, _, k + 1, ⟨v, r, rfl, h, t⟩ => ⟨v, _, rfl, h, Reps.take k t⟩
theorem Reps.drop : ∀ {ds : List D} {vs : List V} (k : Nat), Reps G μ n H ds vs → Reps G μ n H (ds.drop k) (vs.drop k)
  | [], _, _, h => by rw [show _ = [] from h]; simp [Reps]
  | d :: ds, _, 0, h => h
  | d :: ds, _, k + 1, ⟨v, r, rfl, h, t⟩ => Reps.drop k t
theorem Reps.set : ∀ {ds : List D} {vs : List V} {d : D} {v : V} (k : Nat), Reps G μ n H ds vs → Rep G μ n H d v → Reps G μ n H (ds.set k d) (vs.set k v)
  | [], _, _, _, _, h, _ => by rw [show _ = [] from h]; simp [Reps]
  | x :: ds, _, d, v, 0, ⟨u, r, rfl, h, t⟩, q => ⟨v, r, rfl, q, t⟩
  | x :: ds, _, d, v, k + 1, ⟨u, r, rfl, h, t⟩, q => ⟨u, _, rfl, h, Reps.set k t q⟩
theorem Reps.dropLast {ds : List D} {vs : List V} (h : Reps G μ n H ds vs) : Reps G μ n H ds.dropLast vs.dropLast := by
  rw [List.dropLast_eq_take, List.dropLast_eq_take, h.length]
  exact h.take _
theorem Reps.one {d : D} {v : V} (h : Rep G μ n H d v) : Reps G μ n H [d] [v] := ⟨v, [], rfl, h, rfl⟩
theorem Reps.nil : Reps G μ n H [] [] := rfl
theorem Reps.cons {d : D} {v : V} {ds : List D} {vs : List V} (h : Rep G μ n H d v) (t : Reps G μ n H ds vs) : Reps G μ n H (d :: ds) (v :: vs) := ⟨v, vs, rfl, h, t⟩
theorem Reps.ints : ∀ {ns : List Int} {vs : List V}, Reps G μ n H (ns.map D.int) vs → vs = ns.map V.int
  | [], _, h => h
  | k :: ns, _, ⟨v, r, rfl, h, t⟩ => by rw [show v = .int k from h, Reps.ints t]; rfl
theorem Reps.ofInts : ∀ (ns : List Int), Reps G μ n H (ns.map D.int) (ns.map V.int)
  | [] => rfl
  | k :: ns => ⟨.int k, _, rfl, rfl, Reps.ofInts ns⟩
theorem intsD_eq : ∀ {ds : List D} {ns : List Int}, intsD ds = some ns → ds = ns.map D.int
  | [], _, h => by simp [intsD] at h; subst h; rfl
  | .int i :: r, ns, h => by
    simp only [intsD, Option.map_eq_some_iff] at h
    obtain ⟨ms, h1, rfl⟩ := h
    rw [intsD_eq h1]; rfl
  | .non :: _, _, h => by simp [intsD] at h
  | .bl _ :: _, _, h => by simp [intsD] at h
  | .str _ :: _, _, h => by simp [intsD] at h
  | .tup _ :: _, _, h => by simp [intsD] at h
  | .ref _ :: _, _, h => by simp [intsD] at h
  | .clo _ _ :: _, _, h => by simp [intsD] at h
  | .kls _ :: _, _, h => by simp [intsD] at h
theorem boolsD_eq : ∀ {ds : List D} {ns : List Bool}, boolsD ds = some ns → ds = ns.map D.bl
  | [], _, h => by simp [boolsD] at h; subst h; rfl
  | .bl i :: r, ns, h => by
    simp only [boolsD, Option.map_eq_some_iff] at h
    obtain ⟨ms, h1, rfl⟩ := h
    rw [boolsD_eq h1]; rfl
  | .non :: _, _, h => by simp [boolsD] at h
  | .int _ :: _, _, h => by simp [boolsD] at h
  | .str _ :: _, _, h => by simp [boolsD] at h
  | .tup _ :: _, _, h => by simp [boolsD] at h
  | .ref _ :: _, _, h => by simp [boolsD] at h
  | .clo _ _ :: _, _, h => by simp [boolsD] at h
  | .kls _ :: _, _, h => by simp [boolsD] at h
theorem Reps.bools : ∀ {ns : List Bool} {vs : List V}, Reps G μ n H (ns.map D.bl) vs → vs = ns.map V.bl
  | [], _, h => h
  | k :: ns, _, ⟨v, r, rfl, h, t⟩ => by rw [show v = .bl k from h, Reps.bools t]; rfl
end

/-! ### what goes on -/
/-- values are as they were -/
structure Nx0 (μ : Nat → Addr) (n : Nat) (H : Hp) (μ' : Nat → Addr) (n' : Nat) (H' : Hp) : Prop where
  le : n ≤ n'
  ext : ∀ i, i < n → μ' i = μ i
  tup : ∀ a xs, H a = some (.tup xs) → H' a = some (.tup xs)
/-- .. and what is tracked and not ours is not touched -/
structure Nx (μ : Nat → Addr) (n : Nat) (H : Hp) (μ' : Nat → Addr) (n' : Nat) (H' : Hp) : Prop extends Nx0 μ n H μ' n' H' where
  frm : ∀ a o, H a = some o → (∀ i, i < n → μ i ≠ a) → H' a = some o
  new : ∀ i, n ≤ i → i < n' → H (μ' i) = none
  keep : ∀ a, H a ≠ none → H' a ≠ none
theorem Nx.refl {μ : Nat → Addr} {n : Nat} {H : Hp} : Nx μ n H μ n H := ⟨⟨Nat.le_refl _, fun _ _ => rfl, fun _ _ h => h⟩, fun _ _ h _ => h, fun i h1 h2 => absurd (Nat.lt_of_lt_of_le h2 h1) (Nat.lt_irrefl _), fun _ h => h⟩
theorem Nx0.trans {μ μ1 μ2 : Nat → Addr} {n n1 n2 : Nat} {H H1 H2 : Hp} (a : Nx0 μ n H μ1 n1 H1) (b : Nx0 μ1 n1 H1 μ2 n2 H2) : Nx0 μ n H μ2 n2 H2 :=
  ⟨Nat.le_trans a.le b.le, fun i hi => (b.ext i (Nat.lt_of_lt_of_le hi a.le)).trans (a.ext i hi), fun c xs h => b.tup c xs (a.tup c xs h)⟩
theorem Nx.trans {μ μ1 μ2 : Nat → Addr} {n n1 n2 : Nat} {H H1 H2 : Hp} (a : Nx μ n H μ1 n1 H1) (b : Nx μ1 n1 H1 μ2 n2 H2) : Nx μ n H μ2 n2 H2 := by
  refine ⟨a.toNx0.trans b.toNx0, fun c o h hi => b.frm c o (a.frm c o h hi) fun i h1 e => ?_, fun i h1 h2 => ?_, fun c h => b.keep c (a.keep c h)⟩
  · by_cases hn : i < n
    · rw [a.ext i hn] at e
      exact hi i hn e
    · have z := a.new i (Nat.le_of_not_lt hn) h1
      rw [e, h] at z; cases z
  · by_cases hn : i < n1
    · rw [b.ext i hn]
      exact a.new i h1 hn
    · have z := b.new i (Nat.le_of_not_lt hn) h2
      cases e : H (μ2 i) with
      | none => rfl
      | some o => exact absurd z (a.keep _ (by rw [e]; exact fun y => by cases y))
section
variable {G : Gam} {μ μ' : Nat → Addr} {n n' : Nat} {H H' : Hp}
theorem TupAt.mono (x : Nx0 μ n H μ' n' H') {a : Addr} {xs : List V} (h : TupAt G H a xs) : TupAt G H' a xs := by
  rcases h with h | h
  · exact .inl (x.tup a xs h)
  · exact .inr h
mutual
theorem Rep.mono (x : Nx0 μ n H μ' n' H') : ∀ (d : D) (v : V), Rep G μ n H d v → Rep G μ' n' H' d v
  | .non, _, h => h
  | .bl _, _, h => h
  | .int _, _, h => h
  | .str _, _, h => h
  | .tup ds, _, ⟨z, a, vs, e, t, r⟩ => ⟨z, a, vs, e, t.mono x, Reps.mono x ds vs r⟩
  | .ref l, _, ⟨h, e⟩ => ⟨Nat.lt_of_lt_of_le h x.le, by rw [x.ext l h]; exact e⟩
  | .clo _ _, _, h => h
  | .kls ds, _, ⟨z, a, vs, e, t, r⟩ => ⟨z, a, vs, e, t, Reps.mono x ds vs r⟩
theorem Reps.mono (x : Nx0 μ n H μ' n' H') : ∀ (ds : List D) (vs : List V), Reps G μ n H ds vs → Reps G μ' n' H' ds vs
  | [], _, h => h
  | d :: ds, _, ⟨v, r, e, h, t⟩ => ⟨v, r, e, Rep.mono x d v h, Reps.mono x ds r t⟩
end
theorem KReps.mono (x : Nx0 μ n H μ' n' H') : ∀ {ds : List (Key × D)} {vs : List (Key × V)}, KReps G μ n H ds vs → KReps G μ' n' H' ds vs
  | [], _, h => h
  | d :: ds, _, ⟨v, r, e, h, t⟩ => ⟨v, r, e, Rep.mono x _ v h, KReps.mono x t⟩
theorem FReps.mono (x : Nx0 μ n H μ' n' H') : ∀ {ds : List (Str × D)} {vs : List (Str × V)}, FReps G μ n H ds vs → FReps G μ' n' H' ds vs
  | [], _, h => h
  | d :: ds, _, ⟨v, r, e, h, t⟩ => ⟨v, r, e, Rep.mono x _ v h, FReps.mono x t⟩
theorem RepO.mono (x : Nx0 μ n H μ' n' H') {o : O} {a : Addr} (e : H' a = H a) (h : RepO G μ n H o a) : RepO G μ' n' H' o a := by
  cases o with
  | lst ds => obtain ⟨z, vs, q, r⟩ := h; exact ⟨z, vs, by rw [e]; exact q, Reps.mono x _ _ r⟩
  | dic kvs lock =>
    cases lock with
    | false => obtain ⟨z, vs, q, r⟩ := h; exact ⟨z, vs, by rw [e]; exact q, r.mono x⟩
    | true => obtain ⟨z, ob, vs, q, r⟩ := h; exact ⟨z, ob, vs, by rw [e]; exact q, r.mono x⟩
  | ins C fs => obtain ⟨k1, k2, dx, vs, q, r⟩ := h; exact ⟨k1, k2, dx, vs, by rw [e]; exact q, r.mono x⟩
  | iset xs => obtain ⟨c, z, q⟩ := h; exact ⟨c, z, by rw [e]; exact q⟩
  | frz ds => obtain ⟨z, ob, vs, q, r⟩ := h; exact ⟨z, ob, vs, by rw [e]; exact q, Reps.mono x _ _ r⟩
/-- something that is no tuple stands there -/
theorem RepO.there {o : O} {a : Addr} (h : RepO G μ n H o a) : ∃ u, H a = some u ∧ ∀ xs, u ≠ .tup xs := by
  cases o with
  | lst ds => obtain ⟨z, vs, q, r⟩ := h; exact ⟨_, q, fun _ e => by cases e⟩
  | dic kvs lock =>
    cases lock with
    | false => obtain ⟨z, vs, q, r⟩ := h; exact ⟨_, q, fun _ e => by cases e⟩
    | true => obtain ⟨z, ob, vs, q, r⟩ := h; exact ⟨_, q, fun _ e => by cases e⟩
  | ins C fs => obtain ⟨k1, k2, dx, vs, q, r⟩ := h; exact ⟨_, q, fun _ e => by cases e⟩
  | iset xs => obtain ⟨c, z, q⟩ := h; exact ⟨_, q, fun _ e => by unfold SetO at e; cases e⟩
  | frz ds => obtain ⟨z, ob, vs, q, r⟩ := h; exact ⟨_, q, fun _ e => by cases e⟩
end

/-- the state stands in the heap -/
structure Rl (G : Gam) (μ : Nat → Addr) (st : AS) (H : Hp) : Prop where
  inj : ∀ i j, i < st.length → j < st.length → μ i = μ j → i = j
  obj : ∀ i o, st[i]? = some o → RepO G μ st.length H o (μ i)
section
variable {G : Gam} {μ : Nat → Addr} {st : AS} {H H' : Hp}
theorem Rl.there (R : Rl G μ st H) {i : Nat} (hi : i < st.length) : ∃ u, H (μ i) = some u ∧ ∀ xs, u ≠ .tup xs := (R.obj i _ (List.getElem?_eq_getElem hi)).there
theorem Rl.fresh (R : Rl G μ st H) {p : Addr} (h : H p = none) {i : Nat} (hi : i < st.length) : μ i ≠ p := fun e => by
  obtain ⟨u, q, _⟩ := R.there hi
  rw [e, h] at q; cases q
/-- other things are laid -/
theorem Rl.frame (R : Rl G μ st H) (t : ∀ a xs, H a = some (.tup xs) → H' a = some (.tup xs)) (k : ∀ i, i < st.length → H' (μ i) = H (μ i)) : Rl G μ st H' :=
  ⟨R.inj, fun i o e => (R.obj i o e).mono ⟨Nat.le_refl _, fun _ _ => rfl, t⟩ (k i (List.getElem?_eq_some_iff.mp e).1)⟩
theorem keep_upd {H : Hp} {p : Addr} {o : HO} (a : Addr) (h : H a ≠ none) : upd H p o a ≠ none := by
  by_cases e : a = p
  · rw [e, upd_same]; exact fun y => by cases y
  · rw [upd_ne e]; exact h
theorem nx_upd {n : Nat} {p : Addr} {o : HO} (h : H p = none) : Nx μ n H μ n (upd H p o) :=
  ⟨⟨Nat.le_refl _, fun _ _ => rfl, fun a xs e => by rw [upd_ne (ne_of_none e h)]; exact e⟩, fun a u e _ => by rw [upd_ne (ne_of_none e h)]; exact e, fun i h1 h2 => absurd (Nat.lt_of_lt_of_le h2 h1) (Nat.lt_irrefl _), keep_upd⟩
theorem Rl.side (R : Rl G μ st H) {p : Addr} {o : HO} (h : H p = none) : Rl G μ st (upd H p o) :=
  R.frame (nx_upd (μ := μ) (n := st.length) h).tup fun i hi => upd_ne (R.fresh h hi)
def extM (μ : Nat → Addr) (n : Nat) (p : Addr) : Nat → Addr := fun i => if i = n then p else μ i
theorem extM_at {μ : Nat → Addr} {n : Nat} {p : Addr} : extM μ n p n = p := if_pos rfl
theorem extM_lt {μ : Nat → Addr} {n : Nat} {p : Addr} {i : Nat} (h : i < n) : extM μ n p i = μ i := if_neg (Nat.ne_of_lt h)
theorem nx_new {p : Addr} {o : HO} {ob : O} (h : H p = none) : Nx μ st.length H (extM μ st.length p) (st ++ [ob]).length (upd H p o) :=
  ⟨⟨by simp, fun i hi => extM_lt hi, (nx_upd (μ := μ) (n := st.length) h).tup⟩, (nx_upd (μ := μ) (n := st.length) h).frm, fun i h1 h2 => by
    rw [List.length_append, List.length_singleton] at h2
    have e : i = st.length := by omega
    rw [e, extM_at]; exact h, keep_upd⟩
/-- a new object of ours -/
theorem Rl.new (R : Rl G μ st H) {p : Addr} {ho : HO} {o : O} (h : H p = none) (q : RepO G (extM μ st.length p) (st ++ [o]).length (upd H p ho) o p) : Rl G (extM μ st.length p) (st ++ [o]) (upd H p ho) := by
  have nx := nx_new (μ := μ) (st := st) (o := ho) (ob := o) h
  refine ⟨fun i j hi hj e => ?_, fun i u e => ?_⟩
  · rw [List.length_append, List.length_singleton] at hi hj
    by_cases h1 : i = st.length <;> by_cases h2 : j = st.length
    · rw [h1, h2]
    · have hj' : j < st.length := by omega
      rw [h1, extM_at, extM_lt hj'] at e
      exact absurd e.symm (R.fresh h hj')
    · have hi' : i < st.length := by omega
      rw [h2, extM_at, extM_lt hi'] at e
      exact absurd e (R.fresh h hi')
    · rw [extM_lt (by omega), extM_lt (by omega)] at e
      exact R.inj i j (by omega) (by omega) e
  · by_cases h1 : i < st.length
    · rw [List.getElem?_append_left h1] at e
      rw [extM_lt h1]
      exact (R.obj i u e).mono nx.toNx0 (upd_ne (R.fresh h h1))
    · obtain ⟨hl, _⟩ := List.getElem?_eq_some_iff.mp e
      rw [List.length_append, List.length_singleton] at hl
      have e1 : i = st.length := by omega
      subst e1
      rw [List.getElem?_append_right (Nat.le_refl _)] at e
      simp at e
      subst e
      rw [extM_at]
      exact q
/-- a tracked thing that is not ours becomes ours -/
theorem Rl.adopt (R : Rl G μ st H) {p : Addr} {o : O} (h : ∀ i, i < st.length → μ i ≠ p) (q : RepO G (extM μ st.length p) (st ++ [o]).length H o p) : Rl G (extM μ st.length p) (st ++ [o]) H := by
  have nx : Nx0 μ st.length H (extM μ st.length p) (st ++ [o]).length H := ⟨by simp, fun i hi => extM_lt hi, fun _ _ e => e⟩
  refine ⟨fun i j hi hj e => ?_, fun i u e => ?_⟩
  · rw [List.length_append, List.length_singleton] at hi hj
    by_cases h1 : i = st.length <;> by_cases h2 : j = st.length
    · rw [h1, h2]
    · have hj' : j < st.length := by omega
      rw [h1, extM_at, extM_lt hj'] at e
      exact absurd e.symm (h j hj')
    · have hi' : i < st.length := by omega
      rw [h2, extM_at, extM_lt hi'] at e
      exact absurd e (h i hi')
    · rw [extM_lt (by omega), extM_lt (by omega)] at e
      exact R.inj i j (by omega) (by omega) e
  · by_cases h1 : i < st.length
    · rw [List.getElem?_append_left h1] at e
      rw [extM_lt h1]
      exact (R.obj i u e).mono nx rfl
    · obtain ⟨hl, _⟩ := List.getElem?_eq_some_iff.mp e
      rw [List.length_append, List.length_singleton] at hl
      have e1 : i = st.length := by omega
      subst e1
      rw [List.getElem?_append_right (Nat.le_refl _)] at e
      simp at e
      subst e
      rw [extM_at]
      exact q
/-- an object of ours is written -/
theorem nx_write (R : Rl G μ st H) {l : Nat} {ho : HO} (hl : l < st.length) {k : Nat} (hk : st.length = k) : Nx μ st.length H μ k (upd H (μ l) ho) :=
  ⟨⟨Nat.le_of_eq hk, fun _ _ => rfl, fun a xs e => by
    obtain ⟨u, q, z⟩ := R.there hl
    rw [upd_ne (fun y => by rw [y, q] at e; exact z xs (Option.some.inj e))]
    exact e⟩, fun a u e hi => by rw [upd_ne (fun y => hi l hl y.symm)]; exact e, fun i h1 h2 => absurd (Nat.lt_of_lt_of_le h2 (by omega)) (Nat.lt_irrefl _), keep_upd⟩
theorem Rl.write (R : Rl G μ st H) {l : Nat} {ho : HO} {o : O} (hl : l < st.length) (q : RepO G μ st.length (upd H (μ l) ho) o (μ l)) : Rl G μ (st.set l o) (upd H (μ l) ho) := by
  have nx := nx_write R (ho := ho) hl (k := (st.set l o).length) (by simp)
  refine ⟨fun i j hi hj => R.inj i j (by simpa using hi) (by simpa using hj), fun i u e => ?_⟩
  by_cases h1 : i = l
  · subst h1
    rw [List.getElem?_set_self hl] at e
    cases e
    rw [List.length_set]
    exact q
  · rw [List.getElem?_set_ne (Ne.symm h1)] at e
    have hi := (List.getElem?_eq_some_iff.mp e).1
    exact (R.obj i u e).mono nx.toNx0 (upd_ne fun y => h1 (R.inj i l hi hl y))
end

/-! ### the names -/
structure ER (G : Gam) (μ : Nat → Addr) (n : Nat) (H : Hp) (env : Env) (σ : L2.St) : Prop where
  len : env.length = σ.length
  val : ∀ (i : Nat) (d : D), env[i]? = some (some d) → ∃ v, σ[i]? = some (some v) ∧ Rep G μ n H d v
section
variable {G : Gam} {μ μ' : Nat → Addr} {n n' : Nat} {H H' : Hp} {env : Env} {σ : L2.St}
theorem ER.mono (x : Nx0 μ n H μ' n' H') (e : ER G μ n H env σ) : ER G μ' n' H' env σ :=
  ⟨e.len, fun i d h => let ⟨v, h1, h2⟩ := e.val i d h; ⟨v, h1, Rep.mono x d v h2⟩⟩
theorem ER.set (e : ER G μ n H env σ) {i : Nat} {d : D} {v : V} (r : Rep G μ n H d v) : ER G μ n H (env.set i (some d)) (σ.set i (some v)) := by
  refine ⟨by simp [e.len], fun j x h => ?_⟩
  by_cases hj : i = j
  · subst hj
    by_cases hi : i < env.length
    · rw [List.getElem?_set_self hi] at h
      cases h
      exact ⟨v, by rw [List.getElem?_set_self (by rw [← e.len]; exact hi)], r⟩
    · rw [List.getElem?_eq_none (by simpa using hi)] at h; cases h
  · rw [List.getElem?_set_ne hj] at h
    obtain ⟨u, h1, h2⟩ := e.val j x h
    exact ⟨u, by rw [List.getElem?_set_ne hj]; exact h1, h2⟩
/-- a name is forgotten, on either side -/
theorem ER.unset (e : ER G μ n H env σ) {i : Nat} : ER G μ n H (env.set i none) (σ.set i none) := by
  refine ⟨by simp [e.len], fun j x h => ?_⟩
  by_cases hj : i = j
  · subst hj
    by_cases hi : i < env.length
    · rw [List.getElem?_set_self hi] at h; cases h
    · rw [List.getElem?_eq_none (by simpa using hi)] at h; cases h
  · rw [List.getElem?_set_ne hj] at h
    obtain ⟨u, h1, h2⟩ := e.val j x h
    exact ⟨u, by rw [List.getElem?_set_ne hj]; exact h1, h2⟩
theorem ER.unset1 (e : ER G μ n H env σ) {i : Nat} : ER G μ n H (env.set i none) σ := by
  refine ⟨by simp [e.len], fun j x h => ?_⟩
  by_cases hj : i = j
  · subst hj
    by_cases hi : i < env.length
    · rw [List.getElem?_set_self hi] at h; cases h
    · rw [List.getElem?_eq_none (by simpa using hi)] at h; cases h
  · rw [List.getElem?_set_ne hj] at h
    exact e.val j x h
theorem ER.unset2 (e : ER G μ n H env σ) {i : Nat} {o : Option V} : ER G μ n H (env.set i none) (σ.set i o) := by
  refine ⟨by simp [e.len], fun j x h => ?_⟩
  by_cases hj : i = j
  · subst hj
    by_cases hi : i < env.length
    · rw [List.getElem?_set_self hi] at h; cases h
    · rw [List.getElem?_eq_none (by simpa using hi)] at h; cases h
  · rw [List.getElem?_set_ne hj] at h
    obtain ⟨u, h1, h2⟩ := e.val j x h
    exact ⟨u, by rw [List.getElem?_set_ne hj]; exact h1, h2⟩
theorem ER.wipe1 (e : ER G μ n H env σ) : ∀ vs : List Nat, ER G μ n H (wipeE env vs) σ
  | [] => e
  | v :: vs => (ER.wipe1 e vs).unset1
theorem ER.wipe (e : ER G μ n H env σ) : ∀ vs : List Nat, ER G μ n H (wipeE env vs) (wipe σ vs)
  | [] => e
  | v :: vs => (ER.wipe e vs).unset
theorem wipeE_length (env : Env) : ∀ vs : List Nat, (wipeE env vs).length = env.length
  | [] => rfl
  | v :: vs => by unfold wipeE; rw [List.length_set, wipeE_length env vs]
end
end Ws
end
end

section
set_option Elab.async false
set_option linter.all false
set_option maxRecDepth 100000
set_option maxHeartbeats 4000000
/-! WsC: the rules for values, tests, arguments, operators. -/
noncomputable section
namespace Ws
open PySem PySem.Spec PyProof.Rows L2
abbrev MV := Env → AS → Res D
section
variable (G : Gam) (W : WX) (σ : L2.St)
/-- what an exception carries: nothing, or a field of its own dict -/
def Pay (μ : Nat → Addr) (n : Nat) (H : Hp) (c : Nat) (p : D) (dx : Option Addr) : Prop := match p with
  | .non => True
  | p => ∃ d v, dx = some d ∧ H d = some (.xd [(exF c, v)]) ∧ Rep G μ n H p v
def PostR {α : Type} (μ : Nat → Addr) (n : Nat) (H : Hp) (P : α → AS → (Nat → Addr) → Hp → Prop) : Res α → Prop
  | .ok a st' => ∀ μ' H', Nx μ n H μ' st'.length H' → Rl G μ' st' H' → P a st' μ' H'
  | .exn c p st' => ∀ μ' dx H', Nx μ n H μ' st'.length H' → Rl G μ' st' H' → Pay G μ' st'.length H' c p dx → W (.ref (G.xA c)) dx σ H'
  | .bad => False
def PV (Q : VK) : D → AS → (Nat → Addr) → Hp → Prop := fun d st' μ' H' => ∀ v, Rep G μ' st'.length H' d v → Q v H'
def PA' (Q : List V → Hp → Prop) : List D → AS → (Nat → Addr) → Hp → Prop := fun ds st' μ' H' => ∀ vs, Reps G μ' st'.length H' ds vs → Q vs H'
def PB (Q : Bool → Hp → Prop) : Bool → AS → (Nat → Addr) → Hp → Prop := fun b _ _ H' => Q b H'
end
section
variable {G : Gam} {W : WX} {σ : L2.St} {α β : Type} {μ μ1 : Nat → Addr} {n n1 : Nat} {H H1 : Hp} {P P' : α → AS → (Nat → Addr) → Hp → Prop}
theorem PostR.trans {r : Res α} (x : Nx μ n H μ1 n1 H1) (h : PostR G W σ μ n H P r) : PostR G W σ μ1 n1 H1 P r := by
  cases r with
  | ok a st => exact fun μ' H' y rl => h μ' H' (x.trans y) rl
  | exn c p st => exact fun μ' dx H' y rl q => h μ' dx H' (x.trans y) rl q
  | bad => exact h
theorem PostR.mono {r : Res α} (h : PostR G W σ μ n H P r) (k : ∀ a st' μ' H', Nx μ n H μ' st'.length H' → Rl G μ' st' H' → P a st' μ' H' → P' a st' μ' H') : PostR G W σ μ n H P' r := by
  cases r with
  | ok a st => exact fun μ' H' y rl => k _ _ _ _ y rl (h μ' H' y rl)
  | exn c p st => exact h
  | bad => exact h
theorem PostR.bind {P : β → AS → (Nat → Addr) → Hp → Prop} {r : Res α} {k : α → AS → Res β} (h : PostR G W σ μ n H P (r.bind k)) :
    PostR G W σ μ n H (fun a st1 μ1 H1 => PostR G W σ μ1 st1.length H1 P (k a st1)) r := by
  cases r with
  | ok a st => exact fun μ' H' y rl => PostR.trans y h
  | exn c p st => exact h
  | bad => exact h
/-- at the place itself -/
theorem PostR.here {st : AS} {a : α} (h : PostR G W σ μ st.length H P (.ok a st)) (R : Rl G μ st H) : P a st μ H := h μ H Nx.refl R
end
section
variable (G : Gam) (W : WX)
def tV (m : MV) : TE := fun σ H Q => ∃ μ env st, Rl G μ st H ∧ ER G μ st.length H env σ ∧ PostR G W σ μ st.length H (PV G Q) (m env st)
def tT (m : Env → AS → Res Bool) : TT := fun σ H Q => ∃ μ env st, Rl G μ st H ∧ ER G μ st.length H env σ ∧ PostR G W σ μ st.length H (PB Q) (m env st)
def tAs (m : Env → AS → Res (List D)) : TA := fun σ H Q => ∃ μ env st, Rl G μ st H ∧ ER G μ st.length H env σ ∧ PostR G W σ μ st.length H (PA' G Q) (m env st)
end

/-! ### weaker readings -/
theorem _root_.L2.PE.imp {X : Cx} {e : Expr} {t t' : TE} (h : PE X e t) (i : ∀ σ H Q, t' σ H Q → t σ H Q) : PE X e t' := ⟨fun pins s σ H Q I q => h.run pins s σ H Q I (i σ H Q q)⟩
theorem _root_.L2.PT.imp {X : Cx} {e : Expr} {t t' : TT} (h : PT X e t) (i : ∀ σ H Q, t' σ H Q → t σ H Q) : PT X e t' := ⟨fun pins s σ H Q I q => h.run pins s σ H Q I (i σ H Q q)⟩
theorem _root_.L2.PW.imp {X : Cx} {e : Expr} {t t' : TT} (h : PW X e t) (i : ∀ σ H Q, t' σ H Q → t σ H Q) : PW X e t' := ⟨fun wh pins s σ H Q I q => h.run wh pins s σ H Q I (i σ H Q q)⟩
theorem _root_.L2.PA.imp {X : Cx} {e : List Expr} {t t' : TA} (h : PA X e t) (i : ∀ σ H Q, t' σ H Q → t σ H Q) : PA X e t' := ⟨fun pos pins s σ H Q I q => h.run pos pins s σ H Q I (i σ H Q q)⟩
theorem _root_.L2.PS.imp {X : Cx} {e : Stmt} {t t' : TS} (h : PS X e t) (i : ∀ D σ H, t' D σ H → t D σ H) : PS X e t' := ⟨fun pins s σ H D I q => h.run pins s σ H D I (i D σ H q)⟩
theorem _root_.L2.PSs.imp {X : Cx} {e : List Stmt} {t t' : TS} (h : PSs X e t) (i : ∀ D σ H, t' D σ H → t D σ H) : PSs X e t' := ⟨fun pins s σ H D I q => h.run pins s σ H D I (i D σ H q)⟩
theorem _root_.L2.PG.imp {X : Cx} {e : Expr} {t t' : TG} (h : PG X e t) (i : ∀ v σ H Q, t' v σ H Q → t v σ H Q) : PG X e t' := ⟨fun pins s σ H v u Q I r q => h.run pins s σ H v u Q I r (i v σ H Q q)⟩
theorem _root_.L2.PI.imp {X : Cx} {tg e : Expr} {t t' : TI} (h : PI X tg e t) (i : ∀ σ H Q, t' σ H Q → t σ H Q) : PI X tg e t' := ⟨fun pins s σ H Q I q => h.run pins s σ H Q I (i σ H Q q)⟩
theorem _root_.L2.PI.or {X : Cx} {tg e : Expr} {t t' : TI} (h : PI X tg e t) (h' : PI X tg e t') : PI X tg e (fun σ H Q => t σ H Q ∨ t' σ H Q) := ⟨fun pins s σ H Q I q => q.elim (h.run pins s σ H Q I) (h'.run pins s σ H Q I)⟩
theorem _root_.L2.PO.imp {X : Cx} {e : Option Expr} {t t' : TO} (h : PO X e t) (i : ∀ σ H Q, t' σ H Q → t σ H Q) : PO X e t' := ⟨fun pins s σ H Q I q => h.run pins s σ H Q I (i σ H Q q)⟩
theorem _root_.L2.PSet.or {X : Cx} {t t' : TSet} (h : PSet X t) (h' : PSet X t') : PSet X (fun o i v H Q => t o i v H Q ∨ t' o i v H Q) :=
  fun pins s σ H o i v ov iv u Q I r1 r2 r3 q => q.elim (h pins s σ H o i v ov iv u Q I r1 r2 r3) (h' pins s σ H o i v ov iv u Q I r1 r2 r3)

section
variable {G : Gam} {W : WX} {σ : L2.St} {H : Hp}
theorem tV_mono {m : MV} {Q Q' : VK} (h : tV G W m σ H Q) (k : ∀ v H, Q v H → Q' v H) : tV G W m σ H Q' := by
  obtain ⟨μ, env, st, R, e, p⟩ := h
  exact ⟨μ, env, st, R, e, p.mono fun a st' μ' H' _ _ q v r => k _ _ (q v r)⟩
theorem tAs_mono {m : Env → AS → Res (List D)} {Q Q' : List V → Hp → Prop} (h : tAs G W m σ H Q) (k : ∀ v H, Q v H → Q' v H) : tAs G W m σ H Q' := by
  obtain ⟨μ, env, st, R, e, p⟩ := h
  exact ⟨μ, env, st, R, e, p.mono fun a st' μ' H' _ _ q v r => k _ _ (q v r)⟩
theorem tT_mono {m : Env → AS → Res Bool} {Q Q' : Bool → Hp → Prop} (h : tT G W m σ H Q) (k : ∀ v H, Q v H → Q' v H) : tT G W m σ H Q' := by
  obtain ⟨μ, env, st, R, e, p⟩ := h
  exact ⟨μ, env, st, R, e, p.mono fun a st' μ' H' _ _ q => k _ _ q⟩
/-- first this value, then the rest -/
theorem tV_bind {α : Type} {P : α → AS → (Nat → Addr) → Hp → Prop} {m : MV} {k : Env → D → AS → Res α} {env : Env} {st : AS} {μ : Nat → Addr} (R : Rl G μ st H) (e : ER G μ st.length H env σ)
    (h : PostR G W σ μ st.length H P ((m env st).bind (k env))) :
    tV G W m σ H fun v H1 => ∃ μ1 st1 x, Rl G μ1 st1 H1 ∧ ER G μ1 st1.length H1 env σ ∧ Nx μ st.length H μ1 st1.length H1 ∧ Rep G μ1 st1.length H1 x v ∧ PostR G W σ μ1 st1.length H1 P (k env x st1) :=
  ⟨μ, env, st, R, e, h.bind.mono fun a st' μ' H' x rl q v r => ⟨μ', st', a, rl, e.mono x.toNx0, x, r, q⟩⟩
theorem tAs_bind {α : Type} {P : α → AS → (Nat → Addr) → Hp → Prop} {m : Env → AS → Res (List D)} {k : Env → List D → AS → Res α} {env : Env} {st : AS} {μ : Nat → Addr} (R : Rl G μ st H) (e : ER G μ st.length H env σ)
    (h : PostR G W σ μ st.length H P ((m env st).bind (k env))) :
    tAs G W m σ H fun v H1 => ∃ μ1 st1 x, Rl G μ1 st1 H1 ∧ ER G μ1 st1.length H1 env σ ∧ Nx μ st.length H μ1 st1.length H1 ∧ Reps G μ1 st1.length H1 x v ∧ PostR G W σ μ1 st1.length H1 P (k env x st1) :=
  ⟨μ, env, st, R, e, h.bind.mono fun a st' μ' H' x rl q v r => ⟨μ', st', a, rl, e.mono x.toNx0, x, r, q⟩⟩
theorem tT_bind {α : Type} {P : α → AS → (Nat → Addr) → Hp → Prop} {m : Env → AS → Res Bool} {k : Env → Bool → AS → Res α} {env : Env} {st : AS} {μ : Nat → Addr} (R : Rl G μ st H) (e : ER G μ st.length H env σ)
    (h : PostR G W σ μ st.length H P ((m env st).bind (k env))) :
    tT G W m σ H fun b H1 => ∃ μ1 st1, Rl G μ1 st1 H1 ∧ ER G μ1 st1.length H1 env σ ∧ Nx μ st.length H μ1 st1.length H1 ∧ PostR G W σ μ1 st1.length H1 P (k env b st1) :=
  ⟨μ, env, st, R, e, h.bind.mono fun a st' μ' H' x rl q => ⟨μ', st', rl, e.mono x.toNx0, x, q⟩⟩
/-- two values, one after the other -/
theorem tV_two {α : Type} {P : α → AS → (Nat → Addr) → Hp → Prop} {ma mb : MV} {g : Env → D → D → AS → Res α} {env : Env} {st : AS} {μ : Nat → Addr} (R : Rl G μ st H) (e : ER G μ st.length H env σ)
    (h : PostR G W σ μ st.length H P ((ma env st).bind fun x st => (mb env st).bind fun y st => g env x y st)) :
    tV G W ma σ H fun v H1 => tV G W mb σ H1 fun u H2 => ∃ μ2 st2 x y, Rl G μ2 st2 H2 ∧ ER G μ2 st2.length H2 env σ ∧ Nx μ st.length H μ2 st2.length H2 ∧ Rep G μ2 st2.length H2 x v ∧ Rep G μ2 st2.length H2 y u ∧ PostR G W σ μ2 st2.length H2 P (g env x y st2) :=
  tV_mono (tV_bind (k := fun env x st => (mb env st).bind fun y st => g env x y st) R e h) fun v H1 ⟨μ1, st1, x, R1, e1, x1, r1, q1⟩ =>
    tV_mono (tV_bind (k := fun env y st => g env x y st) R1 e1 q1) fun u H2 ⟨μ2, st2, y, R2, e2, x2, r2, q2⟩ => ⟨μ2, st2, x, y, R2, e2, x1.trans x2, r1.mono x2.toNx0, r2, q2⟩
end

/-! ### the simple expressions -/
section
variable {G : Gam} {W : WX} {X : Cx}
theorem w_var {i : Nat} {x : Str} {pos : Pos} (hN : X.N[i]? = some x) (hv : Vis X.env.scope x) (hd : (x == ("__debug__" : Str)) = false) (hcd : (x == ("__classdict__" : Str)) = false) :
    PE X (.Name x pos) (tV G W fun env st => match env[i]? with
      | some (some d) => .ok d st
      | _ => .bad) := by
  refine (pe_var hN hv hd hcd).imp fun σ H Q h => ?_
  obtain ⟨μ, env, st, R, e, p⟩ := h
  dsimp only at p
  split at p
  · rename_i d hd
    obtain ⟨v, h1, h2⟩ := e.val i d hd
    exact ⟨v, h1, p.here R v h2⟩
  · exact p.elim
theorem w_const {e : Expr} {v : V} {d : D} (h : PE X e (tC v)) (hd : ∀ μ n H, Rep G μ n H d v) : PE X e (tV G W fun _ st => .ok d st) := by
  refine h.imp fun σ H Q h => ?_
  obtain ⟨μ, env, st, R, e, p⟩ := h
  exact p.here R v (hd _ _ _)
theorem w_aNil : PA X [] (tAs G W fun _ st => .ok [] st) := by
  refine pa_nil.imp fun σ H Q h => ?_
  obtain ⟨μ, env, st, R, e, p⟩ := h
  exact p.here R [] rfl
theorem w_aCons {e : Expr} {es : List Expr} {m : MV} {ms : Env → AS → Res (List D)} (h1 : PE X e (tV G W m)) (h2 : PA X es (tAs G W ms)) (hs : starEach (e :: es) X.env = (false, eval e X.env) :: starEach es X.env) :
    PA X (e :: es) (tAs G W fun env st => (m env st).bind fun d st => (ms env st).bind fun ds st => .ok (d :: ds) st) := by
  refine (pa_cons h1 h2 hs).imp fun σ H Q h => ?_
  obtain ⟨μ, env, st, R, e, p⟩ := h
  refine tV_mono (tV_bind (k := fun env d st => (ms env st).bind fun ds st => .ok (d :: ds) st) R e p) fun v H1 ⟨μ1, st1, x, R1, e1, x1, r1, q1⟩ => ?_
  refine tAs_mono (tAs_bind (k := fun env ds st => .ok (x :: ds) st) R1 e1 q1) fun vs H2 ⟨μ2, st2, xs, R2, e2, x2, r2, q2⟩ => ?_
  exact q2.here R2 _ ((Rep.mono x2.toNx0 _ _ r1 : Rep _ _ _ _ _ _) |> fun z => Reps.cons z r2)
/-- a tuple of written items -/
theorem w_tup {es : List Expr} {k : Nat} {pos : Pos} {ms : Env → AS → Res (List D)} (h : PA X es (tAs G W ms)) (hl : ∀ env st ds st', ms env st = .ok ds st' → ds.length ≤ szMax) :
    PE X (.Tuple es k pos) (tV G W fun env st => (ms env st).bind fun ds st => .ok (.tup ds) st) := by
  refine (pe_tup h).imp fun σ H Q h => ?_
  obtain ⟨μ, env, st, R, e, p⟩ := h
  have hz : ∀ ds st', ms env st = .ok ds st' → ds.length ≤ szMax := hl env st
  dsimp only at p
  refine ⟨μ, env, st, R, e, ?_⟩
  cases hr : ms env st with
  | ok ds st' =>
    rw [hr] at p
    have z := hz _ _ hr
    intro μ1 H1 x1 R1 vs rs
    have lz : vs.length ≤ sizeLine := by rw [← rs.length, ← szLine]; exact z
    refine ⟨lz, fun a ha => ?_⟩
    have nx : Nx μ1 st'.length H1 μ1 st'.length (upd H1 a (.tup vs)) := nx_upd ha
    exact p μ1 _ (x1.trans nx) (R1.side ha) _ ⟨z, a, vs, rfl, .inl upd_same, Reps.mono nx.toNx0 _ _ rs⟩
  | exn c q st' => rw [hr] at p; exact p
  | bad => rw [hr] at p; exact p.elim
theorem newL_ok {μ : Nat → Addr} {st : AS} {H : Hp} {σ : L2.St} {Q : VK} {ds : List D} {vs : List V} (R : Rl G μ st H) (rs : Reps G μ st.length H ds vs) (z : ds.length ≤ szMax)
    (p : PostR G W σ μ st.length H (PV G Q) (newL st ds)) (a : Addr) (ha : H a = none) : Q (.ref a) (upd H a (.lst vs)) := by
  have nx := nx_new (μ := μ) (st := st) (o := .lst vs) (ob := .lst ds) ha
  have R2 : Rl G (extM μ st.length a) (st ++ [.lst ds]) (upd H a (.lst vs)) := R.new ha ⟨z, vs, upd_same, Reps.mono nx.toNx0 _ _ rs⟩
  exact p _ _ nx R2 _ ⟨by simp, by rw [extM_at]⟩
theorem w_lst {es : List Expr} {pos : Pos} {ms : Env → AS → Res (List D)} (h : PA X es (tAs G W ms)) (hl : ∀ env st ds st', ms env st = .ok ds st' → ds.length ≤ szMax) :
    PE X (.List es pos) (tV G W fun env st => (ms env st).bind fun ds st => newL st ds) := by
  refine (pe_lst h).imp fun σ H Q h => ?_
  obtain ⟨μ, env, st, R, e, p⟩ := h
  have hz : ∀ ds st', ms env st = .ok ds st' → ds.length ≤ szMax := hl env st
  dsimp only at p
  refine ⟨μ, env, st, R, e, ?_⟩
  cases hr : ms env st with
  | ok ds st' =>
    rw [hr] at p
    have z := hz _ _ hr
    intro μ1 H1 x1 R1 vs rs
    have lz : vs.length ≤ sizeLine := by rw [← rs.length, ← szLine]; exact z
    exact ⟨lz, fun a ha => newL_ok R1 rs z (PostR.trans x1 p) a ha⟩
  | exn c q st' => rw [hr] at p; exact p
  | bad => rw [hr] at p; exact p.elim

/-! ### operators by values -/
/-- the layer's rule r is met where g tells the outcome -/
def RC2 (G : Gam) (r : R2) (g : D → D → AS → Res D) : Prop := ∀ (W : WX) (σ : L2.St) (μ : Nat → Addr) (st : AS) (H : Hp) (x y : D) (v u : V) (Q : VK), Rl G μ st H → Rep G μ st.length H x v → Rep G μ st.length H y u →
  PostR G W σ μ st.length H (PV G Q) (g x y st) → r v u H Q
theorem w_op {op : Operator} {r : R2} {g : D → D → AS → Res D} {a b : Expr} {ma mb : MV} {pos : Pos} (ho : OpR X (binaryOp op) r) (c : RC2 G r g) (ha : PE X a (tV G W ma)) (hb : PE X b (tV G W mb)) :
    PE X (.BinOp a op b pos) (tV G W fun env st => (ma env st).bind fun x st => (mb env st).bind fun y st => g x y st) := by
  refine (pe_op ho ha hb).imp fun σ H Q h => ?_
  obtain ⟨μ, env, st, R, e, p⟩ := h
  exact tV_mono (tV_two (g := fun _ x y st => g x y st) R e p) fun v H1 h1 => tV_mono h1 fun u H2 ⟨μ2, st2, x, y, R2, e2, x2, r1, r2, q⟩ => c W σ μ2 st2 H2 x y v u Q R2 r1 r2 q
theorem w_cmp {op : CmpOp} {r : R2} {g : D → D → AS → Res D} {a b : Expr} {ma mb : MV} {pos : Pos} (ho : OpR X (compareOp op) r) (c : RC2 G r g) (ha : PE X a (tV G W ma)) (hb : PE X b (tV G W mb)) (hm : behindInMarks op b = false) :
    PE X (.Compare a [op] [b] pos) (tV G W fun env st => (ma env st).bind fun x st => (mb env st).bind fun y st => g x y st) := by
  refine (pe_cmpR ho ha hb hm).imp fun σ H Q h => ?_
  obtain ⟨μ, env, st, R, e, p⟩ := h
  exact tV_mono (tV_two (g := fun _ x y st => g x y st) R e p) fun v H1 h1 => tV_mono h1 fun u H2 ⟨μ2, st2, x, y, R2, e2, x2, r1, r2, q⟩ => c W σ μ2 st2 H2 x y v u Q R2 r1 r2 q
theorem w_ix {r : R2} {g : D → D → AS → Res D} {a b : Expr} {ma mb : MV} {pos : Pos} (ho : IxR X r) (c : RC2 G r g) (ha : PE X a (tV G W ma)) (hb : PE X b (tV G W mb)) (hs : PlainIx b) :
    PE X (.Subscript a b pos) (tV G W fun env st => (ma env st).bind fun x st => (mb env st).bind fun y st => g x y st) := by
  refine (pe_ix ho ha hb hs).imp fun σ H Q h => ?_
  obtain ⟨μ, env, st, R, e, p⟩ := h
  exact tV_mono (tV_two (g := fun _ x y st => g x y st) R e p) fun v H1 h1 => tV_mono h1 fun u H2 ⟨μ2, st2, x, y, R2, e2, x2, r1, r2, q⟩ => c W σ μ2 st2 H2 x y v u Q R2 r1 r2 q
theorem RC2.or1 {r r' : R2} {g : D → D → AS → Res D} (h : RC2 G r g) : RC2 G (fun x y H Q => r x y H Q ∨ r' x y H Q) g := fun W σ μ st H x y v u Q R r1 r2 p => .inl (h W σ μ st H x y v u Q R r1 r2 p)
end
end Ws
end
end

section
set_option Elab.async false
set_option linter.all false
set_option maxRecDepth 100000
set_option maxHeartbeats 4000000
/-! WsD: operators, comparisons, subscripts by values. -/
noncomputable section
namespace Ws
open PySem PySem.Spec PyProof.Rows L2
theorem PostR.no {G : Gam} {W : WX} {σ : L2.St} {α : Type} {μ : Nat → Addr} {n : Nat} {H : Hp} {P : α → AS → (Nat → Addr) → Hp → Prop} {C : Prop} (h : PostR G W σ μ n H P .bad) : C := h.elim
theorem RC2.or2 {G : Gam} {r r' : R2} {g : D → D → AS → Res D} (h : RC2 G r' g) : RC2 G (fun x y H Q => r x y H Q ∨ r' x y H Q) g := fun W σ μ st H x y v u Q R r1 r2 p => .inr (h W σ μ st H x y v u Q R r1 r2 p)

/-! ### what a place of ours holds -/
section
variable {G : Gam} {μ : Nat → Addr} {st : AS} {H : Hp} {l : Nat}
theorem Rl.lt (R : Rl G μ st H) {o : O} (e : st[l]? = some o) : l < st.length := (List.getElem?_eq_some_iff.mp e).1
theorem Rl.lst (R : Rl G μ st H) {xs : List D} (e : st[l]? = some (.lst xs)) : xs.length ≤ szMax ∧ ∃ vs, H (μ l) = some (.lst vs) ∧ Reps G μ st.length H xs vs := R.obj l _ e
theorem Rl.frz (R : Rl G μ st H) {xs : List D} (e : st[l]? = some (.frz xs)) : xs.length ≤ szMax ∧ ∃ ob vs, H (μ l) = some (.frz ob (.lst vs)) ∧ Reps G μ st.length H xs vs := R.obj l _ e
theorem Rl.dic (R : Rl G μ st H) {xs : List (Key × D)} (e : st[l]? = some (.dic xs false)) : xs.length ≤ szMax ∧ ∃ vs, H (μ l) = some (.dK vs) ∧ KReps G μ st.length H xs vs := R.obj l _ e
/-- what is walked: a list or a tuple that is read -/
theorem itemsD_sq (R : Rl G μ st H) {d : D} {v : V} {xs : List D} (e : itemsD st d = some xs) (r : Rep G μ st.length H d v) :
    ∃ a vs, v = .ref a ∧ (SqL G.K H a vs ∨ SqT G.K H a vs) ∧ Reps G μ st.length H xs vs ∧ xs.length ≤ szMax := by
  cases d with
  | tup ds =>
    simp only [itemsD, Option.some.injEq] at e
    subst e
    obtain ⟨z, a, vs, e1, t, rs⟩ := r
    exact ⟨a, vs, e1, .inr t.sq, rs, z⟩
  | kls ds => simp [itemsD] at e
  | ref l =>
    obtain ⟨hl, e1⟩ := r
    simp only [itemsD] at e
    split at e
    · rename_i ys hy
      cases e
      obtain ⟨z, vs, h1, h2⟩ := R.lst hy
      exact ⟨_, vs, e1, .inl (.inl (.inl h1)), h2, z⟩
    · rename_i ys hy
      cases e
      obtain ⟨z, ob, vs, h1, h2⟩ := R.frz hy
      exact ⟨_, vs, e1, .inl (.inl (.inr ⟨ob, h1⟩)), h2, z⟩
    · cases e
  | non => simp [itemsD] at e
  | bl _ => simp [itemsD] at e
  | int _ => simp [itemsD] at e
  | str _ => simp [itemsD] at e
  | clo _ _ => simp [itemsD] at e

theorem listD_sq (R : Rl G μ st H) {d : D} {v : V} {xs : List D} (e : listD st d = some xs) (r : Rep G μ st.length H d v) :
    ∃ a vs, v = .ref a ∧ (SqL G.K H a vs ∨ SqT G.K H a vs) ∧ Reps G μ st.length H xs vs ∧ xs.length ≤ szMax := by
  cases d with
  | kls ds =>
    simp only [listD, Option.some.injEq] at e
    subst e
    obtain ⟨z, a, vs, e1, t, rs⟩ := r
    exact ⟨a, vs, e1, .inl (.inr t), rs, z⟩
  | _ => unfold listD at e; exact itemsD_sq R e r
/-! ### data -/
mutual
theorem toL_dp {f : D → Option PyData} {n : Nat} (hf : ∀ d p v, f d = some p → Rep G μ n H d v → Dp G.K H v p) : ∀ (d : D) (p : PyData) (v : V), toL f d = some p → Rep G μ n H d v → Dp G.K H v p
  | .tup ds, p, v, h, ⟨z, a, vs, e, t, r⟩ => by
    simp only [toL, Option.map_eq_some_iff] at h
    obtain ⟨ps, h1, rfl⟩ := h
    subst e
    exact .tup t.sq (toLs_dp hf ds ps vs h1 r)
  | .non, p, v, h, r => hf _ p v h r
  | .bl _, p, v, h, r => hf _ p v h r
  | .int _, p, v, h, r => hf _ p v h r
  | .str _, p, v, h, r => hf _ p v h r
  | .ref _, p, v, h, r => hf _ p v h r
  | .clo _ _, p, v, h, r => hf _ p v h r
  | .kls _, p, v, h, r => hf _ p v h r
theorem toLs_dp {f : D → Option PyData} {n : Nat} (hf : ∀ d p v, f d = some p → Rep G μ n H d v → Dp G.K H v p) : ∀ (ds : List D) (ps : List PyData) (vs : List V), toLs f ds = some ps → Reps G μ n H ds vs → DpAll G.K H vs ps
  | [], ps, vs, h, r => by
    have e : vs = [] := r
    subst e
    simp only [toLs, Option.some.injEq] at h
    subst h
    exact .nil
  | d :: ds, ps, vs, h, ⟨v, r, e, h1, t⟩ => by
    subst e
    simp only [toLs] at h
    split at h
    · rename_i p qs e1 e2
      cases h
      exact .cons (toL_dp hf d p v e1 h1) (toLs_dp hf ds qs r e2 t)
    · cases h
end
theorem toD_dp (R : Rl G μ st H) : ∀ (k : Nat) (d : D) (p : PyData) (v : V), toD st k d = some p → Rep G μ st.length H d v → Dp G.K H v p
  | 0, _, _, _, h, _ => by simp [toD] at h
  | k + 1, d, p, v, h, r => by
    unfold toD at h
    refine toL_dp (f := _) (fun d p v h r => ?_) d p v h r
    cases d with
    | non => cases h; cases r; exact .non
    | bl b => cases h; cases r; exact .bl b
    | int b => cases h; cases r; exact .int b
    | str b => cases h; cases r; exact .str b
    | tup ds => cases h
    | clo _ _ => cases h
    | kls _ => cases h
    | ref l =>
      obtain ⟨hl, rfl⟩ := r
      dsimp only at h
      split at h
      · rename_i xs hx
        rw [Option.map_eq_some_iff] at h
        obtain ⟨ps, h1, rfl⟩ := h
        obtain ⟨z, vs, h2, h3⟩ := R.lst hx
        exact .lst (.inl (.inl h2)) (toLs_dp (fun d p v h r => toD_dp R k d p v h r) xs ps vs h1 h3)
      · cases h
end

/-! ### arithmetic -/
def bOp : BOp → Operator
  | .add => .Add
  | .sub => .Sub
  | .mul => .Mult
  | .fdiv => .FloorDiv
  | .mod => .Mod
  | .pow => .Pow
def rAddS : R2 := fun x y H Q => ∃ i j, x = .str i ∧ y = .str j ∧ i.length + j.length ≤ sizeLine ∧ Q (.str (i ++ j)) H
def rBin (K : PySem.W.Frag) : BOp → R2
  | .add => fun x y H Q => rI0 (fun i j => .int (i + j)) x y H Q ∨ rAddS x y H Q ∨ rCatA K x y H Q ∨ rCat x y H Q
  | .sub => rI0 fun i j => .int (i - j)
  | .mul => rI CMul fun i j => .int (i * j)
  | .fdiv => rI CDiv fun i j => .int (i / j)
  | .mod => rI (fun _ j => 0 < j) fun i j => .int (i % j)
  | .pow => rI CPow fun i j => .int (i ^ j.toNat)
theorem opBin {X : Cx} (op : BOp) : OpR X (binaryOp (bOp op)) (rBin X.K op) := by
  cases op with
  | add => exact OpR.or op_add (OpR.or op_add_str (OpR.or op_catA op_cat))
  | sub => exact op_sub
  | mul => exact op_mul
  | fdiv => exact op_fdiv
  | mod => exact op_mod
  | pow => exact op_pow
theorem ip_opI {X : Cx} : ∀ (op : BOp), op = .add ∨ op = .sub → OpR X (inplaceOp (bOp op)) (rI0 fun i j => .int (if op = .add then i + j else i - j))
  | .add, _ => iop_add
  | .sub, _ => iop_sub
  | .mul, h => by simp at h
  | .fdiv, h => by simp at h
  | .mod, h => by simp at h
  | .pow, h => by simp at h
theorem rcBin {G : Gam} (op : BOp) : RC2 G (rBin G.K op) (fun x y st => binD op x y st) := by
  intro W σ μ st H x y v u Q R r1 r2 p
  cases op with
  | add =>
    cases x with
    | int i =>
      cases y with
      | int j => exact .inl ⟨i, j, r1, r2, p.here R _ rfl⟩
      | _ => exact PostR.no p
    | str i =>
      cases y with
      | str j =>
        unfold binD at p
        dsimp only at p
        split at p
        · rename_i hz
          exact .inr (.inl ⟨i, j, r1, r2, by rw [← szLine]; exact hz, p.here R _ rfl⟩)
        · exact PostR.no p
      | _ => exact PostR.no p
    | tup xs =>
      cases y with
      | tup ys =>
        unfold binD at p
        dsimp only at p
        split at p
        · rename_i hz
          obtain ⟨z1, a, vs, rfl, t1, q1⟩ := r1
          obtain ⟨z2, b, us, rfl, t2, q2⟩ := r2
          have e1 := q1.length
          have e2 := q2.length
          refine .inr (.inr (.inl ⟨a, b, vs, us, rfl, rfl, t1.sq, t2.sq, by rw [← e1, ← e2, ← szLine]; exact hz.2, fun e => ?_, fun _ e => ?_, fun n1 n2 c hc => ?_⟩))
          · subst e
            exact absurd (List.length_eq_zero_iff.mp e1) hz.1
          · subst e
            have e3 : ys = [] := List.length_eq_zero_iff.mp e2
            subst e3
            rw [List.append_nil] at p
            exact p.here R _ ⟨z1, a, vs, rfl, t1, q1⟩
          · have nx : Nx μ st.length H μ st.length (upd H c (.tup (vs ++ us))) := nx_upd hc
            exact p μ _ nx (R.side hc) _ ⟨by rw [List.length_append]; exact hz.2, c, _, rfl, .inl upd_same, (Reps.mono nx.toNx0 _ _ q1).append (Reps.mono nx.toNx0 _ _ q2)⟩
        · exact PostR.no p
      | _ => exact PostR.no p
    | ref l =>
      cases y with
      | ref k =>
        unfold binD at p
        dsimp only at p
        split at p
        · rename_i xs ys hx hy
          split at p
          · rename_i hz
            obtain ⟨h1, rfl⟩ := r1
            obtain ⟨h2, rfl⟩ := r2
            obtain ⟨z1, vs, e1, q1⟩ := R.lst hx
            obtain ⟨z2, us, e2, q2⟩ := R.lst hy
            exact .inr (.inr (.inr ⟨_, _, vs, us, rfl, rfl, e1, e2, by rw [← q1.length, ← q2.length, ← szLine]; exact hz, fun a ha => newL_ok R (q1.append q2) (by rw [List.length_append]; exact hz) p a ha⟩))
          · exact PostR.no p
        · exact PostR.no p
      | _ => exact PostR.no p
    | _ => exact PostR.no p
  | sub =>
    cases x with
    | int i =>
      cases y with
      | int j => exact ⟨i, j, r1, r2, p.here R _ rfl⟩
      | _ => exact PostR.no p
    | _ => exact PostR.no p
  | mul =>
    cases x with
    | int i =>
      cases y with
      | int j =>
        unfold binD at p
        dsimp only at p
        split at p
        · rename_i hz
          exact ⟨i, j, r1, r2, hz, p.here R _ rfl⟩
        · exact PostR.no p
      | _ => exact PostR.no p
    | _ => exact PostR.no p
  | fdiv =>
    cases x with
    | int i =>
      cases y with
      | int j =>
        unfold binD at p
        dsimp only at p
        split at p
        · rename_i hz
          exact ⟨i, j, r1, r2, hz, p.here R _ rfl⟩
        · exact PostR.no p
      | _ => exact PostR.no p
    | _ => exact PostR.no p
  | mod =>
    cases x with
    | int i =>
      cases y with
      | int j =>
        unfold binD at p
        dsimp only at p
        split at p
        · rename_i hz
          exact ⟨i, j, r1, r2, hz, p.here R _ rfl⟩
        · exact PostR.no p
      | _ => exact PostR.no p
    | _ => exact PostR.no p
  | pow =>
    cases x with
    | int i =>
      cases y with
      | int j =>
        unfold binD at p
        dsimp only at p
        split at p
        · rename_i hz
          exact ⟨i, j, r1, r2, hz, p.here R _ rfl⟩
        · exact PostR.no p
      | _ => exact PostR.no p
    | _ => exact PostR.no p

/-! ### comparisons -/
def cOp : COp → CmpOp
  | .eq => .Eq
  | .ne => .NotEq
  | .lt => .Lt
  | .le => .LtE
  | .gt => .Gt
  | .ge => .GtE
  | .inn => .In
  | .nin => .NotIn
def rInT (K : PySem.W.Frag) (neg : Bool) : R2 := fun x y H Q => ∃ d ds, Dp K H x d ∧ Dp K H y (.tuple ds) ∧ SeqAt.shaped d = true ∧ SeqAt.shaped (.list ds) = true ∧ Q (.bl (if neg then !ds.any (fun z => PyData.eqv z d) else ds.any fun z => PyData.eqv z d)) H
theorem op_inT {X : Cx} (hu : X.A.units + 65 < cLine) : OpR X (compareOp .In) (rInT X.K false) := by
  intro pins s σ H x y v u Q I rx ry h
  obtain ⟨d, ds, hd, he, sd, se, q⟩ := h
  obtain ⟨as, r1⟩ := Dp.reads I d x v hd rx
  obtain ⟨bs, r2⟩ := Dp.reads I (.tuple ds) y u he ry
  exact SeqAt.in_tuple_reads r2 r1 (SeqAt.canLay_of_shaped se) (SeqAt.canLay_of_shaped sd) (room_in_shaped sd hu) ⟨.bl _, H, I, rfl, q⟩
theorem op_ninT {X : Cx} (hu : X.A.units + 65 < cLine) : OpR X (compareOp .NotIn) (rInT X.K true) := by
  intro pins s σ H x y v u Q I rx ry h
  obtain ⟨d, ds, hd, he, sd, se, q⟩ := h
  obtain ⟨as, r1⟩ := Dp.reads I d x v hd rx
  obtain ⟨bs, r2⟩ := Dp.reads I (.tuple ds) y u he ry
  exact SeqAt.notIn_tuple_reads r2 r1 (SeqAt.canLay_of_shaped se) (SeqAt.canLay_of_shaped sd) (room_in_shaped sd hu) ⟨.bl _, H, I, rfl, q⟩
def rInS (neg : Bool) : R2 := fun x y H Q => ∃ i j, x = .str i ∧ y = .str j ∧ Q (.bl (if neg then !(!(Builtin.Str.occurrences j i 0 j.length 1).isEmpty) else !(Builtin.Str.occurrences j i 0 j.length 1).isEmpty)) H
def rCmp (K : PySem.W.Frag) : COp → R2
  | .eq => fun x y H Q => rEq x y H Q ∨ rEqD K x y H Q
  | .ne => fun x y H Q => rNe x y H Q ∨ rNeD K x y H Q
  | .lt => rI0 fun i j => .bl (decide (i < j))
  | .le => rI0 fun i j => .bl (decide (i ≤ j))
  | .gt => rI0 fun i j => .bl (decide (j < i))
  | .ge => rI0 fun i j => .bl (decide (j ≤ i))
  | .inn => fun x y H Q => rIn K false x y H Q ∨ rInD K x y H Q ∨ rInT K false x y H Q ∨ rInS false x y H Q
  | .nin => fun x y H Q => rIn K true x y H Q ∨ rNotInD K x y H Q ∨ rInT K true x y H Q ∨ rInS true x y H Q
theorem opCmp {X : Cx} (hu : X.A.units + 65 < cLine) (op : COp) : OpR X (compareOp (cOp op)) (rCmp X.K op) := by
  cases op with
  | eq => exact OpR.or op_eq (op_eqD (by omega))
  | ne => exact OpR.or op_ne (op_neD (by omega))
  | lt => exact op_lt
  | le => exact op_le
  | gt => exact op_gt
  | ge => exact op_ge
  | inn => exact OpR.or op_in_seq (OpR.or (op_inD hu) (OpR.or (op_inT hu) op_in_str))
  | nin => exact OpR.or op_notIn_seq (OpR.or (op_notInD hu) (OpR.or (op_ninT hu) op_notin_str))
theorem ofB_ok {G : Gam} {W : WX} {σ : L2.St} {μ : Nat → Addr} {st : AS} {H : Hp} {Q : VK} {o : Option Bool} (R : Rl G μ st H) (p : PostR G W σ μ st.length H (PV G Q) (ofB st o)) : ∃ b, o = some b ∧ Q (.bl b) H := by
  cases o with
  | none => exact p.elim
  | some b => exact ⟨b, rfl, p.here R _ rfl⟩
/-- two values told apart or not -/
theorem eqD_ok {G : Gam} {μ : Nat → Addr} {st : AS} {H : Hp} {x y : D} {v u : V} {b : Bool} (R : Rl G μ st H) (e : eqD st x y = some b) (r1 : Rep G μ st.length H x v) (r2 : Rep G μ st.length H y u) :
    (scal v u = true ∧ b = decide (v = u)) ∨ ∃ d e, Dp G.K H v d ∧ Dp G.K H u e ∧ SeqAt.shaped d = true ∧ SeqAt.shaped e = true ∧ b = PyData.eqv d e := by
  have gen : (match toD st 8 x, toD st 8 y with
    | some p, some q => if SeqAt.shaped p && SeqAt.shaped q then some (PyData.eqv p q) else none
    | _, _ => none) = some b → ∃ d e, Dp G.K H v d ∧ Dp G.K H u e ∧ SeqAt.shaped d = true ∧ SeqAt.shaped e = true ∧ b = PyData.eqv d e := fun h => by
    split at h
    · rename_i p q e1 e2
      split at h
      · rename_i hs
        cases h
        rw [Bool.and_eq_true] at hs
        exact ⟨p, q, toD_dp R 8 x p v e1 r1, toD_dp R 8 y q u e2 r2, hs.1, hs.2, rfl⟩
      · cases h
    · cases h
  have li : ∀ i j : Int, decide (V.int i = V.int j) = (i == j) := fun i j => dec_int
  have ls : ∀ i j : Str, decide (V.str i = V.str j) = (i == j) := fun i j => dec_str
  have lb : ∀ i j : Bool, decide (V.bl i = V.bl j) = (i == j) := fun i j => dec_bl
  cases x with
  | int i =>
    cases y with
    | int j => cases e; cases r1; cases r2; exact .inl ⟨rfl, (li i j).symm⟩
    | str j => cases e; cases r1; cases r2; exact .inl ⟨rfl, rfl⟩
    | non => cases e; cases r1; cases r2; exact .inl ⟨rfl, rfl⟩
    | _ => exact .inr (gen e)
  | str i =>
    cases y with
    | int j => cases e; cases r1; cases r2; exact .inl ⟨rfl, rfl⟩
    | str j => cases e; cases r1; cases r2; exact .inl ⟨rfl, (ls i j).symm⟩
    | non => cases e; cases r1; cases r2; exact .inl ⟨rfl, rfl⟩
    | _ => exact .inr (gen e)
  | bl i =>
    cases y with
    | bl j => cases e; cases r1; cases r2; exact .inl ⟨rfl, (lb i j).symm⟩
    | non => cases e; cases r1; cases r2; exact .inl ⟨rfl, rfl⟩
    | _ => exact .inr (gen e)
  | non =>
    cases y with
    | int j => cases e; cases r1; cases r2; exact .inl ⟨rfl, rfl⟩
    | str j => cases e; cases r1; cases r2; exact .inl ⟨rfl, rfl⟩
    | bl j => cases e; cases r1; cases r2; exact .inl ⟨rfl, rfl⟩
    | non => cases e; cases r1; cases r2; exact .inl ⟨rfl, rfl⟩
    | _ => exact .inr (gen e)
  | tup _ => exact .inr (gen e)
  | ref _ => exact .inr (gen e)
  | clo _ _ => exact .inr (gen e)
  | kls _ => exact .inr (gen e)
section
variable {G : Gam} {μ : Nat → Addr} {n : Nat} {H : Hp}
theorem flat_rep {d : D} {v : V} (f : d.flatB = true) (r : Rep G μ n H d v) : flatV v = true := by
  cases d with
  | non => cases r; rfl
  | bl _ => cases r; rfl
  | int _ => cases r; rfl
  | str _ => cases r; rfl
  | _ => cases f
theorem eqF_rep {d e : D} {v u : V} (f : d.flatB = true) (g : e.flatB = true) (r : Rep G μ n H d v) (q : Rep G μ n H e u) : eqV v u = eqF d e := by
  cases d with
  | non =>
    cases r
    cases e with
    | non => cases q; rfl
    | bl _ => cases q; rfl
    | int _ => cases q; rfl
    | str _ => cases q; rfl
    | _ => cases g
  | bl _ =>
    cases r
    cases e with
    | non => cases q; rfl
    | bl _ => cases q; rfl
    | int _ => cases q; rfl
    | str _ => cases q; rfl
    | _ => cases g
  | int _ =>
    cases r
    cases e with
    | non => cases q; rfl
    | bl _ => cases q; rfl
    | int _ => cases q; rfl
    | str _ => cases q; rfl
    | _ => cases g
  | str _ =>
    cases r
    cases e with
    | non => cases q; rfl
    | bl _ => cases q; rfl
    | int _ => cases q; rfl
    | str _ => cases q; rfl
    | _ => cases g
  | _ => cases f
theorem inF_rep {d : D} {v : V} (f : d.flatB = true) (r : Rep G μ n H d v) : ∀ {ds : List D} {vs : List V}, ds.all D.flatB = true → Reps G μ n H ds vs → vs.all flatV = true ∧ inV v vs = inF d ds
  | [], vs, _, q => by
    have e : vs = [] := q
    subst e
    exact ⟨rfl, rfl⟩
  | x :: ds, _, g, ⟨u, t, rfl, h1, h2⟩ => by
    rw [List.all_cons, Bool.and_eq_true] at g
    obtain ⟨i1, i2⟩ := inF_rep f r g.2 h2
    refine ⟨by rw [List.all_cons, flat_rep g.1 h1, i1]; rfl, ?_⟩
    show (List.any (u :: t) fun y => eqV y v) = List.any (x :: ds) fun y => eqF y d
    rw [List.any_cons, List.any_cons, eqF_rep g.1 f h1 r]
    exact congrArg _ i2
end
theorem inD_ok {G : Gam} {μ : Nat → Addr} {st : AS} {H : Hp} {x y : D} {v u : V} {b : Bool} (R : Rl G μ st H) (e : inD st x y = some b) (r1 : Rep G μ st.length H x v) (r2 : Rep G μ st.length H y u) :
    (∃ p xs, u = .ref p ∧ (SqL G.K H p xs ∨ SqT G.K H p xs) ∧ flatV v = true ∧ xs.all flatV = true ∧ b = inV v xs) ∨
    (∃ d ds, Dp G.K H v d ∧ (Dp G.K H u (.list ds) ∨ Dp G.K H u (.tuple ds)) ∧ SeqAt.shaped d = true ∧ SeqAt.shaped (.list ds) = true ∧ b = ds.any fun z => PyData.eqv z d) ∨
    ∃ i j, v = .str i ∧ u = .str j ∧ b = !(Builtin.Str.occurrences j i 0 j.length 1).isEmpty := by
  have go : ∀ (xs : List D) (vs : List V) (a : Addr), u = .ref a → (SqL G.K H a vs ∨ SqT G.K H a vs) → Reps G μ st.length H xs vs →
      (if x.flatB && xs.all D.flatB then some (inF x xs)
        else match toD st 8 x, toLs (toD st 8) xs with
          | some p, some ps => if SeqAt.shaped p && SeqAt.shaped (.list ps) then some (ps.any fun z => PyData.eqv z p) else none
          | _, _ => none) = some b →
      (∃ p xs, u = .ref p ∧ (SqL G.K H p xs ∨ SqT G.K H p xs) ∧ flatV v = true ∧ xs.all flatV = true ∧ b = inV v xs) ∨
      (∃ d ds, Dp G.K H v d ∧ (Dp G.K H u (.list ds) ∨ Dp G.K H u (.tuple ds)) ∧ SeqAt.shaped d = true ∧ SeqAt.shaped (.list ds) = true ∧ b = ds.any fun z => PyData.eqv z d) := by
    intro xs vs a ea sq rs h
    split at h
    · rename_i hf
      rw [Bool.and_eq_true] at hf
      cases h
      obtain ⟨i1, i2⟩ := inF_rep hf.1 r1 hf.2 rs
      exact .inl ⟨a, vs, ea, sq, flat_rep hf.1 r1, i1, i2.symm⟩
    · split at h
      · rename_i p ps e1 e2
        split at h
        · rename_i hs
          rw [Bool.and_eq_true] at hs
          cases h
          have dall := toLs_dp (fun d p v h r => toD_dp R 8 d p v h r) xs ps vs e2 rs
          refine .inr ⟨p, ps, toD_dp R 8 x p v e1 r1, ?_, hs.1, hs.2, rfl⟩
          subst ea
          rcases sq with sq | sq
          · exact .inl (.lst sq dall)
          · exact .inr (.tup sq dall)
        · cases h
      · cases h
  cases y with
  | tup ys =>
    obtain ⟨z, a, vs, e1, t, rs⟩ := r2
    rcases go ys vs a e1 (.inr t.sq) rs e with h | h
    · exact .inl h
    · exact .inr (.inl h)
  | ref l =>
    obtain ⟨hl, e1⟩ := r2
    simp only [inD] at e
    split at e
    · rename_i ys hy
      obtain ⟨z, vs, h1, h2⟩ := R.lst hy
      rcases go ys vs _ e1 (.inl (.inl (.inl h1))) h2 e with h | h
      · exact .inl h
      · exact .inr (.inl h)
    · cases e
  | str z =>
    cases x with
    | str w =>
      simp only [inD, Option.some.injEq] at e
      exact .inr (.inr ⟨w, z, r1, r2, e.symm⟩)
    | _ => simp [inD] at e
  | _ => simp [inD] at e
theorem rcCmp {G : Gam} (op : COp) : RC2 G (rCmp G.K op) (fun x y st => ofB st (cmpD st op x y)) := by
  intro W σ μ st H x y v u Q R r1 r2 p
  obtain ⟨b, e, q⟩ := ofB_ok R p
  have ci : ∀ {f : Int → Int → Bool}, cmpI f x y = some b → ∃ i j, v = .int i ∧ u = .int j ∧ b = f i j := fun {f} h => by
    cases x with
    | int i =>
      cases y with
      | int j => cases h; exact ⟨i, j, r1, r2, rfl⟩
      | _ => cases h
    | _ => cases h
  cases op with
  | eq =>
    rcases eqD_ok R e r1 r2 with ⟨h1, h2⟩ | ⟨d, e', h1, h2, h3, h4, h5⟩
    · exact .inl ⟨h1, by rw [← h2]; exact q⟩
    · exact .inr ⟨d, e', h1, h2, h3, h4, by rw [← h5]; exact q⟩
  | ne =>
    simp only [cmpD, Option.map_eq_some_iff] at e
    obtain ⟨c, e, rfl⟩ := e
    rcases eqD_ok R e r1 r2 with ⟨h1, h2⟩ | ⟨d, e', h1, h2, h3, h4, h5⟩
    · exact .inl ⟨h1, by rw [← h2]; exact q⟩
    · exact .inr ⟨d, e', h1, h2, h3, h4, by rw [← h5]; exact q⟩
  | lt => obtain ⟨i, j, e1, e2, rfl⟩ := ci e; exact ⟨i, j, e1, e2, q⟩
  | le => obtain ⟨i, j, e1, e2, rfl⟩ := ci e; exact ⟨i, j, e1, e2, q⟩
  | gt => obtain ⟨i, j, e1, e2, rfl⟩ := ci e; exact ⟨i, j, e1, e2, q⟩
  | ge => obtain ⟨i, j, e1, e2, rfl⟩ := ci e; exact ⟨i, j, e1, e2, q⟩
  | inn =>
    rcases inD_ok R e r1 r2 with ⟨a, xs, h1, h2, h3, h4, h5⟩ | ⟨d, ds, h1, h2 | h2, h3, h4, h5⟩ | ⟨i, j, h1, h2, h5⟩
    · exact .inl ⟨a, xs, h1, h2, h3, h4, by rw [if_neg (by decide), ← h5]; exact q⟩
    · exact .inr (.inl ⟨d, ds, h1, h2, h3, h4, by rw [← h5]; exact q⟩)
    · exact .inr (.inr (.inl ⟨d, ds, h1, h2, h3, h4, by rw [if_neg (by decide), ← h5]; exact q⟩))
    · exact .inr (.inr (.inr ⟨i, j, h1, h2, by rw [if_neg (by decide), ← h5]; exact q⟩))
  | nin =>
    simp only [cmpD, Option.map_eq_some_iff] at e
    obtain ⟨c, e, rfl⟩ := e
    rcases inD_ok R e r1 r2 with ⟨a, xs, h1, h2, h3, h4, h5⟩ | ⟨d, ds, h1, h2 | h2, h3, h4, h5⟩ | ⟨i, j, h1, h2, h5⟩
    · exact .inl ⟨a, xs, h1, h2, h3, h4, by rw [if_pos rfl, ← h5]; exact q⟩
    · exact .inr (.inl ⟨d, ds, h1, h2, h3, h4, by rw [← h5]; exact q⟩)
    · exact .inr (.inr (.inl ⟨d, ds, h1, h2, h3, h4, by rw [if_pos rfl, ← h5]; exact q⟩))
    · exact .inr (.inr (.inr ⟨i, j, h1, h2, by rw [if_pos rfl, ← h5]; exact q⟩))

/-! ### subscripts -/
theorem sIx_eq (n d : Nat) (o : Option Int) : HT.sIx n d o = sIx n d o := by cases o <;> rfl
theorem cutV_len {xs : List D} {vs : List V} (h : xs.length = vs.length) (lo hi : Option Int) : cutV vs lo hi = (vs.drop (sIx xs.length 0 lo)).take (sIx xs.length xs.length hi - sIx xs.length 0 lo) := by
  unfold cutV
  rw [sIx_eq, sIx_eq, h]
theorem cut_reps {G : Gam} {μ : Nat → Addr} {n : Nat} {H : Hp} {xs : List D} {vs : List V} (h : Reps G μ n H xs vs) (lo hi : Option Int) : Reps G μ n H (cutD xs lo hi) (cutV vs lo hi) := by
  rw [cutV_len h.length]
  exact (h.drop _).take _
theorem cutD_le {α : Type} (xs : List α) (lo hi : Option Int) : (cutD xs lo hi).length ≤ xs.length := by
  unfold cutD
  rw [List.length_take, List.length_drop]
  omega
theorem ixN_eq (n : Nat) (i : Int) : L2.ixN n i = ixN n i := rfl
theorem atI_rep {G : Gam} {μ : Nat → Addr} {n : Nat} {H : Hp} {xs : List D} {vs : List V} {i : Int} {d : D} (h : Reps G μ n H xs vs) (e : atI xs i = some d) : ∃ v, L2.atI vs i = some v ∧ Rep G μ n H d v := by
  unfold atI at e
  rw [Option.bind_eq_some_iff] at e
  obtain ⟨j, e1, e2⟩ := e
  obtain ⟨v, h1, h2⟩ := h.get e2
  refine ⟨v, ?_, h2⟩
  unfold L2.atI
  rw [ixN_eq, ← h.length, e1]
  exact h1
end Ws
end
end

section
set_option Elab.async false
set_option linter.all false
set_option maxRecDepth 100000
set_option maxHeartbeats 4000000
/-! WsE: subscripts, slices, tests, and | or | not, built-ins by values. -/
noncomputable section
namespace Ws
open PySem PySem.Spec PyProof.Rows L2
theorem ofD_ok {G : Gam} {W : WX} {σ : L2.St} {μ : Nat → Addr} {st : AS} {H : Hp} {Q : VK} {o : Option D} (R : Rl G μ st H) (p : PostR G W σ μ st.length H (PV G Q) (ofD st o)) : ∃ d, o = some d ∧ ∀ v, Rep G μ st.length H d v → Q v H := by
  cases o with
  | none => exact p.elim
  | some b => exact ⟨b, rfl, p.here R⟩
theorem rcIx {G : Gam} : RC2 G (rIx G.K) (fun x y st => ofD st (ixD st x y)) := by
  intro W σ μ st H x y v u Q R r1 r2 p
  obtain ⟨d, e, q⟩ := ofD_ok R p
  cases x with
  | tup xs =>
    cases y with
    | int i =>
      obtain ⟨z, a, vs, rfl, t, rs⟩ := r1
      obtain ⟨w, h1, h2⟩ := atI_rep rs e
      exact .inr (.inl ⟨a, vs, i, w, rfl, r2, t.sq, h1, q w h2⟩)
    | _ => cases e
  | ref l =>
    obtain ⟨hl, rfl⟩ := r1
    simp only [ixD] at e
    split at e
    · rename_i xs hx
      split at e
      · rename_i i
        obtain ⟨z, vs, h1, rs⟩ := R.lst hx
        obtain ⟨w, h3, h4⟩ := atI_rep rs e
        exact .inl ⟨_, vs, i, w, rfl, r2, .inl (.inl h1), h3, q w h4⟩
      · cases e
    · rename_i xs hx
      split at e
      · rename_i i
        obtain ⟨z, ob, vs, h1, rs⟩ := R.frz hx
        obtain ⟨w, h3, h4⟩ := atI_rep rs e
        exact .inl ⟨_, vs, i, w, rfl, r2, .inl (.inr ⟨ob, h1⟩), h3, q w h4⟩
      · cases e
    · cases e
  | str z =>
    cases y with
    | int i =>
      simp only [ixD] at e
      split at e
      · rename_i hz
        rw [Option.map_eq_some_iff] at e
        obtain ⟨c, e1, rfl⟩ := e
        exact .inr (.inr ⟨z, i, c, r1, r2, by rw [← szLine]; exact hz, e1, q _ rfl⟩)
      · cases e
    | _ => cases e
  | _ => cases e
/-! ### dicts -/
section
variable {G : Gam} {μ : Nat → Addr} {n : Nat} {H : Hp}
theorem KReps.length : ∀ {ds : List (Key × D)} {vs : List (Key × V)}, KReps G μ n H ds vs → ds.length = vs.length
  | [], _, h => by
    have e : _ = [] := h
    subst e; rfl
  | d :: ds, _, ⟨v, r, e, _, t⟩ => by rw [e, List.length_cons, List.length_cons, KReps.length t]
theorem KReps.look (k : Key) {d : D} : ∀ {ds : List (Key × D)} {vs : List (Key × V)}, KReps G μ n H ds vs → lookK ds k = some d → ∃ v, valV vs k = some v ∧ Rep G μ n H d v
  | [], _, h, e => by cases e
  | p :: ds, _, ⟨v, r, e, h, t⟩, q => by
    subst e
    unfold lookK at q
    by_cases hk : p.1 = k
    · rw [List.find?_cons_of_pos (by simpa using hk)] at q
      cases q
      exact ⟨v, valV_pos (p := (p.1, v)) hk, h⟩
    · rw [List.find?_cons_of_neg (by simpa using hk)] at q
      obtain ⟨w, h1, h2⟩ := KReps.look k t q
      exact ⟨w, by rw [valV_neg (p := (p.1, v)) hk]; exact h1, h2⟩
theorem KReps.any (k : Key) : ∀ {ds : List (Key × D)} {vs : List (Key × V)}, KReps G μ n H ds vs → (ds.any fun kv => decide (kv.1 = k)) = vs.any fun kv => decide (kv.1 = k)
  | [], _, h => by
    have e : _ = [] := h
    subst e; rfl
  | p :: ds, _, ⟨v, r, e, h, t⟩ => by
    subst e
    rw [List.any_cons, List.any_cons, KReps.any k t]
theorem KReps.repl (k : Key) {d : D} {w : V} (q : Rep G μ n H d w) : ∀ {ds : List (Key × D)} {vs : List (Key × V)}, KReps G μ n H ds vs → KReps G μ n H (ds.map fun kv => if kv.1 = k then (kv.1, d) else kv) (vs.map fun kv => if kv.1 = k then (kv.1, w) else kv)
  | [], _, h => by
    have e : _ = [] := h
    subst e; rfl
  | p :: ds, _, ⟨v, r, e, h, t⟩ => by
    subst e
    have ih := KReps.repl k q t
    by_cases hk : p.1 = k
    · refine ⟨w, _, ?_, ?_, ih⟩
      · simp only [List.map_cons, hk, if_true]
      · simp only [hk, if_true]; exact q
    · refine ⟨v, _, ?_, ?_, ih⟩
      · simp only [List.map_cons, hk, if_false]
      · simp only [hk, if_false]; exact h
theorem KReps.snoc (k : Key) {d : D} {w : V} (q : Rep G μ n H d w) : ∀ {ds : List (Key × D)} {vs : List (Key × V)}, KReps G μ n H ds vs → KReps G μ n H (ds ++ [(k, d)]) (vs ++ [(k, w)])
  | [], _, h => by
    have e : _ = [] := h
    subst e
    exact ⟨w, [], rfl, q, rfl⟩
  | p :: ds, _, ⟨v, r, e, h, t⟩ => by
    subst e
    exact ⟨v, _, rfl, h, KReps.snoc k q t⟩
theorem KReps.put {ds : List (Key × D)} {vs : List (Key × V)} (h : KReps G μ n H ds vs) (k : Key) {d : D} {w : V} (q : Rep G μ n H d w) : KReps G μ n H (putK ds k d) (L2.putK vs k w) := by
  unfold putK L2.putK
  rw [h.any k]
  split
  · exact h.repl k q
  · exact h.snoc k q
theorem keyD_rep {d : D} {v : V} {k : Key} (e : keyD d = some k) (r : Rep G μ n H d v) : v = kV k := by
  cases d with
  | int i => cases e; exact r
  | str i => cases e; exact r
  | _ => cases e
theorem putK_len (ds : List (Key × D)) (k : Key) (d : D) : (putK ds k d).length ≤ ds.length + 1 := by
  unfold putK
  split
  · rw [List.length_map]; omega
  · rw [List.length_append]; exact Nat.le_refl _
end
section
variable {G : Gam} {W : WX} {X : Cx}
theorem w_ixd {a b : Expr} {ma mb : MV} {pos : Pos} (hu : X.A.units + 1 < cLine) (ha : PE X a (tV G W ma)) (hb : PE X b (tV G W mb)) (hs : NoSl b) :
    PE X (.Subscript a b pos) (tV G W fun env st => (ma env st).bind fun x st => (mb env st).bind fun y st => ofD st (ixK st x y)) := by
  refine (pe_dget hu ha hb hs).imp fun σ H Q h => ?_
  obtain ⟨μ, env, st, R, e, p⟩ := h
  refine tV_mono (tV_two (g := fun _ x y st => ofD st (ixK st x y)) R e p) fun v H1 h1 => tV_mono h1 fun u H2 ⟨μ2, st2, x, y, R2, e2, x2, r1, r2, q⟩ => ?_
  obtain ⟨d, e, qd⟩ := ofD_ok R2 q
  cases x with
  | ref l =>
    obtain ⟨hl, rfl⟩ := r1
    simp only [ixK] at e
    split at e
    · rename_i kvs hk
      split at e
      · rename_i k hy
        obtain ⟨z, vs, h2, h3⟩ := R2.dic hk
        obtain ⟨w, z1, z2⟩ := h3.look k e
        refine ⟨_, w, rfl, ?_, qd w z2⟩
        rw [keyD_rep hy r2, ← z1]
        exact DGet.k h2
      · cases e
    · cases e
  | _ => cases e

/-! ### slices -/
def tO (G : Gam) (W : WX) (m : Env → AS → Res (Option Int)) : TO := fun σ H Q => ∃ μ env st, Rl G μ st H ∧ ER G μ st.length H env σ ∧ PostR G W σ μ st.length H (fun o _ _ H' => Q o H') (m env st)
theorem tO_mono {m : Env → AS → Res (Option Int)} {σ : L2.St} {H : Hp} {Q Q' : Option Int → Hp → Prop} (h : tO G W m σ H Q) (k : ∀ v H, Q v H → Q' v H) : tO G W m σ H Q' := by
  obtain ⟨μ, env, st, R, e, p⟩ := h
  exact ⟨μ, env, st, R, e, p.mono fun a st' μ' H' _ _ q => k _ _ q⟩
theorem w_oNo : PO X none (tO G W fun _ st => .ok none st) := by
  refine po_none.imp fun σ H Q h => ?_
  obtain ⟨μ, env, st, R, e, p⟩ := h
  exact p.here R
theorem w_oOf {e : Expr} {m : MV} (h : PE X e (tV G W m)) : PO X (some e) (tO G W fun env st => (m env st).bind fun d st => match d with
    | .int i => .ok (some i) st
    | _ => .bad) := by
  refine (po_some h).imp fun σ H Q h => ?_
  obtain ⟨μ, env, st, R, e, p⟩ := h
  refine tV_mono (tV_bind (k := fun _ d st => match d with
    | .int i => .ok (some i) st
    | _ => .bad) R e p) fun v H1 ⟨μ1, st1, x, R1, e1, x1, r1, q1⟩ => ?_
  cases x with
  | int i => exact ⟨i, r1, q1.here R1⟩
  | _ => exact PostR.no q1
def rSl (K : PySem.W.Frag) : V → Option Int → Option Int → Hp → VK → Prop := fun x lo hi H Q => rSlL K x lo hi H Q ∨ rSlA K x lo hi H Q ∨ ∃ z, x = .str z ∧ z.length ≤ sizeLine ∧ Q (.str (cutS z lo hi)) H
theorem slR : SlR X (rSl X.K) := SlR.or sl_list (SlR.or sl_tupA sl_str)
theorem cutS_eq (z : Str) (lo hi : Option Int) : cutS z lo hi = ⟨(cutD z.cps.toList lo hi).toArray⟩ := by
  unfold cutS cutD
  simp only [sIx_eq]
  rfl
theorem w_sl {a : Expr} {lo hi : Option Expr} {ma : MV} {ml mh : Env → AS → Res (Option Int)} {p2 pos : Pos} (hK : X.K = G.K) (ha : PE X a (tV G W ma)) (hl : PO X lo (tO G W ml)) (hh : PO X hi (tO G W mh)) :
    PE X (.Subscript a (.Slice lo hi none p2) pos) (tV G W fun env st => (ma env st).bind fun x st => (ml env st).bind fun l st => (mh env st).bind fun h st => slD st x l h) := by
  refine (pe_slice slR ha hl hh).imp fun σ H Q h => ?_
  obtain ⟨μ, env, st, R, e, p⟩ := h
  refine tV_mono (tV_bind (k := fun env x st => (ml env st).bind fun l st => (mh env st).bind fun h st => slD st x l h) R e p) fun v H1 ⟨μ1, st1, x, R1, e1, x1, r1, q1⟩ => ?_
  refine tO_mono (Q := fun l H2 => ∃ μ2 st2, Rl G μ2 st2 H2 ∧ ER G μ2 st2.length H2 env σ ∧ Nx μ1 st1.length H1 μ2 st2.length H2 ∧ PostR G W σ μ2 st2.length H2 (PV G Q) ((mh env st2).bind fun h st => slD st x l h))
    ⟨μ1, env, st1, R1, e1, q1.bind.mono fun o st2 μ2 H2 x2 R2 q2 => ⟨μ2, st2, R2, e1.mono x2.toNx0, x2, q2⟩⟩ fun l H2 ⟨μ2, st2, R2, e2, x2, q2⟩ => ?_
  refine tO_mono (Q := fun h H3 => ∃ μ3 st3, Rl G μ3 st3 H3 ∧ Nx μ2 st2.length H2 μ3 st3.length H3 ∧ PostR G W σ μ3 st3.length H3 (PV G Q) (slD st3 x l h))
    ⟨μ2, env, st2, R2, e2, q2.bind.mono fun o st3 μ3 H3 x3 R3 q3 => ⟨μ3, st3, R3, x3, q3⟩⟩ fun h H3 ⟨μ3, st3, R3, x3, q3⟩ => ?_
  have r3 := Rep.mono (x2.trans x3).toNx0 _ _ r1
  rw [hK]
  cases x with
  | tup xs =>
    obtain ⟨z, a, vs, rfl, t, rs⟩ := r3
    refine .inr (.inl ⟨a, vs, rfl, t.sq, fun hw => ?_, fun hw b hb => ?_⟩)
    · have ec : cutD xs l h = xs := by
        unfold cutD
        rw [sIx_eq, sIx_eq, ← rs.length] at hw
        rw [hw.1, hw.2, List.drop_zero, Nat.sub_zero, List.take_length]
      have q4 : PostR G W σ μ3 st3.length H3 (PV G Q) (.ok (.tup (cutD xs l h)) st3) := q3
      rw [ec] at q4
      exact q4.here R3 _ ⟨z, a, vs, rfl, t, rs⟩
    · have nx : Nx μ3 st3.length H3 μ3 st3.length (upd H3 b (.tup (cutV vs l h))) := nx_upd hb
      have q4 : PostR G W σ μ3 st3.length H3 (PV G Q) (.ok (.tup (cutD xs l h)) st3) := q3
      exact q4 μ3 _ nx (R3.side hb) _ ⟨Nat.le_trans (cutD_le xs l h) z, b, _, rfl, .inl upd_same, Reps.mono nx.toNx0 _ _ (cut_reps rs l h)⟩
  | str z =>
    simp only [slD] at q3
    split at q3
    · rename_i hz
      refine .inr (.inr ⟨z, r3, by rw [← szLine]; exact hz, ?_⟩)
      rw [cutS_eq]
      exact q3.here R3 _ rfl
    · exact PostR.no q3
  | ref k =>
    obtain ⟨hk, rfl⟩ := r3
    simp only [slD] at q3
    split at q3
    · rename_i xs hx
      obtain ⟨z, vs, h1, rs⟩ := R3.lst hx
      exact .inl ⟨_, vs, rfl, .inl (.inl h1), fun b hb => newL_ok R3 (cut_reps rs l h) (Nat.le_trans (cutD_le xs l h) z) q3 b hb⟩
    · exact PostR.no q3
  | _ => exact PostR.no q3

/-! ### tests -/
theorem truD_ok {μ : Nat → Addr} {st : AS} {H : Hp} {d : D} {v : V} {b : Bool} (R : Rl G μ st H) (e : truD st d = some b) (r : Rep G μ st.length H d v) : TruV G.K v H b := by
  cases d with
  | non => cases r; cases e; exact rfl
  | bl _ => cases r; cases e; exact rfl
  | int _ => cases r; cases e; exact rfl
  | str y =>
    cases r
    simp only [truD] at e
    split at e
    · rename_i hz
      cases e
      exact ⟨by rw [← szLine]; exact hz, rfl⟩
    · cases e
  | tup ds =>
    obtain ⟨z, a, vs, rfl, t, rs⟩ := r
    cases e
    refine .inr (.inl ⟨vs, t.sq, ?_⟩)
    have h := rs.length
    cases ds <;> cases vs <;> first | rfl | simp at h
  | ref l =>
    obtain ⟨hl, rfl⟩ := r
    simp only [truD] at e
    split at e
    · rename_i xs hx
      cases e
      obtain ⟨z, vs, h1, rs⟩ := R.lst hx
      refine .inl ⟨vs, .inl (.inl h1), ?_⟩
      have h := rs.length
      cases xs <;> cases vs <;> first | rfl | simp at h
    · rename_i kvs hk
      cases e
      obtain ⟨z, vs, h1, rs⟩ := R.dic hk
      refine .inr (.inr ⟨vs, h1, ?_⟩)
      have h := rs.length
      cases kvs <;> cases vs <;> first | rfl | simp at h
    · cases e
  | clo _ _ => cases e
  | kls _ => cases e
theorem w_truth {e : Expr} {m : MV} (hK : X.K = G.K) (h : PE X e (tV G W m)) (he : ∀ whole, isTrue e X.env whole = (do let v ← whole; standAt e.pos; holding [v] (truthy v))) :
    PT X e (tT G W fun env st => truR (m env st)) := by
  refine (pt_truth h he).imp fun σ H Q h => ?_
  obtain ⟨μ, env, st, R, e, p⟩ := h
  refine tV_mono (tV_bind (k := fun _ d st => match truD st d with
    | some b => .ok b st
    | none => .bad) R e p) fun v H1 ⟨μ1, st1, x, R1, e1, x1, r1, q1⟩ => ?_
  split at q1
  · rename_i b hb
    exact ⟨b, by rw [hK]; exact truD_ok R1 hb r1, q1.here R1⟩
  · exact PostR.no q1
theorem w_cmpT {op : CmpOp} {r : R2} {g : D → D → AS → Option Bool} {a b : Expr} {ma mb : MV} {pos : Pos} (ho : OpR X (compareOp op) r) (c : RC2 G r (fun x y st => ofB st (g x y st))) (ha : PE X a (tV G W ma)) (hb : PE X b (tV G W mb)) (hm : behindInMarks op b = false) :
    PT X (.Compare a [op] [b] pos) (tT G W fun env st => (ma env st).bind fun x st => (mb env st).bind fun y st => ofBT st (g x y st)) := by
  refine (pt_cmpR ho ha hb hm).imp fun σ H Q h => ?_
  obtain ⟨μ, env, st, R, e, p⟩ := h
  refine tV_mono (tV_two (g := fun _ x y st => ofBT st (g x y st)) R e p) fun v H1 h1 => tV_mono h1 fun u H2 ⟨μ2, st2, x, y, R2, e2, x2, r1, r2, q⟩ => ?_
  refine c W σ μ2 st2 H2 x y v u _ R2 r1 r2 ?_
  dsimp only at q ⊢
  cases hg : g x y st2 with
  | none => rw [hg] at q; exact PostR.no q
  | some b =>
    rw [hg] at q
    intro μ' H' nx R' v' rv
    exact ⟨b, rv, q μ' H' nx R'⟩
/-- a op1 b op2 c -/
theorem chain_ok {r r' : R2} {g g' : D → D → AS → Option Bool} {σ : L2.St} {ma mb mc : MV} {Q : VK} {H : Hp} (c1 : RC2 G r (fun x y st => ofB st (g x y st))) (c2 : RC2 G r' (fun x y st => ofB st (g' x y st)))
    (h : tV G W (fun env st => (ma env st).bind fun x st => (mb env st).bind fun y st => match g x y st with
      | some true => (mc env st).bind fun z st => ofB st (g' y z st)
      | some false => .ok (.bl false) st
      | none => .bad) σ H Q) : tChain r r' (tV G W ma) (tV G W mb) (tV G W mc) σ H Q := by
  obtain ⟨μ, env, st, R, e, p⟩ := h
  refine tV_mono (tV_two (g := fun env x y st => match g x y st with
      | some true => (mc env st).bind fun z st => ofB st (g' y z st)
      | some false => .ok (.bl false) st
      | none => .bad) R e p) fun v H1 h1 => tV_mono h1 fun u H2 ⟨μ2, st2, x, y, R2, e2, x2, r1, r2, q⟩ => ?_
  refine c1 W σ μ2 st2 H2 x y v u _ R2 r1 r2 ?_
  dsimp only at q ⊢
  cases hg : g x y st2 with
  | none => rw [hg] at q; exact PostR.no q
  | some b =>
    rw [hg] at q
    intro μ' H' nx R' v' rv
    refine ⟨b, rv, ?_⟩
    cases b with
    | false => exact iteF (q μ' H' nx R' _ rfl)
    | true =>
      refine iteT ?_
      have q2 := PostR.trans nx q
      refine tV_mono (tV_bind (k := fun env z st => ofB st (g' y z st)) R' (e2.mono nx.toNx0) q2) fun w H3 ⟨μ3, st3, z, R3, e3, x3, r3, q3⟩ => ?_
      exact c2 W σ μ3 st3 H3 y z u w Q R3 (Rep.mono (nx.trans x3).toNx0 _ _ r2) r3 q3
theorem w_chain {op op' : CmpOp} {r r' : R2} {g g' : D → D → AS → Option Bool} {a b c : Expr} {ma mb mc : MV} {pos : Pos} (ho : OpR X (compareOp op) r) (ho' : OpR X (compareOp op') r') (c1 : RC2 G r (fun x y st => ofB st (g x y st))) (c2 : RC2 G r' (fun x y st => ofB st (g' x y st)))
    (ha : PE X a (tV G W ma)) (hb : PE X b (tV G W mb)) (hc : PE X c (tV G W mc)) (hm : lastMarks [op, op'] [b, c] = false) :
    PE X (.Compare a [op, op'] [b, c] pos) (tV G W fun env st => (ma env st).bind fun x st => (mb env st).bind fun y st => match g x y st with
      | some true => (mc env st).bind fun z st => ofB st (g' y z st)
      | some false => .ok (.bl false) st
      | none => .bad) := (pe_chain ho ho' ha hb hc hm).imp fun σ H Q h => chain_ok c1 c2 h
theorem w_chainT {op op' : CmpOp} {r r' : R2} {g g' : D → D → AS → Option Bool} {a b c : Expr} {ma mb mc : MV} {pos : Pos} (ho : OpR X (compareOp op) r) (ho' : OpR X (compareOp op') r') (c1 : RC2 G r (fun x y st => ofB st (g x y st))) (c2 : RC2 G r' (fun x y st => ofB st (g' x y st)))
    (ha : PE X a (tV G W ma)) (hb : PE X b (tV G W mb)) (hc : PE X c (tV G W mc)) (hm : lastMarks [op, op'] [b, c] = false) :
    PT X (.Compare a [op, op'] [b, c] pos) (tT G W fun env st => (ma env st).bind fun x st => (mb env st).bind fun y st => match g x y st with
      | some true => (mc env st).bind fun z st => ofBT st (g' y z st)
      | some false => .ok false st
      | none => .bad) := by
  refine (pt_chain ho ho' ha hb hc hm).imp fun σ H Q h => ?_
  refine chain_ok (W := W) (mc := mc) c1 c2 ?_
  obtain ⟨μ, env, st, R, e, p⟩ := h
  refine ⟨μ, env, st, R, e, ?_⟩
  have key : ∀ (x y : D) (s : AS) (μ : Nat → Addr) (n : Nat) (H : Hp), PostR G W σ μ n H (PB Q) (match g x y s with
      | some true => (mc env s).bind fun z st => ofBT st (g' y z st)
      | some false => .ok false s
      | none => .bad) → PostR G W σ μ n H (PV G fun x H' => ∃ k, x = .bl k ∧ Q k H') (match g x y s with
      | some true => (mc env s).bind fun z st => ofB st (g' y z st)
      | some false => .ok (.bl false) s
      | none => .bad) := by
    intro x y s μ n H
    cases g x y s with
    | none => exact fun q => q
    | some b =>
      cases b with
      | false => exact fun q μ' H' nx R' v rv => ⟨false, rv, q μ' H' nx R'⟩
      | true =>
        dsimp only
        cases mc env s with
        | ok z s2 =>
          simp only [bind_ok]
          cases g' y z s2 with
          | none => exact fun q => q
          | some b => exact fun q μ' H' nx R' v rv => ⟨b, rv, q μ' H' nx R'⟩
        | exn c0 p0 s2 => exact fun q => q
        | bad => exact fun q => q
  dsimp only at p ⊢
  cases h1 : ma env st with
  | ok x s1 =>
    rw [h1] at p
    simp only [bind_ok] at p ⊢
    cases h2 : mb env s1 with
    | ok y s2 =>
      rw [h2] at p
      simp only [bind_ok] at p ⊢
      exact key x y s2 _ _ _ p
    | exn c0 p0 s2 => rw [h2] at p; exact p
    | bad => rw [h2] at p; exact p
  | exn c0 p0 s2 => rw [h1] at p; exact p
  | bad => rw [h1] at p; exact p
/-! ### and, or, not; if .. else -/
theorem w_nt {t : Expr} {m : Env → AS → Res Bool} {pos : Pos} (h : PT X t (tT G W m)) : PT X (.UnaryOp .Not t pos) (tT G W fun env st => (m env st).bind fun b st => .ok (!b) st) := by
  refine (pt_not h).imp fun σ H Q h => ?_
  obtain ⟨μ, env, st, R, e, p⟩ := h
  exact tT_mono (tT_bind (k := fun _ b st => .ok (!b) st) R e p) fun b H1 ⟨μ1, st1, R1, e1, x1, q1⟩ => q1.here R1
theorem and_ok {σ : L2.St} {ma mb : Env → AS → Res Bool} {Q : Bool → Hp → Prop} {H : Hp} (h : tT G W (fun env st => (ma env st).bind fun c st => if c = true then mb env st else .ok false st) σ H Q) : tAnd (tT G W ma) (tT G W mb) σ H Q := by
  obtain ⟨μ, env, st, R, e, p⟩ := h
  refine tT_mono (tT_bind (k := fun env c st => if c = true then mb env st else .ok false st) R e p) fun b H1 ⟨μ1, st1, R1, e1, x1, q1⟩ => ?_
  cases b with
  | true => exact iteT ⟨μ1, env, st1, R1, e1, q1⟩
  | false => exact iteF (PostR.here (a := false) q1 R1)
theorem or_ok {σ : L2.St} {ma mb : Env → AS → Res Bool} {Q : Bool → Hp → Prop} {H : Hp} (h : tT G W (fun env st => (ma env st).bind fun c st => if c = true then .ok true st else mb env st) σ H Q) : tOr (tT G W ma) (tT G W mb) σ H Q := by
  obtain ⟨μ, env, st, R, e, p⟩ := h
  refine tT_mono (tT_bind (k := fun env c st => if c = true then .ok true st else mb env st) R e p) fun b H1 ⟨μ1, st1, R1, e1, x1, q1⟩ => ?_
  cases b with
  | false => exact iteF ⟨μ1, env, st1, R1, e1, q1⟩
  | true => exact iteT (PostR.here (a := true) q1 R1)
theorem w_isN {a : Expr} {m : MV} {j : Nat} {p2 pos : Pos} (h : PE X a (tV G W m)) : PE X (.Compare a [.Is] [.Constant .none j p2] pos) (tV G W fun env st => (m env st).bind fun x st => .ok (.bl (isNon x)) st) := by
  refine (pe_cmp (pc_isN h) rfl).imp fun σ H Q h => ?_
  obtain ⟨μ, env, st, R, e, p⟩ := h
  refine tV_mono (tV_bind (k := fun _ x st => .ok (D.bl (isNon x)) st) R e p) fun v H1 ⟨μ1, st1, x, R1, e1, x1, r1, q1⟩ => ?_
  refine q1.here R1 _ ?_
  cases x with
  | non => cases r1; rfl
  | bl _ => cases r1; rfl
  | int _ => cases r1; rfl
  | str _ => cases r1; rfl
  | tup _ => obtain ⟨z, a, vs, rfl, _⟩ := r1; rfl
  | kls _ => obtain ⟨z, a, vs, rfl, _⟩ := r1; rfl
  | ref _ => obtain ⟨_, rfl⟩ := r1; rfl
  | clo _ _ => exact r1.elim
theorem w_notN {a : Expr} {m : MV} {j : Nat} {p2 pos : Pos} (h : PE X a (tV G W m)) : PE X (.Compare a [.IsNot] [.Constant .none j p2] pos) (tV G W fun env st => (m env st).bind fun x st => .ok (.bl (!isNon x)) st) := by
  refine (pe_cmp (pc_notN h) rfl).imp fun σ H Q h => ?_
  obtain ⟨μ, env, st, R, e, p⟩ := h
  refine tV_mono (tV_bind (k := fun _ x st => .ok (D.bl (!isNon x)) st) R e p) fun v H1 ⟨μ1, st1, x, R1, e1, x1, r1, q1⟩ => ?_
  refine q1.here R1 _ ?_
  cases x with
  | non => cases r1; rfl
  | bl _ => cases r1; rfl
  | int _ => cases r1; rfl
  | str _ => cases r1; rfl
  | tup _ => obtain ⟨z, a, vs, rfl, _⟩ := r1; rfl
  | kls _ => obtain ⟨z, a, vs, rfl, _⟩ := r1; rfl
  | ref _ => obtain ⟨_, rfl⟩ := r1; rfl
  | clo _ _ => exact r1.elim
/-- a value that is a bool, as a test -/
theorem w_val {e : Expr} {m : MV} {f : Env → AS → Res Bool} (h : PE X e (tV G W m)) (he : ∀ whole, isTrue e X.env whole = (do let v ← whole; standAt e.pos; holding [v] (truthy v)))
    (hf : ∀ env st, m env st = (f env st).bind fun b st => .ok (.bl b) st) : PT X e (tT G W f) := by
  refine (pt_val h he).imp fun σ H Q h => ?_
  obtain ⟨μ, env, st, R, e, p⟩ := h
  refine ⟨μ, env, st, R, e, ?_⟩
  rw [hf]
  cases hr : f env st with
  | ok b s => rw [hr] at p; exact fun μ' H' nx R' v rv => ⟨b, rv, p μ' H' nx R'⟩
  | exn c q s => rw [hr] at p; exact p
  | bad => rw [hr] at p; exact p
theorem w_isNT {a : Expr} {m : MV} {j : Nat} {p2 pos : Pos} (h : PE X a (tV G W m)) : PT X (.Compare a [.Is] [.Constant .none j p2] pos) (tT G W fun env st => (m env st).bind fun x st => .ok (isNon x) st) := by
  refine (pt_cmp (pc_isN h) rfl).imp fun σ H Q h => ?_
  obtain ⟨μ, env, st, R, e, p⟩ := h
  refine tV_mono (tV_bind (k := fun _ x st => .ok (isNon x) st) R e p) fun v H1 ⟨μ1, st1, x, R1, e1, x1, r1, q1⟩ => ?_
  refine ⟨_, rfl, ?_⟩
  have z := q1.here R1
  cases x with
  | non => cases r1; exact z
  | bl _ => cases r1; exact z
  | int _ => cases r1; exact z
  | str _ => cases r1; exact z
  | tup _ => obtain ⟨z', a, vs, rfl, _⟩ := r1; exact z
  | kls _ => obtain ⟨z', a, vs, rfl, _⟩ := r1; exact z
  | ref _ => obtain ⟨_, rfl⟩ := r1; exact z
  | clo _ _ => exact r1.elim
theorem w_notNT {a : Expr} {m : MV} {j : Nat} {p2 pos : Pos} (h : PE X a (tV G W m)) : PT X (.Compare a [.IsNot] [.Constant .none j p2] pos) (tT G W fun env st => (m env st).bind fun x st => .ok (!isNon x) st) := by
  refine (pt_cmp (pc_notN h) rfl).imp fun σ H Q h => ?_
  obtain ⟨μ, env, st, R, e, p⟩ := h
  refine tV_mono (tV_bind (k := fun _ x st => .ok (!isNon x) st) R e p) fun v H1 ⟨μ1, st1, x, R1, e1, x1, r1, q1⟩ => ?_
  refine ⟨_, rfl, ?_⟩
  have z := q1.here R1
  cases x with
  | non => cases r1; exact z
  | bl _ => cases r1; exact z
  | int _ => cases r1; exact z
  | str _ => cases r1; exact z
  | tup _ => obtain ⟨z', a, vs, rfl, _⟩ := r1; exact z
  | kls _ => obtain ⟨z', a, vs, rfl, _⟩ := r1; exact z
  | ref _ => obtain ⟨_, rfl⟩ := r1; exact z
  | clo _ _ => exact r1.elim
theorem boolR_bind {α : Type} {σ : L2.St} {P : α → AS → (Nat → Addr) → Hp → Prop} {m : MV} {k : Env → Bool → AS → Res α} {env : Env} {st : AS} {μ : Nat → Addr} {H : Hp} (R : Rl G μ st H) (e : ER G μ st.length H env σ)
    (h : PostR G W σ μ st.length H P ((boolR (m env st)).bind (k env))) :
    tV G W m σ H fun v H1 => ∃ b μ1 st1, v = .bl b ∧ Rl G μ1 st1 H1 ∧ ER G μ1 st1.length H1 env σ ∧ Nx μ st.length H μ1 st1.length H1 ∧ PostR G W σ μ1 st1.length H1 P (k env b st1) := by
  refine ⟨μ, env, st, R, e, ?_⟩
  cases hr : m env st with
  | ok d s =>
    rw [hr] at h
    cases d with
    | bl b => exact fun μ' H' nx R' v rv => ⟨b, μ', s, rv, R', e.mono nx.toNx0, nx, PostR.trans nx h⟩
    | _ => exact PostR.no h
  | exn c q s => rw [hr] at h; exact h
  | bad => rw [hr] at h; exact h.elim
theorem w_ntV {a : Expr} {m : MV} {pos : Pos} (h : PE X a (tV G W m)) : PE X (.UnaryOp .Not a pos) (tV G W fun env st => (boolR (m env st)).bind fun b st => .ok (.bl (!b)) st) := by
  refine (pe_not h).imp fun σ H Q h => ?_
  obtain ⟨μ, env, st, R, e, p⟩ := h
  exact tV_mono (boolR_bind (k := fun _ b st => .ok (D.bl (!b)) st) R e p) fun v H1 ⟨b, μ1, st1, ev, R1, e1, x1, q1⟩ => ⟨b, ev, q1.here R1 _ rfl⟩
theorem w_andV {a b : Expr} {rest : List Expr} {ma mb : MV} {pos : Pos} (ha : PE X a (tV G W ma)) (hb : PE X (.BoolOp .And (b :: rest) pos) (tV G W mb)) :
    PE X (.BoolOp .And (a :: b :: rest) pos) (tV G W fun env st => (boolR (ma env st)).bind fun c st => if c = true then mb env st else .ok (.bl false) st) := by
  refine (pe_and ha hb).imp fun σ H Q h => ?_
  obtain ⟨μ, env, st, R, e, p⟩ := h
  refine tV_mono (boolR_bind (k := fun env c st => if c = true then mb env st else .ok (.bl false) st) R e p) fun v H1 ⟨b, μ1, st1, ev, R1, e1, x1, q1⟩ => ⟨b, ev, ?_⟩
  cases b with
  | true => exact iteT ⟨μ1, env, st1, R1, e1, q1⟩
  | false => exact iteF (PostR.here (P := PV G Q) (a := D.bl false) q1 R1 _ rfl)
theorem w_orV {a b : Expr} {rest : List Expr} {ma mb : MV} {pos : Pos} (ha : PE X a (tV G W ma)) (hb : PE X (.BoolOp .Or (b :: rest) pos) (tV G W mb)) :
    PE X (.BoolOp .Or (a :: b :: rest) pos) (tV G W fun env st => (boolR (ma env st)).bind fun c st => if c = true then .ok (.bl true) st else mb env st) := by
  refine (pe_or ha hb).imp fun σ H Q h => ?_
  obtain ⟨μ, env, st, R, e, p⟩ := h
  refine tV_mono (boolR_bind (k := fun env c st => if c = true then .ok (.bl true) st else mb env st) R e p) fun v H1 ⟨b, μ1, st1, ev, R1, e1, x1, q1⟩ => ⟨b, ev, ?_⟩
  cases b with
  | false => exact iteF ⟨μ1, env, st1, R1, e1, q1⟩
  | true => exact iteT (PostR.here (P := PV G Q) (a := D.bl true) q1 R1 _ rfl)
theorem w_ite {t a b : Expr} {mt : Env → AS → Res Bool} {ma mb : MV} {pos : Pos} (ht : PT X t (tT G W mt)) (ha : PE X a (tV G W ma)) (hb : PE X b (tV G W mb)) :
    PE X (.IfExp t a b pos) (tV G W fun env st => (mt env st).bind fun c st => if c = true then ma env st else mb env st) := by
  refine (pe_ifExp ht ha hb).imp fun σ H Q h => ?_
  obtain ⟨μ, env, st, R, e, p⟩ := h
  refine tT_mono (tT_bind (k := fun env c st => if c = true then ma env st else mb env st) R e p) fun b H1 ⟨μ1, st1, R1, e1, x1, q1⟩ => ?_
  cases b with
  | true => exact iteT ⟨μ1, env, st1, R1, e1, q1⟩
  | false => exact iteF ⟨μ1, env, st1, R1, e1, q1⟩
theorem w_neg {a : Expr} {m : MV} {pos : Pos} (h : PE X a (tV G W m)) : PE X (.UnaryOp .USub a pos) (tV G W fun env st => (m env st).bind fun x st => negD x st) := by
  refine (pe_un un_neg h).imp fun σ H Q h => ?_
  obtain ⟨μ, env, st, R, e, p⟩ := h
  refine tV_mono (tV_bind (k := fun _ x st => negD x st) R e p) fun v H1 ⟨μ1, st1, x, R1, e1, x1, r1, q1⟩ => ?_
  cases x with
  | int i => exact ⟨i, r1, q1.here R1 _ rfl⟩
  | _ => exact PostR.no q1
end
end Ws
end
end

section
set_option Elab.async false
set_option linter.all false
set_option maxRecDepth 100000
set_option maxHeartbeats 8000000
/-! WsSet: set(xs) of a list of ints, with what sorted asks of it (after the layer's rule for tuples). -/
noncomputable section
namespace Ws
open PySem PySem.Spec PyProof.Rows L2
section
variable {P : Program} {w : World} {A : Around} {E0 : Value → Shared → Prop} {s : Shared}
/-- the empty set's object -/
abbrev sNil (w : World) : Obj := { cls := .type "set", dict := none, data := .set #[] 0 (.fresh 0 0 (!w.params.followText "set-order")) }
theorem set_of_list {l : Addr} {items : Array Value} (ns : List Int) {Q : Value → Shared → Prop} (hh : A.handled = none) (hl : s.heap.IsList l items) (hit : IntsAre items.toList ns) (hb : ns.length + 1 < scanBound)
    (h : ∀ (h2 : Heap) (tk c : Nat), SetR w h2 s.heap.objs.size (fun j => decide (j ∈ ns)) c → c ≤ ns.length → (∀ b o, s.heap.get? b = some o → h2.get? b = some o) → Q (.ref s.heap.objs.size) { s with heap := h2, toks := tk }) :
    wpAny (model P w) A (call (.type "set") [.ref l]) Q E0 s := by
  have size_is : items.size = ns.length := by
    have z := IntsAre.length hit
    rw [Array.length_toList] at z; exact z
  obtain ⟨cc, rest, hmro⟩ := F.called_set.mro
  have g1 := F.called_set.made; have g2 := F.called_set.sub
  refine wpAny_call (codeAny_of_tree ?_)
  show wpAny _ _ (callAny (.type "set") _) _ _ _
  refine wpAny_pure ⟨Code.quiet_builtin _ (by decide +kernel), codeAny_builtin F.entry_type_call ?_⟩
  rw [Around.under_plain (weight_type_call_type "set" [.ref l] []) rfl]
  have g3 := F.called_set.notType; have g4 := F.called_set.canCreate; have g5 := F.typeCall_set_1 (.ref l)
  repeat (any_goals (first | assumption | wp_step))
  refine codeAny_mono (code_set_led1 (.ref l) (E := E0) (Q₁ := fun ob s1 => ob = .ref s.heap.objs.size ∧ s1 = { s with heap := s.heap.push (sNil w) }) ⟨rfl, rfl⟩) fun r s1 hr => ?_
  cases r with
  | error e => exact hr
  | ok fl =>
    cases fl with
    | ret ob =>
      obtain ⟨rfl, rfl⟩ := hr
      have at_ : (s.heap.push (sNil w)).get? s.heap.objs.size = some (sNil w) := Heap.get?_push_size _ rfl
      have ty_ : Shared.TypeIs { s with heap := s.heap.push (sNil w) } (.ref s.heap.objs.size) "set" := ⟨_, at_, rfl⟩
      have g6 := F.called_set.init.lookup; have g7 := F.called_set.init.bind (.ref s.heap.objs.size)
      repeat (any_goals (first | assumption | wp_step))
      refine codeAny_mono (codeAny_call_builtin (R := wants (fun r s2 => r = .none ∧ ∃ h2 tk c, s2 = { s with heap := h2, toks := tk } ∧ SetR w h2 s.heap.objs.size (fun j => decide (j ∈ ns)) c ∧ c ≤ ns.length ∧
          (∀ b o, s.heap.get? b = some o → h2.get? b = some o)) E0) F.called_set.init.plain F.entry_set_init (check_set_init_1 ty_ ?_)) fun r2 s2 hr2 => ?_
      · obtain ⟨ol, hol, hcl, nl, hdl⟩ := hl
        obtain ⟨oc, od, odata, osl⟩ := ol
        simp only at hcl hdl
        subst hcl hdl
        have hol2 : (s.heap.push (sNil w)).get? l = some { cls := .type "list", dict := od, data := .seq items nl, slots := osl } := Heap.get?_push_of_some _ hol
        have k1 := F.sub_list_set; have k2 := F.sub_list_frozenset
        have k3 : (Value.type "list" == Value.type "dict") = false := by decide
        have lst1 : (s.heap.push (sNil w)).IsList l items := ⟨_, hol2, rfl, nl, rfl⟩
        unfold Builtin.«set.__init__» noKeywords Builtin.Frozenset.updateFrom
        generalize hPI : pyIter = PI
        wp_walk
        subst hPI
        refine wpAny_pyIter_list lst1 ?_
        refine wpAny_bind (wpAny_runValue ?_)
        have l_lt : l < s.heap.objs.size := Heap.lt_size hol
        have h3 : A.in1.in1.in1.handled = none := by simp [hh]
        have ne1 : l ≠ (s.heap.push (sNil w)).objs.size := by
          rw [Heap.size_push]; exact Nat.ne_of_lt (Nat.lt_succ_of_lt l_lt)
        have sf : s.heap.objs.size ∉ [(s.heap.push (sNil w)).objs.size, l] := by
          rw [Heap.size_push]; simp only [List.mem_cons, List.mem_singleton, List.not_mem_nil, or_false, not_or]
          exact ⟨Nat.ne_of_lt (Nat.lt_succ_self _), Nat.ne_of_gt l_lt⟩
        have vals : ∀ (i : Nat) (v : Value), items[i]? = some v → ∃ k t, ns[i]? = some k ∧ v = .int k t := fun i v hv => by
          have hi : i < ns.length := by rw [← size_is]; exact (Array.getElem?_eq_some_iff.mp hv).1
          obtain ⟨t, e⟩ := PyProof.Rows.IntsAre.int_at hit i v (by rw [Array.getElem?_toList]; exact hv)
          refine ⟨ns[i], t, List.getElem?_eq_getElem hi, ?_⟩
          rw [e, List.getD_eq_getElem?_getD, List.getElem?_eq_getElem hi] <;> rfl
        refine set_update_ints ((Walks.list h3 _ l ne1 items).toS) s.heap.objs.size sf ns size_is hb vals (items.size - 0) 0 _ (by omega) (Nat.zero_le _) ⟨⟨_, Heap.get?_push_size _ rfl, rfl, rfl⟩, (lst1.push _)⟩ ?first ?after
        case first =>
          have z : ((s.heap.push (sNil w)).push { cls := .type "list_iterator", data := .fields #[.ref l, .int 0 0] }).get? s.heap.objs.size = some (sNil w) := Heap.get?_push_of_some _ at_
          exact ⟨0, Nat.le_refl 0, setR_new_at z⟩
        case after =>
          intro s3 c3 hm hc3 hS3
          obtain ⟨h2, g2, d2, tk2, os2⟩ := s3
          have eg : g2 = s.gens := hm.gens
          have ed : d2 = s.drawn := hm.drawn
          have eo : os2 = s.os := hm.os
          subst eg ed eo
          show wpAny _ _ _ _ _ _
          refine wpAny_pure ?_
          show wpAny _ _ (ret Value.none) _ _ _
          rw [size_is] at hc3
          refine wpAny_pure ⟨rfl, h2, tk2, c3, rfl, hS3, hc3, fun b o e => ?_⟩
          have b0 : b < s.heap.objs.size := Heap.lt_size e
          have b2 : b ≠ (s.heap.push (sNil w)).objs.size := by
            rw [Heap.size_push]; exact Nat.ne_of_lt (Nat.lt_succ_of_lt b0)
          exact hm.heap b o (by simp only [List.mem_cons, List.mem_singleton, List.not_mem_nil, or_false, not_or]; exact ⟨Nat.ne_of_lt b0, b2⟩) (Heap.get?_push_of_some _ (Heap.get?_push_of_some _ e))
      · cases r2 with
        | error e => exact hr2
        | ok fl2 =>
          cases fl2 with
          | ret r =>
            obtain ⟨rfl, h2, tk, c2, rfl, hS2, hc2, hk2⟩ := hr2
            repeat (any_goals (first | assumption | wp_step))
            exact h _ _ _ hS2 hc2 hk2
          | _ => exact hr2.elim
    | _ => exact hr.elim
end
def rSetL' (K : PySem.W.Frag) (w : World) : List V → Hp → VK → Prop := fun vs H Q => ∃ (a : Addr) (ns : List Int), vs = [.ref a] ∧ SqL K H a (ns.map V.int) ∧ ns.length ≤ 1000 ∧
  ∀ p c, H p = none → c ≤ ns.length → Q (.ref p) (upd H p (SetO w p (fun k => decide (k ∈ ns)) c))
theorem cr_setL {X : Cx} (hc : X.calm = true) : CallR X (.type "set") (rSetL' X.K X.w) := by
  intro pins s σ H vs us Q I r h
  obtain ⟨a, ns, rfl, hs, hl, q⟩ := h
  rw [Vals.ref1 r]
  obtain ⟨its, rv, pl, hz⟩ := I.list hs
  refine set_of_list ns (I.ok.hd hc) pl.isList (intsAre_of rv) (by unfold scanBound; omega) fun h2 tk c R hc2 k => ?_
  have hn : H s.heap.objs.size = none := I.hok.fresh (Nat.le_refl _)
  have J := I.laid (t' := tk) k (Nat.le_refl _) (setO_new (P := X.prog) (H := upd H s.heap.objs.size (SetO X.w s.heap.objs.size (fun k => decide (k ∈ ns)) c)) R)
  exact ⟨.ref s.heap.objs.size, _, J, rfl, q _ c hn hc2⟩
end Ws
end
end

section
set_option Elab.async false
set_option linter.all false
set_option maxRecDepth 100000
set_option maxHeartbeats 4000000
/-! WsF: built-in functions by values; isinstance; calls of the text's own defs. -/
noncomputable section
namespace Ws
open PySem PySem.Spec PyProof.Rows L2
/-! ### sorting -/
theorem insS_perm (i : Int) : ∀ l : List Int, (insS i l).Perm (i :: l)
  | [] => .refl _
  | j :: r => by
    unfold insS
    split
    · exact .refl _
    · exact ((insS_perm i r).cons j).trans (.swap i j r)
theorem sortS_perm : ∀ l : List Int, (sortS l).Perm l
  | [] => .refl _
  | i :: r => (insS_perm i (sortS r)).trans ((sortS_perm r).cons i)
theorem insS_pw (i : Int) : ∀ l : List Int, l.Pairwise (· ≤ ·) → (insS i l).Pairwise (· ≤ ·)
  | [], _ => by simp [insS]
  | j :: r, h => by
    unfold insS
    split
    · rename_i hij
      refine List.pairwise_cons.mpr ⟨fun x hx => ?_, h⟩
      rcases List.mem_cons.mp hx with rfl | hx
      · exact hij
      · exact Int.le_trans hij ((List.pairwise_cons.mp h).1 x hx)
    · rename_i hij
      refine List.pairwise_cons.mpr ⟨fun x hx => ?_, insS_pw i r (List.pairwise_cons.mp h).2⟩
      rcases List.mem_cons.mp ((insS_perm i r).mem_iff.mp hx) with rfl | hx
      · omega
      · exact (List.pairwise_cons.mp h).1 x hx
theorem sortS_pw : ∀ l : List Int, (sortS l).Pairwise (· ≤ ·)
  | [] => .nil
  | i :: r => insS_pw i _ (sortS_pw r)
theorem sort_one {a b : List Int} (hp : a.Perm b) (ha : a.Pairwise (· ≤ ·)) : a = sortS b :=
  (hp.trans (sortS_perm b).symm).eq_of_pairwise (fun x y _ _ h1 h2 => Int.le_antisymm h1 h2) ha (sortS_pw b)
theorem dedS_mem (k : Int) : ∀ l : List Int, k ∈ dedS l ↔ k ∈ l
  | [] => Iff.rfl
  | i :: r => by
    unfold dedS
    have ih := dedS_mem k r
    split
    · rename_i hi
      rw [ih, List.mem_cons]
      exact ⟨.inr, fun h => h.elim (fun e => e ▸ hi) id⟩
    · rw [List.mem_cons, List.mem_cons, ih]
theorem dedS_nodup : ∀ l : List Int, (dedS l).Nodup
  | [] => .nil
  | i :: r => by
    unfold dedS
    split
    · exact dedS_nodup r
    · rename_i hi
      exact List.nodup_cons.mpr ⟨fun h => hi ((dedS_mem i r).mp h), dedS_nodup r⟩
theorem dedS_len : ∀ l : List Int, (dedS l).length ≤ l.length
  | [] => Nat.le_refl _
  | i :: r => by
    have ih := dedS_len r
    unfold dedS
    split
    · exact Nat.le_succ_of_le ih
    · exact Nat.succ_le_succ ih
theorem sorted_set_one {a b : List Int} (ha : a.Pairwise (· < ·)) (hm : ∀ k, k ∈ a ↔ k ∈ b) : a = sortS (dedS b) := by
  refine sort_one ?_ (ha.imp Int.le_of_lt)
  exact (List.perm_ext_iff_of_nodup (ha.imp fun h => Int.ne_of_lt h) (dedS_nodup b)).mpr fun k => (hm k).trans (dedS_mem k b).symm
theorem minL_mem : ∀ (a : Int) (r : List Int), minL a r ∈ a :: r
  | a, [] => List.mem_cons_self
  | a, b :: r => by
    have ih := minL_mem (if b < a then b else a) r
    unfold minL
    rcases List.mem_cons.mp ih with e | h
    · rw [e]
      split
      · exact List.mem_cons_of_mem _ List.mem_cons_self
      · exact List.mem_cons_self
    · exact List.mem_cons_of_mem _ (List.mem_cons_of_mem _ h)
theorem minL_le : ∀ (a : Int) (r : List Int), ∀ x ∈ a :: r, minL a r ≤ x
  | a, [], x, h => by
    rcases List.mem_cons.mp h with rfl | h
    · exact Int.le_refl _
    · cases h
  | a, b :: r, x, h => by
    unfold minL
    have ih := minL_le (if b < a then b else a) r
    have h0 := ih _ List.mem_cons_self
    rcases List.mem_cons.mp h with rfl | h
    · split at h0 <;> split <;> simp_all <;> omega
    · rcases List.mem_cons.mp h with rfl | h
      · split at h0 <;> split <;> simp_all <;> omega
      · exact ih x (List.mem_cons_of_mem _ h)
/-! ### the built-ins -/
def biV : Bi → Value
  | .len => .builtin "len"
  | .all => .builtin "all"
  | .any => .builtin "any"
  | .sum => .builtin "sum"
  | .min => .builtin "min"
  | .max => .builtin "max"
  | .sorted => .builtin "sorted"
  | .set => .type "set"
  | .list => .type "list"
  | .tuple => .type "tuple"
  | .int => .type "int"
  | .str => .type "str"
abbrev RL := List V → Hp → VK → Prop
def rLen (K : PySem.W.Frag) : RL := fun xs H Q => ∃ x n, xs = [x] ∧ LenV K x H n ∧ Q (.int n) H
def rMin2 : RL := fun xs H Q => ∃ i j, xs = [.int i, .int j] ∧ Q (.int (if j < i then j else i)) H
def rMax2 : RL := fun xs H Q => ∃ i j, xs = [.int i, .int j] ∧ Q (.int (if j > i then j else i)) H
def rLstOf (K : PySem.W.Frag) : RL := fun xs H Q => ∃ p ys, xs = [.ref p] ∧ (SqL K H p ys ∨ SqT K H p ys) ∧ ∀ l, H l = none → Q (.ref l) (upd H l (.lst ys))
def rTupOf (K : PySem.W.Frag) : RL := fun xs H Q => ∃ p ys, xs = [.ref p] ∧ ((SqL K H p ys ∧ ∀ l, H l = none → Q (.ref l) (upd H l (.tup ys))) ∨ (SqT K H p ys ∧ Q (.ref p) H))
def rInt1 : RL := fun xs H Q => (∃ i, xs = [.int i] ∧ Q (.int i) H) ∨ ∃ k, xs = [.bl k] ∧ Q (.int (if k then 1 else 0)) H
def rSortDI : RL := fun xs H Q => ∃ (a : Addr) (kvs : List (Key × V)) (ks : List Int), xs = [.ref a] ∧ Rd H a (.dK kvs) ∧ kvs.map (·.1) = ks.map Sum.inl ∧ ks.length < 64 ∧ ∀ (ys : List Int) (p : Addr), ys.Perm ks → ys.Pairwise (· ≤ ·) → H p = none → Q (.ref p) (upd H p (.lst (ys.map V.int)))
theorem keysI_eq {G : Gam} {μ : Nat → Addr} {n : Nat} {H : Hp} : ∀ {kvs : List (Key × D)} {bs : List Int} {kws : List (Key × V)}, keysI kvs = some bs → KReps G μ n H kvs kws → kws.map (·.1) = bs.map Sum.inl
  | [], _, _, h, r => by
    have e : _ = [] := r
    subst e
    simp [keysI] at h
    subst h; rfl
  | (.inl i, d) :: t, _, _, h, ⟨v, r, e, _, r2⟩ => by
    subst e
    simp only [keysI, Option.map_eq_some_iff] at h
    obtain ⟨ms, h1, rfl⟩ := h
    rw [List.map_cons, keysI_eq h1 r2]; rfl
  | (.inr _, _) :: _, _, _, h, _ => by simp [keysI] at h
def rBi (K : PySem.W.Frag) (w : World) : Bi → RL
  | .len => rLen K
  | .all => rAll K
  | .any => rAny K
  | .sum => rSum K
  | .min => fun xs H Q => rMin2 xs H Q ∨ rMin K xs H Q
  | .max => rMax2
  | .sorted => fun xs H Q => rSortedI K xs H Q ∨ rSortedSet w xs H Q ∨ rSortDI xs H Q
  | .set => rSetL' K w
  | .list => rLstOf K
  | .tuple => rTupOf K
  | .int => rInt1
  | .str => fun _ _ _ => False
theorem crBi {X : Cx} (hc : X.calm = true) (b : Bi) : CallR X (biV b) (rBi X.K X.w b) := by
  cases b with
  | len => exact call_len
  | all => exact cr_all hc
  | any => exact cr_any hc
  | sum => exact cr_sum hc
  | min => exact CallR.or (call_min2 hc) (cr_min hc)
  | max => exact call_max2 hc
  | sorted => exact CallR.or cr_sortedI (CallR.or (cr_sortedSet hc) (call_sortedDI hc))
  | set => exact cr_setL hc
  | list => exact call_list_of
  | tuple => exact call_tuple_of
  | int => exact call_int1
  | str => exact fun _ _ _ _ _ _ _ _ _ h => h.elim
theorem Reps.i1 {G : Gam} {μ : Nat → Addr} {n : Nat} {H : Hp} {d : D} {vs : List V} (h : Reps G μ n H [d] vs) : ∃ v, vs = [v] ∧ Rep G μ n H d v := by
  obtain ⟨v, r, rfl, q, t⟩ := h
  cases (show r = [] from t)
  exact ⟨v, rfl, q⟩
theorem Reps.i2 {G : Gam} {μ : Nat → Addr} {n : Nat} {H : Hp} {d e : D} {vs : List V} (h : Reps G μ n H [d, e] vs) : ∃ v u, vs = [v, u] ∧ Rep G μ n H d v ∧ Rep G μ n H e u := by
  obtain ⟨v, r, rfl, q, t⟩ := h
  obtain ⟨u, rfl, q2⟩ := Reps.i1 t
  exact ⟨v, u, rfl, q, q2⟩
theorem lst_ints {G : Gam} {μ : Nat → Addr} {st : AS} {H : Hp} {l : Nat} {xs : List D} {ns : List Int} (R : Rl G μ st H) (e : st[l]? = some (.lst xs)) (h : intsD xs = some ns) : H (μ l) = some (.lst (ns.map V.int)) ∧ ns.length ≤ szMax := by
  obtain ⟨z, vs, h1, rs⟩ := R.lst e
  rw [intsD_eq h] at rs z
  rw [h1, rs.ints]
  exact ⟨rfl, by simpa using z⟩
theorem rcBi {G : Gam} (b : Bi) {W : WX} {σ : L2.St} {μ : Nat → Addr} {st : AS} {H : Hp} {ds : List D} {vs : List V} {Q : VK} (R : Rl G μ st H) (r : Reps G μ st.length H ds vs)
    (p : PostR G W σ μ st.length H (PV G Q) (biD st b ds)) : rBi G.K G.w b vs H Q := by
  unfold biD at p
  split at p
  · -- len of a text
    rename_i y
    obtain ⟨v, rfl, rv⟩ := r.i1
    split at p
    · rename_i hz
      cases rv
      exact ⟨_, y.length, rfl, ⟨by rw [← szLine]; exact hz, rfl⟩, p.here R _ rfl⟩
    · exact PostR.no p
  · rename_i xs
    obtain ⟨v, rfl, rv⟩ := r.i1
    obtain ⟨z, a, us, rfl, t, rs⟩ := rv
    exact ⟨_, us.length, rfl, .inr ⟨us, t.sq, rfl⟩, by rw [← rs.length]; exact p.here R _ rfl⟩
  · rename_i l
    obtain ⟨v, rfl, rv⟩ := r.i1
    obtain ⟨hl, rfl⟩ := rv
    split at p
    · rename_i xs hx
      obtain ⟨z, us, h1, rs⟩ := R.lst hx
      exact ⟨_, us.length, rfl, .inl ⟨us, .inl (.inl h1), rfl⟩, by rw [← rs.length]; exact p.here R _ rfl⟩
    · rename_i xs hx
      obtain ⟨z, ob, us, h1, rs⟩ := R.frz hx
      exact ⟨_, us.length, rfl, .inl ⟨us, .inl (.inr ⟨ob, h1⟩), rfl⟩, by rw [← rs.length]; exact p.here R _ rfl⟩
    · exact PostR.no p
  · rename_i l
    obtain ⟨v, rfl, rv⟩ := r.i1
    obtain ⟨hl, rfl⟩ := rv
    split at p
    · rename_i xs hx
      split at p
      · rename_i bs hb
        obtain ⟨z, us, h1, rs⟩ := R.lst hx
        rw [boolsD_eq hb] at rs
        exact ⟨_, bs, rfl, .inl (.inl (by rw [h1, rs.bools])), p.here R _ rfl⟩
      · exact PostR.no p
    · exact PostR.no p
  · rename_i l
    obtain ⟨v, rfl, rv⟩ := r.i1
    obtain ⟨hl, rfl⟩ := rv
    split at p
    · rename_i xs hx
      split at p
      · rename_i bs hb
        obtain ⟨z, us, h1, rs⟩ := R.lst hx
        rw [boolsD_eq hb] at rs
        exact ⟨_, bs, rfl, .inl (.inl (by rw [h1, rs.bools])), p.here R _ rfl⟩
      · exact PostR.no p
    · exact PostR.no p
  · rename_i l
    obtain ⟨v, rfl, rv⟩ := r.i1
    obtain ⟨hl, rfl⟩ := rv
    split at p
    · rename_i xs hx
      split at p
      · rename_i bs hb
        exact ⟨_, bs, rfl, .inl (.inl (lst_ints R hx hb).1), p.here R _ rfl⟩
      · exact PostR.no p
    · exact PostR.no p
  · rename_i i j
    obtain ⟨v, u, rfl, rv, ru⟩ := r.i2
    cases rv; cases ru
    exact .inl ⟨i, j, rfl, p.here R _ rfl⟩
  · rename_i i j
    obtain ⟨v, u, rfl, rv, ru⟩ := r.i2
    cases rv; cases ru
    exact ⟨i, j, rfl, p.here R _ rfl⟩
  · rename_i l
    obtain ⟨v, rfl, rv⟩ := r.i1
    obtain ⟨hl, rfl⟩ := rv
    split at p
    · rename_i xs hx
      split at p
      · rename_i a t hb
        refine .inr ⟨_, a :: t, rfl, .inl (.inl (lst_ints R hx hb).1), Nat.succ_pos _, fun m hm hle => ?_⟩
        have e : m = minL a t := Int.le_antisymm (hle _ (minL_mem a t)) (minL_le a t m hm)
        rw [e]
        exact p.here R _ rfl
      · exact PostR.no p
    · exact PostR.no p
  · rename_i l
    obtain ⟨v, rfl, rv⟩ := r.i1
    obtain ⟨hl, rfl⟩ := rv
    split at p
    · rename_i xs hx
      split at p
      · rename_i bs hb
        obtain ⟨h1, h2⟩ := lst_ints R hx hb
        refine .inl ⟨_, bs, rfl, .inl (.inl h1), fun ns q hp hs hq => ?_⟩
        have e := sort_one hp hs
        subst e
        exact newL_ok R (Reps.ofInts _) (by rw [List.length_map, hp.length_eq]; exact h2) p q hq
      · exact PostR.no p
    · rename_i xs hx
      split at p
      · rename_i h64
        obtain ⟨c, hc, h1⟩ := R.obj l _ hx
        refine .inr (.inl ⟨_, _, c, rfl, h1, Nat.lt_of_le_of_lt hc h64, fun ns q hs hm _ hq => ?_⟩)
        have e := sorted_set_one hs fun k => (hm k).trans decide_eq_true_iff
        subst e
        refine newL_ok R (Reps.ofInts _) ?_ p q hq
        rw [List.length_map, (sortS_perm _).length_eq]
        have := dedS_len xs
        unfold szMax
        omega
      · exact PostR.no p
    · rename_i kvs hx
      split at p
      · rename_i bs hb
        split at p
        · rename_i h64
          obtain ⟨z, kws, h1, h2⟩ := R.dic hx
          refine .inr (.inr ⟨_, kws, bs, rfl, .inl h1, keysI_eq hb h2, h64, fun ys q hp hs hq => ?_⟩)
          have e := sort_one hp hs
          subst e
          refine newL_ok R (Reps.ofInts _) ?_ p q hq
          rw [List.length_map, hp.length_eq]
          unfold szMax
          omega
        · exact PostR.no p
      · exact PostR.no p
    · exact PostR.no p
  · rename_i l
    obtain ⟨v, rfl, rv⟩ := r.i1
    obtain ⟨hl, rfl⟩ := rv
    split at p
    · rename_i xs hx
      split at p
      · rename_i bs hb
        split at p
        · rename_i h1000
          obtain ⟨h1, h2⟩ := lst_ints R hx hb
          refine ⟨_, bs, rfl, .inl (.inl h1), h1000, fun a c ha hc => ?_⟩
          have nx := nx_new (μ := μ) (st := st) (o := SetO G.w a (fun k => decide (k ∈ bs)) c) (ob := .iset bs) ha
          have R2 : Rl G (extM μ st.length a) (st ++ [.iset bs]) (upd H a (SetO G.w a (fun k => decide (k ∈ bs)) c)) := R.new ha ⟨c, hc, upd_same⟩
          exact p _ _ nx R2 _ ⟨by simp, by rw [extM_at]⟩
        · exact PostR.no p
      · exact PostR.no p
    · exact PostR.no p
  · rename_i d
    obtain ⟨v, rfl, rv⟩ := r.i1
    split at p
    · rename_i xs hx
      obtain ⟨a, us, rfl, sq, rs, z⟩ := listD_sq R hx rv
      exact ⟨a, us, rfl, sq, fun l hl => newL_ok R rs z p l hl⟩
    · exact PostR.no p
  · rename_i xs
    obtain ⟨v, rfl, rv⟩ := r.i1
    obtain ⟨z, a, us, rfl, t, rs⟩ := rv
    exact ⟨a, us, rfl, .inr ⟨t.sq, p.here R _ ⟨z, a, us, rfl, t, rs⟩⟩⟩
  · rename_i l
    obtain ⟨v, rfl, rv⟩ := r.i1
    obtain ⟨hl, rfl⟩ := rv
    split at p
    · rename_i xs hx
      obtain ⟨z, us, h1, rs⟩ := R.lst hx
      refine ⟨_, us, rfl, .inl ⟨.inl (.inl h1), fun b hb => ?_⟩⟩
      have nx : Nx μ st.length H μ st.length (upd H b (.tup us)) := nx_upd hb
      exact p μ _ nx (R.side hb) _ ⟨z, b, us, rfl, .inl upd_same, Reps.mono nx.toNx0 _ _ rs⟩
    · exact PostR.no p
  · rename_i i
    obtain ⟨v, rfl, rv⟩ := r.i1
    cases rv
    exact .inl ⟨i, rfl, p.here R _ rfl⟩
  · rename_i i
    obtain ⟨v, rfl, rv⟩ := r.i1
    cases rv
    exact .inr ⟨i, rfl, p.here R _ rfl⟩
  · exact PostR.no p
section
variable {G : Gam} {W : WX} {X : Cx}
theorem tCB_ok {σ : L2.St} {H : Hp} {Q : VK} {r : RL} {ms : Env → AS → Res (List D)} {k : List D → AS → Res D} (h : tV G W (fun env st => (ms env st).bind k) σ H Q)
    (c : ∀ μ st H ds vs, Rl G μ st H → Reps G μ st.length H ds vs → PostR G W σ μ st.length H (PV G Q) (k ds st) → r vs H Q) : tCB r (tAs G W ms) σ H Q := by
  obtain ⟨μ, env, st, R, e, p⟩ := h
  exact tAs_mono (tAs_bind (k := fun _ ds st => k ds st) R e p) fun vs H1 ⟨μ1, st1, ds, R1, e1, x1, r1, q1⟩ => c μ1 st1 H1 ds vs R1 r1 q1
theorem w_bi {b : Bi} {id : String} {x : Str} {e : Expr} {es : List Expr} {ms : Env → AS → Res (List D)} {p pos : Pos} (hb : biV b = .builtin id) (hK : X.K = G.K) (hw : X.w = G.w) (hc : X.calm = true) (hg : Gl X x) (hm : X.mg x = none) (hv : bootBuiltins x = some (.builtin id)) (ha : PA X (e :: es) (tAs G W ms)) (hn : x ≠ "__name__") (hdb : (x == ("__debug__" : Str)) = false)
    (he : starEach (e :: es) X.env = (false, eval e X.env) :: starEach es X.env) (hpl : (backTo pos (starEach es X.env)).any (·.1) = false) :
    PE X (.Call (.Name x p) (e :: es) [] pos) (tV G W fun env st => (ms env st).bind fun ds st => biD st b ds) := by
  have cr := crBi hc b
  rw [hb, hK, hw] at cr
  exact (pe_callB cr hg hm hv ha hn hdb he hpl).imp fun σ H Q h => tCB_ok h fun μ st H ds vs R r q => rcBi b R r q
theorem w_biTy {b : Bi} {T : String} {x : Str} {e : Expr} {es : List Expr} {ms : Env → AS → Res (List D)} {p pos : Pos} (hb : biV b = .type T) (hK : X.K = G.K) (hw : X.w = G.w) (hc : X.calm = true) (hg : Gl X x) (hm : X.mg x = none) (hv : bootBuiltins x = some (.type T)) (ha : PA X (e :: es) (tAs G W ms)) (hn : x ≠ "__name__") (hdb : (x == ("__debug__" : Str)) = false)
    (he : starEach (e :: es) X.env = (false, eval e X.env) :: starEach es X.env) (hpl : (backTo pos (starEach es X.env)).any (·.1) = false) :
    PE X (.Call (.Name x p) (e :: es) [] pos) (tV G W fun env st => (ms env st).bind fun ds st => biD st b ds) := by
  have cr := crBi hc b
  rw [hb, hK, hw] at cr
  exact (pe_callTy cr hg hm hv ha hn hdb he hpl).imp fun σ H Q h => tCB_ok h fun μ st H ds vs R r q => rcBi b R r q

/-! ### isinstance -/
def isiT : List String := ["int", "bool", "str", "tuple", "list"]
theorem kit_all {K : PySem.W.Frag} {a T : String} (ha : a ∈ ["NoneType", "bool", "int", "str", "tuple", "list", "dict"]) (hT : T ∈ isiT) :
    PySem.W.kitOne K (.type a) (.type T) = some (T == a || (a == "bool" && T == "int")) := by
  have h : (["NoneType", "bool", "int", "str", "tuple", "list", "dict"].all fun a => isiT.all fun T => decide (kitB a T = some (T == a || (a == "bool" && T == "int")))) = true := by decide +kernel
  exact kit_ty (of_decide_eq_true (List.all_eq_true.mp (List.all_eq_true.mp h a ha) T hT))
theorem isi_ty {μ : Nat → Addr} {st : AS} {H : Hp} {d : D} {v : V} {T : String} {b : Bool} (R : Rl G μ st H) (hT : T ∈ isiT) (r : Rep G μ st.length H d v) (e : isiD st T d = some b) :
    ∃ t, TyX G.K H v t ∧ PySem.W.kitOne G.K t (.type T) = some b := by
  cases d with
  | non =>
    cases r; cases e
    refine ⟨_, .base .non, ?_⟩
    have z := kit_all (K := G.K) (a := "NoneType") (by decide) hT
    rw [z]; simp
  | bl x =>
    cases r; cases e
    refine ⟨_, .base (.bl x), ?_⟩
    have z := kit_all (K := G.K) (a := "bool") (by decide) hT
    rw [z]; simp
  | int x =>
    cases r; cases e
    refine ⟨_, .base (.int x), ?_⟩
    have z := kit_all (K := G.K) (a := "int") (by decide) hT
    rw [z]; simp
  | str x =>
    cases r; cases e
    refine ⟨_, .base (.str x), ?_⟩
    have z := kit_all (K := G.K) (a := "str") (by decide) hT
    rw [z]; simp
  | tup ds =>
    obtain ⟨z, a, vs, rfl, t, rs⟩ := r
    cases e
    have z := kit_all (K := G.K) (a := "tuple") (by decide) hT
    rcases t with t | ⟨o, its, n, h1, h2, h3⟩
    · exact ⟨_, .base (.tup t), by rw [z]; simp⟩
    · exact ⟨_, .kTuple h1 h2, by rw [z]; simp⟩
  | ref l =>
    obtain ⟨hl, rfl⟩ := r
    simp only [isiD] at e
    split at e
    · rename_i xs hx
      cases e
      obtain ⟨z, us, h1, rs⟩ := R.lst hx
      have z := kit_all (K := G.K) (a := "list") (by decide) hT
      exact ⟨_, .base (.lst h1), by rw [z]; simp⟩
    · rename_i kvs lk hx
      cases e
      have z := kit_all (K := G.K) (a := "dict") (by decide) hT
      cases lk with
      | false =>
        obtain ⟨z2, us, h1, rs⟩ := R.obj l _ hx
        exact ⟨_, .base (.dK h1), by rw [z]; simp⟩
      | true =>
        obtain ⟨z2, ob, us, h1, rs⟩ := R.obj l _ hx
        exact ⟨_, .fDict h1, by rw [z]; simp⟩
    · cases e
  | clo _ _ => cases e
  | kls _ => cases e
theorem w_isi {T : String} {y : Str} {e : Expr} {m : MV} {p p2 pos : Pos} (hT : T ∈ isiT) (hK : X.K = G.K) (hg : Gl X "isinstance") (hm : X.mg "isinstance" = none) (hg2 : Gl X y) (hm2 : X.mg y = none) (hv2 : bootBuiltins y = some (.type T)) (hn2 : y ≠ "__name__") (hd2 : (y == ("__debug__" : Str)) = false)
    (ha : PE X e (tV G W m)) (he : starEach [e, .Name y p2] X.env = (false, eval e X.env) :: starEach [.Name y p2] X.env) (hpl : (backTo pos (starEach [.Name y p2] X.env)).any (·.1) = false) :
    PE X (.Call (.Name "isinstance" p) [e, .Name y p2] [] pos) (tV G W fun env st => (m env st).bind fun d st => ofB st (isiD st T d)) := by
  have a1 : PA X [e, .Name y p2] (tCons (tV G W m) (tCons (tC (.ty T)) tNil)) := pa_cons ha (pa_cons (pe_bltn hg2 hm2 hv2 rfl hn2 hd2) pa_nil) he
  refine (pe_callB call_isi hg hm (by decide +kernel) a1 (by decide) (by decide) he hpl).imp fun σ H Q h => ?_
  obtain ⟨μ, env, st, R, e, p⟩ := h
  refine tV_mono (tV_bind (k := fun _ d st => ofB st (isiD st T d)) R e p) fun v H1 ⟨μ1, st1, x, R1, e1, x1, r1, q1⟩ => ?_
  obtain ⟨b, eb, q2⟩ := ofB_ok R1 q1
  obtain ⟨t, h1, h2⟩ := isi_ty R1 hT r1 eb
  rw [hK]
  exact ⟨v, .ty T, t, .type T, b, rfl, .ty T, h1, h2, q2⟩
/-! ### the text's own defs -/
def spI (G : Gam) (cl : Call) (f : Nat) : Sp := fun vs H Q E => vs.length = (G.fP f).length ∧ ∃ μ st ds, Rl G μ st H ∧ Reps G μ st.length H ds vs ∧ PostR G (fun c d _ H => E c d H) [] μ st.length H (PV G Q) (cl f ds st)
theorem w_call {cl : Call} {f : Nat} {k : Nat} {x : Str} {e : Expr} {es : List Expr} {ms : Env → AS → Res (List D)} {p pos : Pos} (F : FnOk X.prog X.w X.K X.mg X.base (L2.CX X.prog X.w) k (G.fA f) (G.fD f) (G.fP f) (spI G cl f)) (hr : Room k X.A) (hg : Gl X x) (hm : X.mg x = some (.ref (G.fA f)))
    (hk : PySem.W.keepIn X.K (.ref (G.fA f)) = true) (hb : Binds X.K (G.fD f) (G.fP f) []) (tk : Takes X W) (ha : PA X (e :: es) (tAs G W ms)) (hl : ∀ env st ds st', ms env st = .ok ds st' → ds.length = (G.fP f).length) (hdb : (x == ("__debug__" : Str)) = false)
    (he : starEach (e :: es) X.env = (false, eval e X.env) :: starEach es X.env) (hpl : (backTo pos (starEach es X.env)).any (·.1) = false) :
    PE X (.Call (.Name x p) (e :: es) [] pos) (tV G W fun env st => (ms env st).bind fun ds st => cl f ds st) := by
  refine (pe_callS (E := WE W) F hr hg hm hk hb (fun σ => passAt tk σ) ha hdb he hpl).imp fun σ H Q h => ?_
  obtain ⟨μ, env, st, R, e, p⟩ := h
  dsimp only at p
  have hz := hl env st
  refine ⟨μ, env, st, R, e, ?_⟩
  cases hm : ms env st with
  | ok ds s1 =>
    rw [hm] at p
    have z := hz ds s1 hm
    intro μ1 H1 x1 R1 vs rs
    refine ⟨by rw [← rs.length]; exact z, μ1, s1, ds, R1, rs, ?_⟩
    have q := PostR.trans x1 p
    cases hr : cl f ds s1 with
    | ok d s2 => simp only [bind_ok, hr] at q; exact q
    | exn c d s2 => simp only [bind_ok, hr] at q; exact q
    | bad => simp only [bind_ok, hr] at q; exact q
  | exn c d s1 => rw [hm] at p; exact p
  | bad => rw [hm] at p; exact p
end
end Ws
end
end

section
set_option Elab.async false
set_option linter.all false
set_option maxRecDepth 100000
set_option maxHeartbeats 4000000
/-! WsG: targets, what is walked, comprehensions. -/
noncomputable section
namespace Ws
open PySem PySem.Spec PyProof.Rows L2
/-! ### targets -/
def tlen : Tgs → Nat
  | .nil => 0
  | .cons _ r => tlen r + 1
mutual
def gT (K : PySem.W.Frag) : Tg → TG
  | .name i => gName i
  | .tup ts => gTup K (tlen ts) (gTs K ts)
def gTs (K : PySem.W.Frag) : Tgs → TGs
  | .nil => gNil
  | .cons t r => gCons (gT K t) (gTs K r)
end
mutual
def tslots : Tg → List Nat
  | .name i => [i]
  | .tup ts => tslotss ts
def tslotss : Tgs → List Nat
  | .nil => []
  | .cons t r => tslots t ++ tslotss r
end
theorem wipe_comm {σ : L2.St} {i : Nat} {x : Option V} : ∀ {vs : List Nat}, i ∉ vs → wipe (σ.set i x) vs = (wipe σ vs).set i x
  | [], _ => rfl
  | v :: vs, h => by
    unfold wipe
    rw [wipe_comm fun z => h (List.mem_cons_of_mem _ z), List.set_comm _ _ fun e => h (by rw [e]; exact List.mem_cons_self)]
theorem wipe_set {σ : L2.St} {i : Nat} {x : Option V} : ∀ {vs : List Nat}, i ∈ vs → wipe (σ.set i x) vs = wipe σ vs
  | v :: vs, h => by
    by_cases hi : i ∈ vs
    · unfold wipe; rw [wipe_set hi]
    · rcases List.mem_cons.mp h with e | e
      · unfold wipe; rw [wipe_comm hi, e, List.set_set]
      · exact absurd e hi
theorem assigns_len : ∀ {ts : Tgs} {ds : List D} {env env' : Env}, assigns ts ds env = some env' → ds.length = tlen ts
  | .nil, [], _, _, _ => rfl
  | .nil, _ :: _, _, _, h => by simp [assigns] at h
  | .cons t r, [], _, _, h => by simp [assigns] at h
  | .cons t r, d :: ds, env, env', h => by
    simp only [assigns] at h
    split at h
    · have z := assigns_len h
      show ds.length + 1 = tlen r + 1
      rw [z]
    · cases h
section
variable {G : Gam} {μ : Nat → Addr} {n : Nat} {H : Hp}
mutual
theorem gT_ok : ∀ (t : Tg) (d : D) (v : V) (env env' : Env) (σ : L2.St) (Q : L2.St → Hp → Prop), assign t d env = some env' → Rep G μ n H d v → ER G μ n H env σ →
    (∀ σ', ER G μ n H env' σ' → (∀ vs, (∀ i ∈ tslots t, i ∈ vs) → wipe σ' vs = wipe σ vs) → Q σ' H) → gT G.K t v σ H Q
  | .name i, d, v, env, env', σ, Q, h, r, e, k => by
    simp only [assign, Option.some.injEq] at h
    subst h
    exact k _ (e.set r) fun vs hs => wipe_set (hs i List.mem_cons_self)
  | .tup ts, .tup ds, v, env, env', σ, Q, h, ⟨z, a, vs, ev, t, rs⟩, e, k => by
    simp only [assign] at h
    exact ⟨a, vs, ev, t.sq, by rw [← rs.length]; exact assigns_len h, gTs_ok ts ds vs env env' σ Q h rs e k⟩
  | .tup ts, .non, v, env, env', σ, Q, h, r, e, k => by simp [assign] at h
  | .tup ts, .bl _, v, env, env', σ, Q, h, r, e, k => by simp [assign] at h
  | .tup ts, .int _, v, env, env', σ, Q, h, r, e, k => by simp [assign] at h
  | .tup ts, .str _, v, env, env', σ, Q, h, r, e, k => by simp [assign] at h
  | .tup ts, .ref _, v, env, env', σ, Q, h, r, e, k => by simp [assign] at h
  | .tup ts, .clo _ _, v, env, env', σ, Q, h, r, e, k => by simp [assign] at h
  | .tup ts, .kls _, v, env, env', σ, Q, h, r, e, k => by simp [assign] at h
theorem gTs_ok : ∀ (ts : Tgs) (ds : List D) (vs : List V) (env env' : Env) (σ : L2.St) (Q : L2.St → Hp → Prop), assigns ts ds env = some env' → Reps G μ n H ds vs → ER G μ n H env σ →
    (∀ σ', ER G μ n H env' σ' → (∀ vs, (∀ i ∈ tslotss ts, i ∈ vs) → wipe σ' vs = wipe σ vs) → Q σ' H) → gTs G.K ts vs σ H Q
  | .nil, [], vs, env, env', σ, Q, h, r, e, k => by
    simp only [assigns, Option.some.injEq] at h
    subst h
    exact ⟨r, k σ e fun _ _ => rfl⟩
  | .nil, _ :: _, vs, env, env', σ, Q, h, r, e, k => by simp [assigns] at h
  | .cons t r, [], vs, env, env', σ, Q, h, rs, e, k => by simp [assigns] at h
  | .cons t r, d :: ds, vs, env, env', σ, Q, h, ⟨v, us, ev, r1, r2⟩, e, k => by
    simp only [assigns] at h
    split at h
    · rename_i env1 h1
      refine ⟨v, us, ev, gT_ok t d v env env1 σ _ h1 r1 e fun σ1 e1 w1 => gTs_ok r ds us env1 env' σ1 Q h r2 e1 fun σ2 e2 w2 => k σ2 e2 fun vs hs => ?_⟩
      rw [w2 vs fun i hi => hs i (List.mem_append_right _ hi), w1 vs fun i hi => hs i (List.mem_append_left _ hi)]
    · cases h
end
end

/-! ### what is walked -/
/-- the iterator J yields the items xs one by one, while the walked list stands -/
structure Wlk (G : Gam) (J : It) (xs : List D) (w : Option (Nat × List D)) (μ0 : Nat → Addr) (n0 : Nat) (H0 : Hp) : Prop where
  len : xs.length ≤ szMax
  go : ∀ i μ st H, Nx μ0 n0 H0 μ st.length H → Rl G μ st H → watchOk w st → i < xs.length → J.go i H
  stop : ∀ μ st H, Nx μ0 n0 H0 μ st.length H → Rl G μ st H → watchOk w st → J.stop xs.length H
  yld : ∀ i μ st H x H', Nx μ0 n0 H0 μ st.length H → Rl G μ st H → watchOk w st → J.yld i H x H' → (H' = H ∨ ∃ T us, H T = none ∧ H' = upd H T (.tup us)) ∧ ∀ d, xs[i]? = some d → Rep G μ st.length H' d x
def tI (G : Gam) (W : WX) (m : Env → AS → Res (List D × Option (Nat × List D))) : TI := fun σ H R => ∃ μ env st, Rl G μ st H ∧ ER G μ st.length H env σ ∧
  PostR G W σ μ st.length H (fun xw st' μ' H' => ∀ J, Wlk G J xw.1 xw.2 μ' st'.length H' → R J H') (m env st)
section
variable {G : Gam} {W : WX} {X : Cx}
theorem PA.one {e : Expr} {m : MV} (h : PE X e (tV G W m)) (hs : starEach [e] X.env = [(false, eval e X.env)]) : PA X [e] (fun σ H Q => tV G W m σ H fun v H1 => Q [v] H1) := pa_cons h pa_nil hs
theorem PA.two {e f : Expr} {m m' : MV} (h : PE X e (tV G W m)) (h' : PE X f (tV G W m')) (hs : starEach [e, f] X.env = (false, eval e X.env) :: starEach [f] X.env) (hs2 : starEach [f] X.env = [(false, eval f X.env)]) :
    PA X [e, f] (fun σ H Q => tV G W m σ H fun v H1 => tV G W m' σ H1 fun u H2 => Q [v, u] H2) := pa_cons h (pa_cons h' pa_nil hs2) hs
theorem wlk_list {μ : Nat → Addr} {st : AS} {H : Hp} {l : Nat} {xs : List D} (R : Rl G μ st H) (hl : l < st.length) (e : itemsD st (.ref l) = some xs) : Wlk G (Itl G.K (μ l)) xs (some (l, xs)) μ st.length H := by
  have len : xs.length ≤ szMax := by
    obtain ⟨a, vs, _, _, _, z⟩ := itemsD_sq R e (⟨hl, rfl⟩ : Rep G μ st.length H (.ref l) (.ref (μ l)))
    exact z
  have rd : ∀ μ2 st2 H2, Nx μ st.length H μ2 st2.length H2 → Rl G μ2 st2 H2 → watchOk (some (l, xs)) st2 → ∃ vs, SqL G.K H2 (μ l) vs ∧ Reps G μ2 st2.length H2 xs vs := fun μ2 st2 H2 nx R2 w => by
    have w' : itemsD st2 (.ref l) = some xs := w
    have hl2 : l < st2.length := Nat.lt_of_lt_of_le hl nx.le
    rw [← nx.ext l hl]
    simp only [itemsD] at w'
    split at w'
    · rename_i ys hy
      cases w'
      obtain ⟨z, vs, h1, rs⟩ := R2.lst hy
      exact ⟨vs, .inl (.inl h1), rs⟩
    · rename_i ys hy
      cases w'
      obtain ⟨z, ob, vs, h1, rs⟩ := R2.frz hy
      exact ⟨vs, .inl (.inr ⟨ob, h1⟩), rs⟩
    · cases w'
  refine ⟨len, fun i μ2 st2 H2 nx R2 w hi => ?_, fun μ2 st2 H2 nx R2 w => ?_, fun i μ2 st2 H2 x H3 nx R2 w y => ?_⟩
  · obtain ⟨vs, sq, rs⟩ := rd μ2 st2 H2 nx R2 w
    obtain ⟨v, h1, _⟩ := rs.get (List.getElem?_eq_getElem hi)
    exact ⟨vs, v, sq, h1⟩
  · obtain ⟨vs, sq, rs⟩ := rd μ2 st2 H2 nx R2 w
    exact ⟨vs, sq, Nat.le_of_eq rs.length.symm⟩
  · obtain ⟨vs, sq, rs⟩ := rd μ2 st2 H2 nx R2 w
    obtain ⟨e1, y⟩ := y
    subst e1
    refine ⟨.inl rfl, fun d hd => ?_⟩
    obtain ⟨v, h1, h2⟩ := rs.get hd
    rw [y vs sq] at h1
    cases h1
    exact h2
theorem wlk_tup {μ : Nat → Addr} {st : AS} {H : Hp} {xs : List D} {a : Addr} {vs : List V} (z : xs.length ≤ szMax) (t : TupAt G H a vs) (rs : Reps G μ st.length H xs vs) : Wlk G (Itt G.K a) xs none μ st.length H := by
  refine ⟨z, fun i μ2 st2 H2 nx R2 w hi => ?_, fun μ2 st2 H2 nx R2 w => ?_, fun i μ2 st2 H2 x H3 nx R2 w y => ?_⟩
  · obtain ⟨v, h1, _⟩ := rs.get (List.getElem?_eq_getElem hi)
    exact ⟨vs, v, (t.mono nx.toNx0).sq, h1⟩
  · exact ⟨vs, (t.mono nx.toNx0).sq, Nat.le_of_eq rs.length.symm⟩
  · obtain ⟨e1, y⟩ := y
    subst e1
    refine ⟨.inl rfl, fun d hd => ?_⟩
    obtain ⟨v, h1, h2⟩ := (Reps.mono nx.toNx0 _ _ rs).get hd
    rw [y vs (t.mono nx.toNx0).sq] at h1
    cases h1
    exact h2
theorem w_sOf {tg e : Expr} {m : MV} (hK : X.K = G.K) (h : PE X e (tV G W m)) : PI X tg e (tI G W fun env st => (m env st).bind fun d st => match itemsD st d with
    | some xs => .ok (xs, match d with
      | .ref l => some (l, xs)
      | _ => none) st
    | none => .bad) := by
  refine ((pi_list h).or (pi_tup h)).imp fun σ H Rr h => ?_
  obtain ⟨μ, env, st, R, e, p⟩ := h
  dsimp only at p
  have key : ∀ (d : D) (s1 : AS), m env st = .ok d s1 → (∃ l, d = .ref l) ∨ (∃ ds, d = .tup ds) ∨ False := fun d s1 hm => by
    rw [hm] at p
    simp only [bind_ok] at p
    cases d with
    | ref l => exact .inl ⟨l, rfl⟩
    | tup ds => exact .inr (.inl ⟨ds, rfl⟩)
    | _ => exact (PostR.no p : False).elim
  cases hm : m env st with
  | ok d s1 =>
    rw [hm] at p
    simp only [bind_ok] at p
    rcases key d s1 hm with ⟨l, rfl⟩ | ⟨ds, rfl⟩ | hf
    · refine .inl ⟨μ, env, st, R, e, ?_⟩
      rw [hm]
      intro μ1 H1 x1 R1 v rv
      obtain ⟨hl, rfl⟩ := rv
      have p1 := PostR.trans x1 p
      split at p1
      · rename_i xs hx
        obtain ⟨a, vs, ev, sq, rs, z⟩ := itemsD_sq R1 hx (⟨hl, rfl⟩ : Rep G μ1 s1.length H1 (.ref l) (.ref (μ1 l)))
        rw [hK]
        refine ⟨_, rfl, ?_, p1.here R1 _ (wlk_list R1 hl hx)⟩
        simp only [itemsD] at hx
        split at hx
        · rename_i ys hy
          obtain ⟨z, us, h1, _⟩ := R1.lst hy
          exact ⟨us, .inl (.inl h1)⟩
        · rename_i ys hy
          obtain ⟨z, ob, us, h1, _⟩ := R1.frz hy
          exact ⟨us, .inl (.inr ⟨ob, h1⟩)⟩
        · cases hx
      · exact PostR.no p1
    · refine .inr ⟨μ, env, st, R, e, ?_⟩
      rw [hm]
      intro μ1 H1 x1 R1 v rv
      obtain ⟨z, a, vs, rfl, t, rs⟩ := rv
      have p1 : PostR G W σ μ1 s1.length H1 _ (.ok (ds, none) s1) := PostR.trans x1 p
      rw [hK]
      exact ⟨a, rfl, ⟨vs, t.sq⟩, p1.here R1 _ (wlk_tup z t rs)⟩
    · exact hf.elim
  | exn c q s1 =>
    refine .inl ⟨μ, env, st, R, e, ?_⟩
    rw [hm] at p ⊢
    exact p
  | bad => rw [hm] at p; exact p.elim
theorem rangeD_get {a : Int} {n i : Nat} {d : D} (h : (rangeD a n)[i]? = some d) : d = .int (a + (i : Nat)) ∧ i < n := by
  unfold rangeD at h
  rw [List.getElem?_map, Option.map_eq_some_iff] at h
  obtain ⟨j, h1, rfl⟩ := h
  obtain ⟨h2, h3⟩ := List.getElem?_eq_some_iff.mp h1
  rw [List.length_range] at h2
  rw [List.getElem_range] at h3
  subst h3
  exact ⟨rfl, h2⟩
theorem wlk_range {μ : Nat → Addr} {n0 : Nat} {H : Hp} {a : Int} {n : Nat} (z : (rangeD a n).length ≤ szMax) : Wlk G (Itr a n) (rangeD a n) none μ n0 H := by
  have hl : (rangeD a n).length = n := by unfold rangeD; rw [List.length_map, List.length_range]
  refine ⟨z, fun i μ2 st2 H2 nx R2 w hi => by rw [hl] at hi; exact hi, fun μ2 st2 H2 nx R2 w => Nat.le_of_eq hl.symm, fun i μ2 st2 H2 x H3 nx R2 w y => ?_⟩
  obtain ⟨e1, rfl⟩ := y
  subst e1
  refine ⟨.inl rfl, fun d hd => ?_⟩
  rw [(rangeD_get hd).1]
  rfl
theorem small_iff {i : Int} (h : small i = true) : -(2 ^ 62) ≤ i ∧ i < 2 ^ 62 := by
  unfold small at h
  exact @of_decide_eq_true _ (Classical.propDecidable _) h
theorem w_sRng1 {tg a : Expr} {m : MV} {p pos : Pos} (hg : Gl X "range") (hm : X.mg "range" = none) (h : PE X a (tV G W m)) (hs : starEach [a] X.env = [(false, eval a X.env)]) :
    PI X tg (.Call (.Name "range" p) [a] [] pos) (tI G W fun env st => (m env st).bind fun x st => match x with
      | .int n => if small n = true then sized (rangeD 0 n.toNat) none st else .bad
      | _ => .bad) := by
  refine (pi_range1 hg hm (PA.one h hs) hs).imp fun σ H Rr h => ?_
  obtain ⟨μ, env, st, R, e, p⟩ := h
  refine tV_mono (tV_bind (k := fun _ x st => match x with
      | .int n => if small n = true then sized (rangeD 0 n.toNat) none st else .bad
      | _ => .bad) R e p) fun v H1 ⟨μ1, st1, x, R1, e1, x1, r1, q1⟩ => ?_
  cases x with
  | int n =>
    dsimp only at q1
    split at q1
    · rename_i hs
      unfold sized at q1
      split at q1
      · rename_i hz
        exact ⟨n, by rw [show v = V.int n from r1], (small_iff hs).1, (small_iff hs).2, q1.here R1 _ (wlk_range hz)⟩
      · exact PostR.no q1
    · exact PostR.no q1
  | _ => exact PostR.no q1
theorem w_sRng2 {tg a b : Expr} {ma mb : MV} {p pos : Pos} (hg : Gl X "range") (hm : X.mg "range" = none) (ha : PE X a (tV G W ma)) (hb : PE X b (tV G W mb)) (hs : starEach [a, b] X.env = (false, eval a X.env) :: starEach [b] X.env) (hs2 : starEach [b] X.env = [(false, eval b X.env)]) :
    PI X tg (.Call (.Name "range" p) [a, b] [] pos) (tI G W fun env st => (ma env st).bind fun x st => (mb env st).bind fun y st => match x, y with
      | .int i, .int j => if small i = true ∧ small j = true then sized (rangeD i (j - i).toNat) none st else .bad
      | _, _ => .bad) := by
  refine (pi_range2 hg hm (PA.two ha hb hs hs2) (by rw [hs, hs2]) hs2).imp fun σ H Rr h => ?_
  obtain ⟨μ, env, st, R, e, p⟩ := h
  refine tV_mono (tV_two (g := fun _ x y st => match x, y with
      | .int i, .int j => if small i = true ∧ small j = true then sized (rangeD i (j - i).toNat) none st else .bad
      | _, _ => .bad) R e p) fun v H1 h1 => tV_mono h1 fun u H2 ⟨μ2, st2, x, y, R2, e2, x2, r1, r2, q1⟩ => ?_
  cases x with
  | int i =>
    cases y with
    | int j =>
      dsimp only at q1
      split at q1
      · rename_i hs
        unfold sized at q1
        split at q1
        · rename_i hz
          exact ⟨i, j, by rw [show v = V.int i from r1, show u = V.int j from r2], ⟨(small_iff hs.1).1, (small_iff hs.1).2, (small_iff hs.2).1, (small_iff hs.2).2⟩, q1.here R2 _ (wlk_range hz)⟩
        · exact PostR.no q1
      · exact PostR.no q1
    | _ => exact PostR.no q1
  | _ => exact PostR.no q1
/-- new pairs of what stands at a and at b -/
theorem zipW_get {xs ys : List D} {i : Nat} {d : D} (h : (List.zipWith (fun x y => D.tup [x, y]) xs ys)[i]? = some d) : ∃ x y, xs[i]? = some x ∧ ys[i]? = some y ∧ d = .tup [x, y] := by
  rw [List.getElem?_zipWith] at h
  split at h
  · rename_i x y h1 h2
    cases h
    exact ⟨x, y, h1, h2, rfl⟩
  · cases h
theorem wlk_zipT {μ : Nat → Addr} {st : AS} {H : Hp} {xs ys : List D} {a b : Addr} {vs us : List V} (z : xs.length ≤ szMax) (t : TupAt G H a vs) (rs : Reps G μ st.length H xs vs) (t2 : TupAt G H b us) (rs2 : Reps G μ st.length H ys us) :
    Wlk G (RZ.ItzT G.K a b) (List.zipWith (fun x y => D.tup [x, y]) xs ys) none μ st.length H := by
  refine ⟨by rw [List.length_zipWith]; omega, fun i μ2 st2 H2 nx R2 w hi => ?_, fun μ2 st2 H2 nx R2 w => ?_, fun i μ2 st2 H2 x H3 nx R2 w y => ?_⟩
  · obtain ⟨x, y, h1, h2, _⟩ := zipW_get (List.getElem?_eq_getElem hi)
    obtain ⟨v, h3, _⟩ := rs.get h1
    obtain ⟨u, h4, _⟩ := rs2.get h2
    exact ⟨vs, us, v, u, (t.mono nx.toNx0).sq, (t2.mono nx.toNx0).sq, h3, h4⟩
  · refine ⟨vs, us, (t.mono nx.toNx0).sq, (t2.mono nx.toNx0).sq, ?_⟩
    rw [List.length_zipWith, ← rs.length, ← rs2.length]
    omega
  · obtain ⟨T, v, u, rfl, hT, rfl, f1, f2⟩ := y
    refine ⟨.inr ⟨T, [v, u], hT, rfl⟩, fun d hd => ?_⟩
    obtain ⟨x, y, h1, h2, rfl⟩ := zipW_get hd
    have nx2 : Nx μ2 st2.length H2 μ2 st2.length (upd H2 T (.tup [v, u])) := nx_upd hT
    obtain ⟨v', h3, h5⟩ := (Reps.mono (nx.trans nx2).toNx0 _ _ rs).get h1
    obtain ⟨u', h4, h6⟩ := (Reps.mono (nx.trans nx2).toNx0 _ _ rs2).get h2
    rw [f1 vs (t.mono nx.toNx0).sq] at h3
    rw [f2 us (t2.mono nx.toNx0).sq] at h4
    cases h3
    cases h4
    exact ⟨by show 2 ≤ szMax; unfold szMax; omega, T, _, rfl, .inl upd_same, .cons h5 (.one h6)⟩
theorem w_sZip {a b : Expr} {ma mb : MV} {elts : List Expr} {kk : Nat} {tpos p pos : Pos} (hK : X.K = G.K) (hg : Gl X "zip") (hm : X.mg "zip" = none) (ha : PE X a (tV G W ma)) (hb : PE X b (tV G W mb)) (hs : starEach [a, b] X.env = (false, eval a X.env) :: starEach [b] X.env) (hs2 : starEach [b] X.env = [(false, eval b X.env)])
    (hpl : (backTo pos (starEach [b] X.env)).any (·.1) = false) :
    PI X (.Tuple elts kk tpos) (.Call (.Name "zip" p) [a, b] [] pos) (tI G W fun env st => (ma env st).bind fun x st => (mb env st).bind fun y st => match x, y with
      | .tup xs, .tup ys => .ok (List.zipWith (fun x y => .tup [x, y]) xs ys, none) st
      | _, _ => .bad) := by
  refine (RZ.pi_zipA hg hm (PA.two ha hb hs hs2) hs hpl).imp fun σ H Rr h => ?_
  obtain ⟨μ, env, st, R, e, p⟩ := h
  refine tV_mono (tV_two (g := fun _ x y st => match x, y with
      | .tup xs, .tup ys => .ok (List.zipWith (fun x y => D.tup [x, y]) xs ys, none) st
      | _, _ => .bad) R e p) fun v H1 h1 => tV_mono h1 fun u H2 ⟨μ2, st2, x, y, R2, e2, x2, r1, r2, q1⟩ => ?_
  cases x with
  | tup xs =>
    cases y with
    | tup ys =>
      obtain ⟨z, a, vs, rfl, t, rs⟩ := r1
      obtain ⟨z2, b, us, rfl, t2, rs2⟩ := r2
      rw [hK]
      exact ⟨a, b, vs, us, rfl, .inr ⟨t.sq, t2.sq, q1.here R2 _ (wlk_zipT z t rs t2 rs2)⟩⟩
    | _ => exact PostR.no q1
  | _ => exact PostR.no q1
end

/-! ### comprehensions -/
theorem noX_is {G : Gam} {W : WX} {σ : L2.St} {α β : Type} {μ : Nat → Addr} {n : Nat} {H : Hp} {P : β → AS → (Nat → Addr) → Hp → Prop} {r : Res α} {k : α → AS → Res β} (h : PostR G W σ μ n H P ((noX r).bind k)) : ∃ a st, r = .ok a st := by
  cases r with
  | ok a st => exact ⟨a, st, rfl⟩
  | exn c p st => exact h.elim
  | bad => exact h.elim
theorem wipe_idem (σ : L2.St) : ∀ vs : List Nat, wipe (wipe σ vs) vs = wipe σ vs := fun vs => by
  have key : ∀ us : List Nat, (∀ i ∈ us, i ∈ vs) → wipe (wipe σ us) vs = wipe σ vs := fun us => by
    induction us with
    | nil => exact fun _ => rfl
    | cons u us ih =>
      intro h
      show wipe ((wipe σ us).set u none) vs = _
      rw [wipe_set (h u List.mem_cons_self)]
      exact ih fun i hi => h i (List.mem_cons_of_mem _ hi)
  exact key vs fun _ h => h
/-- our own new list, beside what is told -/
theorem nx_own {μ0 μ : Nat → Addr} {n0 n : Nat} {H0 H : Hp} {p : Addr} {o : HO} (x : Nx μ0 n0 H0 μ n H) (h : H0 p = none) : Nx μ0 n0 H0 μ n (upd H p o) :=
  ⟨⟨x.le, x.ext, fun a xs e => by rw [upd_ne (ne_of_none e h)]; exact x.tup a xs e⟩, fun a u e hi => by rw [upd_ne (ne_of_none e h)]; exact x.frm a u e hi, x.new, fun a e => keep_upd a (x.keep a e)⟩
theorem yld_keeps {G : Gam} {μ : Nat → Addr} {st : AS} {H H' : Hp} (R : Rl G μ st H) (h : H' = H ∨ ∃ T us, H T = none ∧ H' = upd H T (.tup us)) : Rl G μ st H' ∧ Nx μ st.length H μ st.length H' := by
  rcases h with rfl | ⟨T, us, hT, rfl⟩
  · exact ⟨R, .refl⟩
  · exact ⟨R.side hT, nx_upd hT⟩
/-- what is no place of ours stays none of ours, and stands -/
theorem frm_out {μ μ' : Nat → Addr} {n n' : Nat} {H H' : Hp} {p : Addr} {o : HO} (x : Nx μ n H μ' n' H') (h : H p = some o) (hi : ∀ i, i < n → μ i ≠ p) : H' p = some o ∧ ∀ i, i < n' → μ' i ≠ p := by
  refine ⟨x.frm p o h hi, fun i h1 e => ?_⟩
  by_cases hn : i < n
  · rw [x.ext i hn] at e
    exact hi i hn e
  · have z := x.new i (Nat.le_of_not_lt hn) h1
    rw [e, h] at z; cases z
section
variable {G : Gam} {W W0 : WX} {X : Cx}
theorem lc_ok {σ : L2.St} {H : Hp} {Q : VK} {t : Tg} {ms : Env → AS → Res (List D × Option (Nat × List D))} {mt : Env → AS → Res Bool} {me : MV} {vs : List Nat} (hts : ∀ i ∈ tslots t, i ∈ vs)
    (h : tV G W (fun env st => (ms env st).bind fun xs st => (lcLoop xs.2 (fun d => assign t d (wipeE env vs)) mt me xs.1 st).bind fun ds st => newL st ds) σ H Q) :
    tLc (tI G W ms) (gT G.K t) (tT G W0 mt) (tV G W0 me) vs σ H Q := by
  obtain ⟨μ, env, st, R, e, p⟩ := h
  refine ⟨μ, env, st, R, e, p.bind.mono fun xw st1 μ1 H1 x1 R1 q J wk D hD => ?_⟩
  obtain ⟨xs, w⟩ := xw
  dsimp only at q wk
  have e1 : ER G μ1 st1.length H1 env σ := e.mono x1.toNx0
  refine ⟨fun i m H => i ≤ xs.length ∧ m = xs.length - i ∧ ∃ μ2 st2 acc accv, Rl G μ2 st2 H ∧ Nx μ1 st1.length H1 μ2 st2.length H ∧ H D = some (.lst accv) ∧ (∀ j, j < st2.length → μ2 j ≠ D) ∧ Reps G μ2 st2.length H acc accv ∧ acc.length ≤ i ∧
      PostR G W σ μ1 st1.length H1 (PV G Q) ((lcLoop w (fun d => assign t d (wipeE env vs)) mt me (xs.drop i) st2).bind fun ds st3 => newL st3 (acc ++ ds)), ⟨_, Nat.zero_le _, rfl, μ1, st1, [], [], R1.side hD, nx_upd hD, upd_same, fun j hj => R1.fresh hD hj, rfl, Nat.le_refl _, q⟩, ?_⟩
  rintro i m H2 ⟨hi, rfl, μ2, st2, acc, accv, R2, x2, hD2, ho, rs, hac, q2⟩
  by_cases hlt : i < xs.length
  · have ed : xs.drop i = xs[i] :: xs.drop (i + 1) := List.drop_eq_getElem_cons hlt
    rw [ed] at q2
    unfold lcLoop at q2
    split at q2
    · rename_i hw
      split at q2
      · rename_i env1 ha
        refine .inr ⟨wk.go i μ2 st2 H2 x2 R2 hw hlt, fun H' => i + 1 ≤ xs.length ∧ _ = xs.length - (i + 1) ∧ _, fun H' hn => ⟨xs.length - (i + 1), by omega, hn⟩, fun x H3 y => ?_⟩
        obtain ⟨yk, yr⟩ := wk.yld i μ2 st2 H2 x H3 x2 R2 hw y
        obtain ⟨R3, x3⟩ := yld_keeps R2 yk
        obtain ⟨hD3, ho3⟩ := frm_out x3 hD2 ho
        have e3 : ER G μ2 st2.length H3 (wipeE env vs) (wipe σ vs) := (e1.mono (x2.trans x3).toNx0).wipe vs
        refine gT_ok t _ x _ env1 _ _ ha (yr _ (List.getElem?_eq_getElem hlt)) e3 fun σ2 e4 hwp => ⟨by rw [hwp vs hts, wipe_idem], ?_⟩
        have bnd : ∀ {α β γ : Type} (r : Res α) (f : α → AS → Res β) (g : β → AS → Res γ), (r.bind f).bind g = r.bind fun a s => (f a s).bind g := fun r f g => by cases r <;> rfl
        simp only [bnd] at q2
        obtain ⟨b, st4, hb⟩ := noX_is q2
        rw [hb] at q2
        simp only [noX_ok, bind_ok] at q2
        refine ⟨μ2, env1, st2, R3, e4, ?_⟩
        rw [hb]
        intro μ4 H4 x4 R4
        obtain ⟨hD4, ho4⟩ := frm_out x4 hD3 ho3
        cases b with
        | false =>
          rw [if_neg (by decide)] at q2
          unfold PB
          dsimp only
          rw [if_neg Bool.false_ne_true]
          exact ⟨hlt, rfl, μ4, st4, acc, accv, R4, (x2.trans x3).trans x4, hD4, ho4, Reps.mono (x3.trans x4).toNx0 _ _ rs, Nat.le_succ_of_le hac, q2⟩
        | true =>
          unfold PB
          dsimp only
          rw [if_pos rfl]
          rw [if_pos rfl] at q2
          simp only [bnd, bind_ok] at q2
          obtain ⟨d, st5, hd⟩ := noX_is q2
          rw [hd] at q2
          simp only [noX_ok, bind_ok] at q2
          refine ⟨μ4, env1, st4, R4, e4.mono x4.toNx0, ?_⟩
          rw [hd]
          intro μ5 H5 x5 R5 v rv
          obtain ⟨hD5, ho5⟩ := frm_out x5 hD4 ho4
          have hz : accv.length < sizeLine := by
            rw [← rs.length, ← szLine]
            exact Nat.lt_of_le_of_lt hac (Nat.lt_of_lt_of_le hlt wk.len)
          refine ⟨accv, hD5, hz, hlt, rfl, μ5, st5, acc ++ [d], accv ++ [v], ?_, ?_, upd_same, ho5, ?_, ?_, ?_⟩
          · exact R5.frame (fun a ys z => by rw [upd_ne (fun y => by rw [y, hD5] at z; cases z)]; exact z) fun j hj => upd_ne (ho5 j hj)
          · exact nx_own (((x2.trans x3).trans x4).trans x5) hD
          · have nt : Nx0 μ5 st5.length H5 μ5 st5.length (upd H5 D (HO.lst (accv ++ [v]))) := ⟨Nat.le_refl _, fun _ _ => rfl, fun a ys z => by rw [upd_ne (fun y => by rw [y, hD5] at z; cases z)]; exact z⟩
            exact (Reps.mono (((x3.trans x4).trans x5).toNx0.trans nt) _ _ rs).append (.one (Rep.mono nt _ _ rv))
          · rw [List.length_append, List.length_singleton]; omega
          · simp only [List.append_assoc, List.singleton_append]
            exact q2
      · exact PostR.no q2
    · exact PostR.no q2
  · have hi' : i = xs.length := by omega
    subst hi'
    rw [List.drop_length] at q2
    unfold lcLoop at q2
    split at q2
    · rename_i hw
      simp only [bind_ok, List.append_nil] at q2
      refine .inl ⟨wk.stop μ2 st2 H2 x2 R2 hw, ?_⟩
      have z : acc.length ≤ szMax := Nat.le_trans hac wk.len
      have nx0 : Nx0 μ2 st2.length H2 (extM μ2 st2.length D) (st2 ++ [O.lst acc]).length H2 := ⟨by simp, fun i hi => extM_lt hi, fun _ _ z => z⟩
      have R3 : Rl G (extM μ2 st2.length D) (st2 ++ [O.lst acc]) H2 := R2.adopt ho ⟨z, accv, hD2, Reps.mono nx0 _ _ rs⟩
      have x3 : Nx μ1 st1.length H1 (extM μ2 st2.length D) (st2 ++ [O.lst acc]).length H2 := by
        refine ⟨x2.toNx0.trans nx0, x2.frm, fun j h1 h2 => ?_, x2.keep⟩
        rw [List.length_append, List.length_singleton] at h2
        by_cases hj : j < st2.length
        · rw [extM_lt hj]; exact x2.new j h1 hj
        · have ej : j = st2.length := by omega
          rw [ej, extM_at]; exact hD
      exact q2 _ _ x3 R3 _ ⟨by simp, by rw [extM_at]⟩
    · exact PostR.no q2
end
end Ws
end
end

section
set_option Elab.async false
set_option linter.all false
set_option maxRecDepth 100000
set_option maxHeartbeats 4000000
/-! WsH: the rest of the sources; statements. -/
noncomputable section
namespace Ws
open PySem PySem.Spec PyProof.Rows L2
section
variable {G : Gam} {W : WX} {X : Cx}
theorem rangeC_get {a c : Int} {n i : Nat} {d : D} (h : (rangeC a c n)[i]? = some d) : d = .int (a + (i : Nat) * c) ∧ i < n := by
  unfold rangeC at h
  rw [List.getElem?_map, Option.map_eq_some_iff] at h
  obtain ⟨j, h1, rfl⟩ := h
  obtain ⟨h2, h3⟩ := List.getElem?_eq_some_iff.mp h1
  rw [List.length_range] at h2
  rw [List.getElem_range] at h3
  subst h3
  exact ⟨rfl, h2⟩
theorem wlk_rangeC {μ : Nat → Addr} {n0 : Nat} {H : Hp} {a c : Int} {n : Nat} (z : (rangeC a c n).length ≤ szMax) : Wlk G (Itc a c n) (rangeC a c n) none μ n0 H := by
  have hl : (rangeC a c n).length = n := by unfold rangeC; rw [List.length_map, List.length_range]
  refine ⟨z, fun i μ2 st2 H2 nx R2 w hi => by rw [hl] at hi; exact hi, fun μ2 st2 H2 nx R2 w => Nat.le_of_eq hl.symm, fun i μ2 st2 H2 x H3 nx R2 w y => ?_⟩
  obtain ⟨e1, rfl⟩ := y
  subst e1
  refine ⟨.inl rfl, fun d hd => ?_⟩
  rw [(rangeC_get hd).1]
  rfl
theorem PA.three {e f g : Expr} {m m' m'' : MV} (h : PE X e (tV G W m)) (h' : PE X f (tV G W m')) (h'' : PE X g (tV G W m'')) (hs : starEach [e, f, g] X.env = (false, eval e X.env) :: starEach [f, g] X.env) (hs2 : starEach [f, g] X.env = (false, eval f X.env) :: starEach [g] X.env) (hs3 : starEach [g] X.env = [(false, eval g X.env)]) :
    PA X [e, f, g] (fun σ H Q => tV G W m σ H fun v H1 => tV G W m' σ H1 fun u H2 => tV G W m'' σ H2 fun t H3 => Q [v, u, t] H3) := pa_cons h (pa_cons h' (pa_cons h'' pa_nil hs3) hs2) hs
theorem w_sRng3 {tg a b c : Expr} {ma mb mc : MV} {p pos : Pos} (hg : Gl X "range") (hm : X.mg "range" = none) (ha : PE X a (tV G W ma)) (hb : PE X b (tV G W mb)) (hc : PE X c (tV G W mc)) (hs : starEach [a, b, c] X.env = (false, eval a X.env) :: starEach [b, c] X.env) (hs2 : starEach [b, c] X.env = (false, eval b X.env) :: starEach [c] X.env) (hs3 : starEach [c] X.env = [(false, eval c X.env)])
    (hpl : (backTo pos (starEach [b, c] X.env)).any (·.1) = false) :
    PI X tg (.Call (.Name "range" p) [a, b, c] [] pos) (tI G W fun env st => (ma env st).bind fun x st => (mb env st).bind fun y st => (mc env st).bind fun z st => match x, y, z with
      | .int i, .int j, .int k => if small i = true ∧ small j = true ∧ k = -1 then sized (rangeC i (-1) (i - j).toNat) none st else .bad
      | _, _, _ => .bad) := by
  refine (pi_range3 hg hm (PA.three ha hb hc hs hs2 hs3) hs hpl).imp fun σ H Rr h => ?_
  obtain ⟨μ, env, st, R, e, p⟩ := h
  refine tV_mono (tV_two (g := fun env x y st => (mc env st).bind fun z st => match x, y, z with
      | .int i, .int j, .int k => if small i = true ∧ small j = true ∧ k = -1 then sized (rangeC i (-1) (i - j).toNat) none st else .bad
      | _, _, _ => .bad) R e p) fun v H1 h1 => tV_mono h1 fun u H2 ⟨μ2, st2, x, y, R2, e2, x2, r1, r2, q1⟩ => ?_
  refine tV_mono (tV_bind (k := fun _ z st => match x, y, z with
      | .int i, .int j, .int k => if small i = true ∧ small j = true ∧ k = -1 then sized (rangeC i (-1) (i - j).toNat) none st else .bad
      | _, _, _ => .bad) R2 e2 q1) fun t H3 ⟨μ3, st3, z, R3, e3, x3, r3, q3⟩ => ?_
  cases x with
  | int i =>
    cases y with
    | int j =>
      cases z with
      | int k =>
        dsimp only at q3
        split at q3
        · rename_i hs
          obtain ⟨h1, h2, rfl⟩ := hs
          unfold sized at q3
          split at q3
          · rename_i hz
            exact ⟨i, j, -1, _, by rw [show v = V.int i from r1, show u = V.int j from r2, show t = V.int (-1) from r3], RgC.neg (small_iff h1).1 (small_iff h1).2 (small_iff h2).1 (small_iff h2).2, q3.here R3 _ (wlk_rangeC hz)⟩
          · exact PostR.no q3
        · exact PostR.no q3
      | _ => exact PostR.no q3
    | _ => exact PostR.no q3
  | _ => exact PostR.no q3
theorem wlk_enum {μ : Nat → Addr} {st : AS} {H : Hp} {l : Nat} {xs : List D} (R : Rl G μ st H) (e : st[l]? = some (.lst xs)) : Wlk G (Ite G.K (μ l)) (xs.zipIdx.map fun p => D.tup [.int p.2, p.1]) (some (l, xs)) μ st.length H := by
  have hl := R.lt e
  have hlen : (xs.zipIdx.map fun p => D.tup [.int p.2, p.1]).length = xs.length := by rw [List.length_map, List.length_zipIdx]
  have rd : ∀ μ2 st2 H2, Nx μ st.length H μ2 st2.length H2 → Rl G μ2 st2 H2 → watchOk (some (l, xs)) st2 → ∃ vs, SqL G.K H2 (μ l) vs ∧ Reps G μ2 st2.length H2 xs vs := fun μ2 st2 H2 nx R2 w => by
    have w' : itemsD st2 (.ref l) = some xs := w
    rw [← nx.ext l hl]
    simp only [itemsD] at w'
    split at w'
    · rename_i ys hy
      cases w'
      obtain ⟨z, vs, h1, rs⟩ := R2.lst hy
      exact ⟨vs, .inl (.inl h1), rs⟩
    · rename_i ys hy
      cases w'
      obtain ⟨z, ob, vs, h1, rs⟩ := R2.frz hy
      exact ⟨vs, .inl (.inr ⟨ob, h1⟩), rs⟩
    · cases w'
  refine ⟨by rw [hlen]; exact (R.lst e).1, fun i μ2 st2 H2 nx R2 w hi => ?_, fun μ2 st2 H2 nx R2 w => ?_, fun i μ2 st2 H2 x H3 nx R2 w y => ?_⟩
  · obtain ⟨vs, sq, rs⟩ := rd μ2 st2 H2 nx R2 w
    rw [hlen] at hi
    obtain ⟨v, h1, _⟩ := rs.get (List.getElem?_eq_getElem hi)
    exact ⟨vs, v, sq, h1⟩
  · obtain ⟨vs, sq, rs⟩ := rd μ2 st2 H2 nx R2 w
    rw [hlen]
    exact ⟨vs, sq, Nat.le_of_eq rs.length.symm⟩
  · obtain ⟨vs, sq, rs⟩ := rd μ2 st2 H2 nx R2 w
    obtain ⟨T, x', rfl, hT, rfl, f1⟩ := y
    refine ⟨.inr ⟨T, _, hT, rfl⟩, fun d hd => ?_⟩
    rw [List.getElem?_map, List.getElem?_zipIdx] at hd
    cases hx : xs[i]? with
    | none => rw [hx] at hd; cases hd
    | some d0 =>
      rw [hx] at hd
      cases hd
      have nx2 : Nx μ2 st2.length H2 μ2 st2.length (upd H2 T (.tup [.int (i : Nat), x'])) := nx_upd hT
      obtain ⟨v', h3, h5⟩ := (Reps.mono nx2.toNx0 _ _ rs).get hx
      rw [f1 vs sq] at h3
      cases h3
      exact ⟨by show 2 ≤ szMax; unfold szMax; omega, T, _, rfl, .inl upd_same, .cons (by show V.int _ = V.int _; simp) (.one h5)⟩
theorem w_sEnum {a : Expr} {m : MV} {elts : List Expr} {kk : Nat} {tpos p pos : Pos} (hK : X.K = G.K) (hg : Gl X "enumerate") (hm : X.mg "enumerate" = none) (h : PE X a (tV G W m)) (hs : starEach [a] X.env = [(false, eval a X.env)]) :
    PI X (.Tuple elts kk tpos) (.Call (.Name "enumerate" p) [a] [] pos) (tI G W fun env st => (m env st).bind fun d st => match d with
      | .ref l => match st[l]? with
        | some (.lst xs) => .ok (xs.zipIdx.map fun p => D.tup [.int p.2, p.1], some (l, xs)) st
        | _ => .bad
      | _ => .bad) := by
  refine (pi_enum hg hm (PA.one h hs) hs).imp fun σ H Rr h => ?_
  obtain ⟨μ, env, st, R, e, p⟩ := h
  refine tV_mono (tV_bind (k := fun _ d st => match d with
      | .ref l => match st[l]? with
        | some (.lst xs) => .ok (xs.zipIdx.map fun p => D.tup [.int p.2, p.1], some (l, xs)) st
        | _ => .bad
      | _ => .bad) R e p) fun v H1 ⟨μ1, st1, x, R1, e1, x1, r1, q1⟩ => ?_
  cases x with
  | ref l =>
    obtain ⟨hl, rfl⟩ := r1
    dsimp only at q1
    split at q1
    · rename_i xs hx
      obtain ⟨z, vs, h1, rs⟩ := R1.lst hx
      rw [hK]
      exact ⟨_, vs, rfl, .inl (.inl h1), q1.here R1 _ (wlk_enum R1 hx)⟩
    · exact PostR.no q1
  | _ => exact PostR.no q1
end

/-! ### statements -/
section
variable (G : Gam) (W : WX)
def PostS (E : Ends) (μ : Nat → Addr) (n : Nat) (H : Hp) : RS → Prop
  | .next env st => ∀ μ' H' σ', Nx μ n H μ' st.length H' → Rl G μ' st H' → ER G μ' st.length H' env σ' → E.nx σ' H'
  | .ret d st => ∀ μ' H' v, Nx μ n H μ' st.length H' → Rl G μ' st H' → Rep G μ' st.length H' d v → E.rt v H'
  | .brk env st => ∀ μ' H' σ', Nx μ n H μ' st.length H' → Rl G μ' st H' → ER G μ' st.length H' env σ' → E.bk σ' H'
  | .cont env st => ∀ μ' H' σ', Nx μ n H μ' st.length H' → Rl G μ' st H' → ER G μ' st.length H' env σ' → E.ct σ' H'
  | .exn c p env st => ∀ μ' dx H' σ', Nx μ n H μ' st.length H' → Rl G μ' st H' → ER G μ' st.length H' env σ' → Pay G μ' st.length H' c p dx → W (.ref (G.xA c)) dx σ' H'
  | .bad => False
def tS (m : Env → AS → RS) : TS := fun E σ H => ∃ μ env st, Rl G μ st H ∧ ER G μ st.length H env σ ∧ PostS G W E μ st.length H (m env st)
end
section
variable {G : Gam} {W : WX} {E : Ends} {σ : L2.St} {μ μ1 : Nat → Addr} {n n1 : Nat} {H H1 : Hp} {α : Type}
theorem PostS.no {C : Prop} (h : PostS G W E μ n H .bad) : C := False.elim h
theorem PostS.trans {r : RS} (x : Nx μ n H μ1 n1 H1) (h : PostS G W E μ n H r) : PostS G W E μ1 n1 H1 r := by
  cases r with
  | next env st => exact fun μ' H' σ' y => h μ' H' σ' (x.trans y)
  | ret d st => exact fun μ' H' v y => h μ' H' v (x.trans y)
  | brk env st => exact fun μ' H' σ' y => h μ' H' σ' (x.trans y)
  | cont env st => exact fun μ' H' σ' y => h μ' H' σ' (x.trans y)
  | exn c p env st => exact fun μ' dx H' σ' y => h μ' dx H' σ' (x.trans y)
  | bad => exact h
theorem PostS.stm {r : Res α} {env : Env} {k : α → AS → RS} (e : ER G μ n H env σ) (h : PostS G W E μ n H (r.stm env k)) :
    PostR G W σ μ n H (fun a st1 μ1 H1 => PostS G W E μ1 st1.length H1 (k a st1)) r := by
  cases r with
  | ok a st => exact fun μ' H' y rl => PostS.trans y h
  | exn c p st => exact fun μ' dx H' y rl q => h μ' dx H' σ y rl (e.mono y.toNx0) q
  | bad => exact h
theorem PostS.next {env : Env} {st : AS} (h : PostS G W E μ st.length H (.next env st)) (R : Rl G μ st H) (e : ER G μ st.length H env σ) : E.nx σ H := h μ H σ Nx.refl R e
theorem tV_stm {m : MV} {k : Env → D → AS → RS} {env : Env} {st : AS} (R : Rl G μ st H) (e : ER G μ st.length H env σ) (h : PostS G W E μ st.length H ((m env st).stm env (k env))) :
    tV G W m σ H fun v H1 => ∃ μ1 st1 x, Rl G μ1 st1 H1 ∧ ER G μ1 st1.length H1 env σ ∧ Nx μ st.length H μ1 st1.length H1 ∧ Rep G μ1 st1.length H1 x v ∧ PostS G W E μ1 st1.length H1 (k env x st1) :=
  ⟨μ, env, st, R, e, (h.stm e).mono fun a st' μ' H' x rl q v r => ⟨μ', st', a, rl, e.mono x.toNx0, x, r, q⟩⟩
theorem tT_stm {m : Env → AS → Res Bool} {k : Env → Bool → AS → RS} {env : Env} {st : AS} (R : Rl G μ st H) (e : ER G μ st.length H env σ) (h : PostS G W E μ st.length H ((m env st).stm env (k env))) :
    tT G W m σ H fun b H1 => ∃ μ1 st1, Rl G μ1 st1 H1 ∧ ER G μ1 st1.length H1 env σ ∧ Nx μ st.length H μ1 st1.length H1 ∧ PostS G W E μ1 st1.length H1 (k env b st1) :=
  ⟨μ, env, st, R, e, (h.stm e).mono fun a st' μ' H' x rl q => ⟨μ', st', rl, e.mono x.toNx0, x, q⟩⟩
theorem PostS.seq {r : RS} {k : Env → AS → RS} (h : PostS G W E μ n H (r.seq k)) : PostS G W { E with nx := tS G W k E } μ n H r := by
  cases r with
  | next env st => exact fun μ' H' σ' nx rl er => ⟨μ', env, st, rl, er, PostS.trans nx h⟩
  | ret d st => exact h
  | brk env st => exact h
  | cont env st => exact h
  | exn c p env st => exact h
  | bad => exact h
end
section
variable {G : Gam} {W : WX} {X : Cx}
theorem w_nil : PSs X [] (tS G W fun env st => .next env st) := by
  refine pss_nil.imp fun E σ H h => ?_
  obtain ⟨μ, env, st, R, e, p⟩ := h
  exact p.next R e
theorem w_cons {s : Stmt} {r : List Stmt} {m1 m2 : Env → AS → RS} (h1 : PS X s (tS G W m1)) (h2 : PSs X r (tS G W m2)) : PSs X (s :: r) (tS G W fun env st => (m1 env st).seq m2) := by
  refine (pss_cons h1 h2).imp fun E σ H h => ?_
  obtain ⟨μ, env, st, R, e, p⟩ := h
  exact ⟨μ, env, st, R, e, p.seq⟩
theorem w_pass {pos : Pos} : PS X (.Pass pos) (tS G W fun env st => .next env st) := by
  refine ps_pass.imp fun E σ H h => ?_
  obtain ⟨μ, env, st, R, e, p⟩ := h
  exact p.next R e
theorem asg_ok {E : Ends} {σ : L2.St} {H : Hp} {t : Tg} {m : MV} (h : tS G W (fun env st => (m env st).stm env fun d st => match assign t d env with
    | some env' => .next env' st
    | none => .bad) E σ H) : tAsg (tV G W m) (gT G.K t) E σ H := by
  obtain ⟨μ, env, st, R, e, p⟩ := h
  refine tV_mono (tV_stm (k := fun env d st => match assign t d env with
    | some env' => .next env' st
    | none => .bad) R e p) fun v H1 ⟨μ1, st1, x, R1, e1, x1, r1, q1⟩ => ?_
  split at q1
  · rename_i env' ha
    exact gT_ok t x v env env' σ _ ha r1 e1 fun σ' e' _ => q1.next R1 e'
  · exact q1.no
theorem w_asg {tg e : Expr} {t : Tg} {m : MV} {pos : Pos} (he : PE X e (tV G W m)) (hg : PG X tg (gT G.K t)) (hs : swapsWithSole [tg] e pos.line X.env = pure false) (hw : swappedStores [tg] e X.env = pure none)
    (h1 : (assignEach [tg] X.env).map (·.2) = [PySem.assign tg X.env]) : PS X (.Assign [tg] e pos) (tS G W fun env st => (m env st).stm env fun d st => match assign t d env with
      | some env' => .next env' st
      | none => .bad) := (ps_asg he hg hs hw h1).imp fun E σ H h => asg_ok h
theorem w_ret {e : Expr} {m : MV} {pos : Pos} (he : PE X e (tV G W m)) : PS X (.Return (some e) pos) (tS G W fun env st => (m env st).stm env fun d st => .ret d st) := by
  refine (ps_ret he).imp fun E σ H h => ?_
  obtain ⟨μ, env, st, R, e, p⟩ := h
  exact tV_mono (tV_stm (k := fun env d st => .ret d st) R e p) fun v H1 ⟨μ1, st1, x, R1, e1, x1, r1, q1⟩ => q1 μ1 H1 v Nx.refl R1 r1
theorem w_retN {pos : Pos} : PS X (.Return none pos) (tS G W fun env st => .ret .non st) := by
  refine ps_retN.imp fun E σ H h => ?_
  obtain ⟨μ, env, st, R, e, p⟩ := h
  exact p μ H _ Nx.refl R rfl
theorem w_expr {e : Expr} {m : MV} {pos : Pos} (he : PE X e (tV G W m)) (hs : swapsWith e none pos.line X.env = pure false) : PS X (.Expr e pos) (tS G W fun env st => (m env st).stm env fun _ st => .next env st) := by
  refine (ps_expr he hs).imp fun E σ H h => ?_
  obtain ⟨μ, env, st, R, e, p⟩ := h
  exact tV_mono (tV_stm (k := fun env d st => .next env st) R e p) fun v H1 ⟨μ1, st1, x, R1, e1, x1, r1, q1⟩ => q1.next R1 e1
theorem w_if {c : Expr} {a b : List Stmt} {mc : Env → AS → Res Bool} {ma mb : Env → AS → RS} {pos : Pos} (hc : PT X c (tT G W mc)) (ha : PSs X a (tS G W ma)) (hb : PSs X b (tS G W mb)) :
    PS X (.If c a b pos) (tS G W fun env st => (mc env st).stm env fun c st => if c = true then ma env st else mb env st) := by
  refine (ps_if hc ha hb).imp fun E σ H h => ?_
  obtain ⟨μ, env, st, R, e, p⟩ := h
  refine tT_mono (tT_stm (k := fun env c st => if c = true then ma env st else mb env st) R e p) fun c H1 ⟨μ1, st1, R1, e1, x1, q1⟩ => ?_
  cases c with
  | true => rw [if_pos rfl] at q1 ⊢; exact ⟨μ1, env, st1, R1, e1, q1⟩
  | false => rw [if_neg Bool.false_ne_true] at q1 ⊢; exact ⟨μ1, env, st1, R1, e1, q1⟩
theorem w_aug {i : Nat} {x : Str} {e : Expr} {op : BOp} {m : MV} {pos' pos : Pos} (hN : X.N.Nodup) (hi : X.N[i]? = some x) (hx : Loc X.env.scope x) (he : PE X e (tV G W m)) (ho : op = .add ∨ op = .sub) (hf : X.fn x = true ∨ X.env.scope.names.lookup x = some .local) :
    PS X (.AugAssign (.Name x pos') (bOp op) e pos) (tS G W fun env st => match env[i]? with
      | some (some x) => (m env st).stm env fun y st => (augD op x y st).stm env fun z st => .next (env.set i (some z)) st
      | _ => .bad) := by
  have hp : PIp X (bOp op) (ipI fun i j => if op = .add then i + j else i - j) := by
    rcases ho with rfl | rfl
    · exact ip_add
    · exact ip_sub
  refine (ps_aug hN hi hx he hp hf).imp fun E σ H h => ?_
  obtain ⟨μ, env, st, R, e, p⟩ := h
  dsimp only at p
  split at p
  · rename_i d hd
    obtain ⟨v, h1, h2⟩ := e.val i d hd
    refine ⟨v, h1, tV_mono (tV_stm (k := fun env y st => (augD op d y st).stm env fun z st => .next (env.set i (some z)) st) R e p) fun u H1 ⟨μ1, st1, y, R1, e1, x1, r1, q1⟩ => ?_⟩
    have r0 := Rep.mono x1.toNx0 _ _ h2
    rcases ho with rfl | rfl
    · cases d with
      | int a =>
        cases y with
        | int b => exact ⟨a, b, r0, r1, PostS.next q1 R1 (e1.set rfl)⟩
        | _ => exact q1.no
      | _ => exact q1.no
    · cases d with
      | int a =>
        cases y with
        | int b => exact ⟨a, b, r0, r1, PostS.next q1 R1 (e1.set rfl)⟩
        | _ => exact q1.no
      | _ => exact q1.no
  · exact p.no
theorem w_par {i j : Nat} {x y : Str} {a b : Expr} {ma mb : MV} {px py pt : Pos} {kt k2 : Nat} {pt2 pos : Pos} (hc : X.calm = true) (hN : X.N.Nodup) (hi : X.N[i]? = some x) (hj : X.N[j]? = some y) (hij : i ≠ j)
    (hx : X.env.scope.names.lookup x = some .local) (hy : X.env.scope.names.lookup y = some .local) (ha : PE X a (tV G W ma)) (hb : PE X b (tV G W mb)) (h1 : starEach [a, b] X.env = (false, eval a X.env) :: starEach [b] X.env) (h2 : starEach [b] X.env = [(false, eval b X.env)])
    (hw : swappedStores [.Tuple [.Name x px, .Name y py] kt pt] (.Tuple [a, b] k2 pt2) X.env = pure (some [x, y])) :
    PS X (.Assign [.Tuple [.Name x px, .Name y py] kt pt] (.Tuple [a, b] k2 pt2) pos) (tS G W fun env st => (ma env st).stm env fun x st => (mb env st).stm env fun y st => .next ((env.set i (some x)).set j (some y)) st) := by
  refine (ps_par hc hN hi hj hij hx hy (PA.two ha hb h1 h2) hw rfl).imp fun E σ H h => ?_
  obtain ⟨μ, env, st, R, e, p⟩ := h
  refine tV_mono (tV_stm (k := fun env x st => (mb env st).stm env fun y st => .next ((env.set i (some x)).set j (some y)) st) R e p) fun v H1 ⟨μ1, st1, x, R1, e1, x1, r1, q1⟩ => ?_
  refine tV_mono (tV_stm (k := fun env y st => .next ((env.set i (some x)).set j (some y)) st) R1 e1 q1) fun u H2 ⟨μ2, st2, y, R2, e2, x2, r2, q2⟩ => ?_
  exact ⟨v, u, rfl, q2.next R2 ((e2.set (Rep.mono x2.toNx0 _ _ r1)).set r2)⟩
theorem ixN_set {xs : List D} {vs : List V} {k : Int} {j : Nat} (h : xs.length = vs.length) (e : ixN xs.length k = some j) : L2.ixN vs.length k = some j := by rw [ixN_eq, ← h]; exact e
theorem setIx_ok {E : Ends} {σ : L2.St} {μ : Nat → Addr} {st : AS} {H : Hp} {env : Env} {x y z : D} {o i v : V} (R : Rl G μ st H) (e : ER G μ st.length H env σ) (r1 : Rep G μ st.length H x o) (r2 : Rep G μ st.length H y i) (r3 : Rep G μ st.length H z v)
    (p : PostS G W E μ st.length H (setD z x y env st)) : rSetL o i v H (E.nx σ) ∨ rSetD o i v H (E.nx σ) := by
  cases x with
  | ref l =>
    obtain ⟨hl, rfl⟩ := r1
    unfold setD at p
    dsimp only at p
    split at p
    · rename_i xs hx
      obtain ⟨hz, vs, h1, rs⟩ := R.lst hx
      cases y with
      | int k =>
        dsimp only at p
        split at p
        · rename_i j hj
          have nx := nx_write R (ho := .lst (vs.set j v)) hl (k := (st.set l (.lst (xs.set j z))).length) (by simp)
          have R2 : Rl G μ (st.set l (.lst (xs.set j z))) (upd H (μ l) (.lst (vs.set j v))) := R.write hl ⟨by rw [List.length_set]; exact hz, _, upd_same, by
            have q := Reps.mono nx.toNx0 _ _ (rs.set j r3)
            rw [List.length_set] at q
            exact q⟩
          exact .inl ⟨_, vs, k, j, rfl, r2, h1, ixN_set rs.length hj, p μ _ σ nx R2 (e.mono nx.toNx0)⟩
        · exact p.no
      | _ => exact p.no
    · rename_i kvs hx
      obtain ⟨hz, kws, h1, rs⟩ := R.dic hx
      split at p
      · rename_i k hk
        split at p
        · rename_i hlt
          have nx := nx_write R (ho := .dK (L2.putK kws k v)) hl (k := (st.set l (.dic (putK kvs k z) false)).length) (by simp)
          have R2 : Rl G μ (st.set l (.dic (putK kvs k z) false)) (upd H (μ l) (.dK (L2.putK kws k v))) := R.write hl ⟨Nat.le_trans (putK_len _ _ _) hlt, _, upd_same, by
            have q := KReps.mono nx.toNx0 (rs.put k r3)
            rw [List.length_set] at q
            exact q⟩
          refine .inr ⟨_, _, rfl, ?_, p μ _ σ nx R2 (e.mono nx.toNx0)⟩
          rw [keyD_rep hk r2]
          exact .k h1 (by rw [← rs.length, ← szLine]; exact hlt)
        · exact p.no
      · exact p.no
    · exact p.no
  | _ => exact p.no
theorem w_setIx {o i e : Expr} {mo mi me : MV} {tpos pos : Pos} (hu : X.A.units + 1 < cLine) (ho : PE X o (tV G W mo)) (hi : PE X i (tV G W mi)) (he : PE X e (tV G W me))
    (ha : ∀ v, PySem.assign (.Subscript o i tpos) X.env v = (do
      let ov ← holding [v] (eval o X.env)
      let iv ← holding [v, ov] (eval i X.env)
      standAt tpos
      holding [v, ov, iv] (setItem ov iv v)
      release [v, ov, iv] [])) (hs : swapsWithSole [.Subscript o i tpos] e pos.line X.env = pure false) : PS X (.Assign [.Subscript o i tpos] e pos) (tS G W fun env st => (me env st).stm env fun v st => (mo env st).stm env fun x st => (mi env st).stm env fun y st => setD v x y env st) := by
  refine (ps_asg he (pg_sub ho hi (set_list.or (set_dict hu)) ha) hs rfl rfl).imp fun E σ H h => ?_
  obtain ⟨μ, env, st, R, e, p⟩ := h
  refine tV_mono (tV_stm (k := fun env v st => (mo env st).stm env fun x st => (mi env st).stm env fun y st => setD v x y env st) R e p) fun v H1 ⟨μ1, st1, z, R1, e1, x1, r1, q1⟩ => ?_
  refine tV_mono (tV_stm (k := fun env x st => (mi env st).stm env fun y st => setD z x y env st) R1 e1 q1) fun o H2 ⟨μ2, st2, x, R2, e2, x2, r2, q2⟩ => ?_
  refine tV_mono (tV_stm (k := fun env y st => setD z x y env st) R2 e2 q2) fun i H3 ⟨μ3, st3, y, R3, e3, x3, r3, q3⟩ => ?_
  exact setIx_ok R3 e3 (Rep.mono x3.toNx0 _ _ r2) r3 (Rep.mono (x2.trans x3).toNx0 _ _ r1) q3

/-! ### loops -/
theorem for_ok {E : Ends} {σ : L2.St} {H : Hp} {t : Tg} {ms : Env → AS → Res (List D × Option (Nat × List D))} {tmp : List Nat} {mb : Env → AS → RS} (h : tS G W (fun env st => (ms env st).stm env fun xs st => forL xs.2 (assign t) tmp mb xs.1 env st) E σ H) :
    tFor (tI G W ms) (gT G.K t) (tS G W mb) E σ H := by
  obtain ⟨μ, env, st, R, e, p⟩ := h
  refine ⟨μ, env, st, R, e, (p.stm e).mono fun xw st1 μ1 H1 x1 R1 q J wk => ?_⟩
  obtain ⟨xs, w⟩ := xw
  dsimp only at q wk
  refine ⟨fun i m σ' H' => i ≤ xs.length ∧ m = xs.length - i ∧ ∃ μ2 env2 st2, Rl G μ2 st2 H' ∧ Nx μ1 st1.length H1 μ2 st2.length H' ∧ ER G μ2 st2.length H' env2 σ' ∧ PostS G W E μ2 st2.length H' (forL w (assign t) tmp mb (xs.drop i) env2 st2),
    ⟨_, Nat.zero_le _, rfl, μ1, env, st1, R1, .refl, e.mono x1.toNx0, q⟩, ?_⟩
  rintro i m σ2 H2 ⟨hi, rfl, μ2, env2, st2, R2, x2, e2, q2⟩
  by_cases hlt : i < xs.length
  · have ed : xs.drop i = xs[i] :: xs.drop (i + 1) := List.drop_eq_getElem_cons hlt
    rw [ed] at q2
    unfold forL at q2
    split at q2
    · rename_i hw
      split at q2
      · rename_i env1 ha
        refine .inr ⟨wk.go i μ2 st2 H2 x2 R2 hw hlt, fun σ' H' => i + 1 ≤ xs.length ∧ _ = xs.length - (i + 1) ∧ _, fun σ' H' hn => ⟨xs.length - (i + 1), by omega, hn⟩, fun x H3 y => ?_⟩
        obtain ⟨yk, yr⟩ := wk.yld i μ2 st2 H2 x H3 x2 R2 hw y
        obtain ⟨R3, x3⟩ := yld_keeps R2 yk
        refine gT_ok t _ x _ env1 _ _ ha (yr _ (List.getElem?_eq_getElem hlt)) ((e2.mono x3.toNx0).wipe1 tmp) fun σ3 e3 _ => ⟨μ2, env1, st2, R3, e3, ?_⟩
        have q3 := PostS.trans x3 q2
        generalize mb env1 st2 = r at q3
        cases r with
        | next e s => exact fun μ' H' σ' nx rl er => ⟨hlt, rfl, μ', e, s, rl, (x2.trans x3).trans nx, er, PostS.trans nx q3⟩
        | cont e s => exact fun μ' H' σ' nx rl er => ⟨hlt, rfl, μ', e, s, rl, (x2.trans x3).trans nx, er, PostS.trans nx q3⟩
        | brk e s => exact fun μ' H' σ' nx rl er => q3 μ' H' σ' nx rl (er.wipe1 tmp)
        | ret d s => exact q3
        | exn c p e s => exact q3
        | bad => exact q3
      · exact q2.no
    · exact q2.no
  · have hi' : i = xs.length := by omega
    subst hi'
    rw [List.drop_length] at q2
    unfold forL at q2
    split at q2
    · rename_i hw
      exact .inl ⟨wk.stop μ2 st2 H2 x2 R2 hw, q2.next R2 (e2.wipe1 tmp)⟩
    · exact q2.no
theorem w_for {tg iter : Expr} {body : List Stmt} {t : Tg} {ms : Env → AS → Res (List D × Option (Nat × List D))} {tmp : List Nat} {mb : Env → AS → RS} {pos : Pos} (hp : PassesOwn (model X.prog X.w) X.A X.env X.xe) (hc : X.calm = true) (hi : PI X tg iter (tI G W ms)) (hg : PG X tg (gT G.K t)) (hb : PSs X body (tS G W mb))
    (hs : ∀ x, foldedSetIterable iter X.env x = pure x) : PS X (.For tg iter body [] pos) (tS G W fun env st => (ms env st).stm env fun xs st => forL xs.2 (assign t) tmp mb xs.1 env st) := (ps_for hp hc hi hg hb hs).imp fun E σ H h => for_ok h
theorem w_while {c : Expr} {body : List Stmt} {mt : Env → AS → Res Bool} {tmp : List Nat} {mb : Env → AS → RS} {k : Nat} {pos : Pos} (hp : PassesOwn (model X.prog X.w) X.A X.env X.xe) (hc : PT X c (tT G W mt)) (hb : PSs X body (tS G W mb)) :
    PS X (.While c body [] pos) (tS G W fun env st => whileL mt tmp mb k env st) := by
  refine (ps_while hp hc hb).imp fun E σ H h => ?_
  obtain ⟨μ, env, st, R, e, p⟩ := h
  refine ⟨fun m σ' H' => ∃ μ2 env2 st2, Rl G μ2 st2 H' ∧ ER G μ2 st2.length H' env2 σ' ∧ PostS G W E μ2 st2.length H' (whileL mt tmp mb m env2 st2), ⟨k, μ, env, st, R, e, p⟩, ?_⟩
  rintro m σ2 H2 ⟨μ2, env2, st2, R2, e2, q2⟩
  cases m with
  | zero => exact q2.no
  | succ m =>
    unfold whileL at q2
    refine tT_mono (tT_stm (k := fun env b st1 => if b = true then (match mb env st1 with
      | .next e s => whileL mt tmp mb m e s
      | .cont e s => whileL mt tmp mb m e s
      | .brk e s => .next (wipeE e tmp) s
      | r => r) else .next env st1) R2 (e2.wipe1 tmp) q2) fun b H3 ⟨μ3, st3, R3, e3, x3, q3⟩ => ?_
    cases b with
    | false =>
      rw [if_neg Bool.false_ne_true] at q3 ⊢
      exact q3.next R3 e3
    | true =>
      rw [if_pos rfl] at q3 ⊢
      refine ⟨fun σ' H' => ∃ μ2 env2 st2, Rl G μ2 st2 H' ∧ ER G μ2 st2.length H' env2 σ' ∧ PostS G W E μ2 st2.length H' (whileL mt tmp mb m env2 st2), fun σ' H' hn => ⟨m, Nat.lt_succ_self m, hn⟩, μ3, _, st3, R3, e3, ?_⟩
      generalize mb (wipeE env2 tmp) st3 = r at q3
      cases r with
      | next e s => exact fun μ' H' σ' nx rl er => ⟨μ', e, s, rl, er, PostS.trans nx q3⟩
      | cont e s => exact fun μ' H' σ' nx rl er => ⟨μ', e, s, rl, er, PostS.trans nx q3⟩
      | brk e s => exact fun μ' H' σ' nx rl er => q3 μ' H' σ' nx rl (er.wipe1 tmp)
      | ret d s => exact q3
      | exn c p e s => exact q3
      | bad => exact q3
end
end Ws
end
end

section
set_option Elab.async false
set_option linter.all false
set_option maxRecDepth 100000
set_option maxHeartbeats 4000000
/-! WsI: raise, garbage, the rule for a def. -/
noncomputable section
namespace Ws
open PySem PySem.Spec PyProof.Rows L2
/-! ### X() -/
theorem pmk_own0 {X : Cx} {C : Addr} {bmB : List Value} {B newId initId : String} {x : Str} {p pos : Pos} (F : ExcBaseFacts B newId initId bmB) (q : PySem.W.excIn X.K C bmB newId = true) (gC : X.mg x = some (.ref C)) (kC : PySem.W.keepIn X.K (.ref C) = true) (r : Raises X (.ref C)) (hg : Gl X x)
    (hdb : (x == ("__debug__" : Str)) = false) : PMk X (.Call (.Name x p) [] [] pos) (fun _ H Q => Q (.ref C) none H) := by
  intro pins s σ H Q I h
  refine wpAny_Call_Name_kw (ld_glob I hg gC ?_ hdb)
  refine PySem.W.callWith_K0 I.kIn kC ?_
  show wpAny _ _ (call (.ref C) []) _ _ _
  obtain ⟨bm, N, nm, qn, bs, hdct, sn, sub, ab, col, dd, k0, k1, k2, k3, k5, mN, hC, hN, hni, T⟩ := exc_obj I.kIn q
  refine wpAny_call_exc_subT F T hC hN hni (fun h' e hm => ?_) (Nat.zero_le _)
  exact mk_of I hm r h (I.hok.gone hm.new)
section
variable {G : Gam} {W : WX} {X : Cx}
theorem w_raise {e : Expr} {c : Nat} {pos : Pos} (hc : X.calm = true) (tk : Takes X W) (he : PMk X e (fun _ H Q => Q (.ref (G.xA c)) none H)) : PS X (.Raise (some e) none pos) (tS G W fun env st => .exn c .non env st) := by
  refine (ps_raise hc tk he).imp fun E σ H h => ?_
  obtain ⟨μ, env, st, R, e, p⟩ := h
  exact p μ none H σ Nx.refl R e trivial
end

/-! ### what is low -/
section
variable {G : Gam} {μ μ' : Nat → Addr} {n n' : Nat} {H H' : Hp}
mutual
theorem Rep.low : ∀ (d : D) (v : V), Rep G μ n H d v → d.lowB n = true
  | .non, _, _ => rfl
  | .bl _, _, _ => rfl
  | .int _, _, _ => rfl
  | .str _, _, _ => rfl
  | .tup ds, _, ⟨z, a, vs, e, t, r⟩ => Reps.low ds vs r
  | .ref l, _, ⟨h, e⟩ => decide_eq_true h
  | .clo _ _, _, h => h.elim
  | .kls ds, _, ⟨z, a, vs, e, t, r⟩ => Reps.low ds vs r
theorem Reps.low : ∀ (ds : List D) (vs : List V), Reps G μ n H ds vs → lowAll n ds = true
  | [], _, _ => rfl
  | d :: ds, _, ⟨v, r, e, h, t⟩ => by
    show (d.lowB n && lowAll n ds) = true
    rw [Rep.low d v h, Reps.low ds r t]; rfl
end
mutual
theorem Rep.cut (hμ : ∀ i, i < n' → μ' i = μ i) : ∀ (d : D) (v : V), d.lowB n' = true → Rep G μ n H d v → Rep G μ' n' H d v
  | .non, _, _, h => h
  | .bl _, _, _, h => h
  | .int _, _, _, h => h
  | .str _, _, _, h => h
  | .tup ds, _, l, ⟨z, a, vs, e, t, r⟩ => ⟨z, a, vs, e, t, Reps.cut hμ ds vs l r⟩
  | .ref l, _, lo, ⟨h, e⟩ => ⟨of_decide_eq_true lo, by rw [hμ l (of_decide_eq_true lo)]; exact e⟩
  | .clo _ _, _, _, h => h.elim
  | .kls ds, _, l, ⟨z, a, vs, e, t, r⟩ => ⟨z, a, vs, e, t, Reps.cut hμ ds vs l r⟩
theorem Reps.cut (hμ : ∀ i, i < n' → μ' i = μ i) : ∀ (ds : List D) (vs : List V), lowAll n' ds = true → Reps G μ n H ds vs → Reps G μ' n' H ds vs
  | [], _, _, h => h
  | d :: ds, _, l, ⟨v, r, e, h, t⟩ => by
    have l' : (d.lowB n' && lowAll n' ds) = true := l
    rw [Bool.and_eq_true] at l'
    exact ⟨v, r, e, Rep.cut hμ d v l'.1 h, Reps.cut hμ ds r l'.2 t⟩
end
mutual
theorem refless_low : ∀ (d : D), d.refless = true → d.lowB n = true
  | .non, _ => rfl
  | .bl _, _ => rfl
  | .int _, _ => rfl
  | .str _, _ => rfl
  | .tup ds, h => reflessAll_low ds h
  | .ref _, h => by cases h
  | .clo _ _, h => by cases h
  | .kls _, h => by cases h
theorem reflessAll_low : ∀ (ds : List D), reflessAll ds = true → lowAll n ds = true
  | [], _ => rfl
  | d :: ds, h => by
    have h' : (d.refless && reflessAll ds) = true := h
    rw [Bool.and_eq_true] at h'
    show (d.lowB n && lowAll n ds) = true
    rw [refless_low d h'.1, reflessAll_low ds h'.2]; rfl
end
theorem KReps.low : ∀ {ds : List (Key × D)} {vs : List (Key × V)}, KReps G μ n H ds vs → lowAll n (ds.map (·.2)) = true
  | [], _, _ => rfl
  | p :: ds, _, ⟨v, r, e, h, t⟩ => by
    show (p.2.lowB n && lowAll n (ds.map (·.2))) = true
    rw [Rep.low p.2 v h, KReps.low t]; rfl
theorem FReps.low : ∀ {ds : List (Str × D)} {vs : List (Str × V)}, FReps G μ n H ds vs → lowAll n (ds.map (·.2)) = true
  | [], _, _ => rfl
  | p :: ds, _, ⟨v, r, e, h, t⟩ => by
    show (p.2.lowB n && lowAll n (ds.map (·.2))) = true
    rw [Rep.low p.2 v h, FReps.low t]; rfl
theorem KReps.cut (hμ : ∀ i, i < n' → μ' i = μ i) : ∀ {ds : List (Key × D)} {vs : List (Key × V)}, lowAll n' (ds.map (·.2)) = true → KReps G μ n H ds vs → KReps G μ' n' H ds vs
  | [], _, _, h => h
  | p :: ds, _, l, ⟨v, r, e, h, t⟩ => by
    have l' : (p.2.lowB n' && lowAll n' (ds.map (·.2))) = true := l
    rw [Bool.and_eq_true] at l'
    exact ⟨v, r, e, Rep.cut hμ _ v l'.1 h, KReps.cut hμ l'.2 t⟩
theorem FReps.cut (hμ : ∀ i, i < n' → μ' i = μ i) : ∀ {ds : List (Str × D)} {vs : List (Str × V)}, lowAll n' (ds.map (·.2)) = true → FReps G μ n H ds vs → FReps G μ' n' H ds vs
  | [], _, _, h => h
  | p :: ds, _, l, ⟨v, r, e, h, t⟩ => by
    have l' : (p.2.lowB n' && lowAll n' (ds.map (·.2))) = true := l
    rw [Bool.and_eq_true] at l'
    exact ⟨v, r, e, Rep.cut hμ _ v l'.1 h, FReps.cut hμ l'.2 t⟩
theorem RepO.low {o : O} {a : Addr} (h : RepO G μ n H o a) : o.lowB n = true := by
  cases o with
  | lst ds => obtain ⟨z, vs, q, r⟩ := h; exact Reps.low _ _ r
  | dic kvs lock =>
    cases lock with
    | false => obtain ⟨z, vs, q, r⟩ := h; exact r.low
    | true => obtain ⟨z, ob, vs, q, r⟩ := h; exact r.low
  | ins C fs => obtain ⟨k1, k2, dx, vs, q, r⟩ := h; exact r.low
  | iset xs => rfl
  | frz ds => obtain ⟨z, ob, vs, q, r⟩ := h; exact Reps.low _ _ r
theorem RepO.cut (hμ : ∀ i, i < n' → μ' i = μ i) {o : O} {a : Addr} (l : o.lowB n' = true) (h : RepO G μ n H o a) : RepO G μ' n' H o a := by
  cases o with
  | lst ds => obtain ⟨z, vs, q, r⟩ := h; exact ⟨z, vs, q, Reps.cut hμ _ _ l r⟩
  | dic kvs lock =>
    cases lock with
    | false => obtain ⟨z, vs, q, r⟩ := h; exact ⟨z, vs, q, r.cut hμ l⟩
    | true => obtain ⟨z, ob, vs, q, r⟩ := h; exact ⟨z, ob, vs, q, r.cut hμ l⟩
  | ins C fs => obtain ⟨k1, k2, dx, vs, q, r⟩ := h; exact ⟨k1, k2, dx, vs, q, r.cut hμ l⟩
  | iset xs => exact h
  | frz ds => obtain ⟨z, ob, vs, q, r⟩ := h; exact ⟨z, ob, vs, q, Reps.cut hμ _ _ l r⟩
end
/-! ### garbage -/
section
variable {G : Gam} {W : WX} {σ : L2.St} {μ μ' : Nat → Addr} {st st' : AS} {H H' : Hp} {Q : VK}
theorem Nx.cut (x : Nx μ st.length H μ' st'.length H') : Nx μ st.length H μ' (st'.take st.length).length H' := by
  have e : (st'.take st.length).length = st.length := by rw [List.length_take]; exact Nat.min_eq_left x.le
  rw [e]
  exact ⟨⟨Nat.le_refl _, x.ext, x.tup⟩, x.frm, fun i h1 h2 => absurd (Nat.lt_of_lt_of_le h2 h1) (Nat.lt_irrefl _), x.keep⟩
theorem Rl.cut (R : Rl G μ st H) (x : Nx μ st.length H μ' st'.length H') (R' : Rl G μ' st' H') (g : GcOk st st') : Rl G μ' (st'.take st.length) H' := by
  have e : (st'.take st.length).length = st.length := by rw [List.length_take]; exact Nat.min_eq_left x.le
  refine ⟨fun i j hi hj => ?_, fun i o h => ?_⟩
  · rw [e] at hi hj
    exact R'.inj i j (Nat.lt_of_lt_of_le hi x.le) (Nat.lt_of_lt_of_le hj x.le)
  · have hi := (List.getElem?_eq_some_iff.mp h).1
    rw [e] at hi ⊢
    rw [List.getElem?_take_of_lt hi] at h
    have q := R'.obj i o h
    refine q.cut (fun _ _ => rfl) ?_
    rcases g i hi with k | ⟨u, k, l⟩
    · rw [h] at k
      exact (R.obj i o k.symm).low
    · rw [h] at k
      cases k
      exact l
theorem gc_ok {r : Res D} (R : Rl G μ st H) (p : PostR G W σ μ st.length H (PV G Q) (gcR st r)) : PostR G W σ μ st.length H (PV G Q) r := by
  classical
  cases r with
  | ok d st' =>
    unfold gcR at p
    dsimp only at p
    split at p
    · rename_i g
      have cut1 : ∀ μ' H', Nx μ st.length H μ' st'.length H' → (st'.take st.length).length = st.length := fun μ' H' x => by rw [List.length_take]; exact Nat.min_eq_left x.le
      split at p
      · rename_i hd
        intro μ' H' x R' v rv
        refine p μ' H' x.cut (R.cut x R' g) v ?_
        exact Rep.cut (fun _ _ => rfl) d v (refless_low d hd) rv
      · cases d with
        | ref r =>
          dsimp only at p
          split at p
          · rename_i hr
            split at p
            · rename_i o ho
              split at p
              · rename_i hf
                intro μ' H' x R' v rv
                obtain ⟨hl, rfl⟩ := rv
                have el := cut1 μ' H' x
                have Rc := R.cut x R' g
                have hne : ∀ i, i < (st'.take st.length).length → μ' i ≠ μ' r := fun i hi e => by
                  rw [el] at hi
                  have := R'.inj i r (Nat.lt_of_lt_of_le hi x.le) hl e
                  omega
                have hlow : ∀ k, o.lowB k = true := fun k => by
                  cases o with
                  | lst xs => exact reflessAll_low xs hf
                  | _ => cases hf
                have R2 : Rl G (extM μ' (st'.take st.length).length (μ' r)) (st'.take st.length ++ [o]) H' := by
                  refine Rc.adopt hne ?_
                  have q := R'.obj r o ho
                  cases o with
                  | lst xs =>
                    obtain ⟨z, vs, q1, q2⟩ := q
                    refine ⟨z, vs, q1, ?_⟩
                    have q3 : Reps G μ' 0 H' xs vs := Reps.cut (fun _ _ => rfl) _ _ (reflessAll_low xs hf) q2
                    exact Reps.mono ⟨Nat.zero_le _, fun i hi => absurd hi (Nat.not_lt_zero i), fun _ _ h => h⟩ _ _ q3
                  | _ => cases hf
                rw [el] at R2
                refine p _ H' ?_ R2 _ ⟨by rw [List.length_append, el]; simp, by rw [extM_at]⟩
                rw [List.length_append, List.length_singleton, el]
                refine ⟨⟨Nat.le_succ _, fun i hi => by rw [extM_lt hi]; exact x.ext i hi, x.tup⟩, x.frm, fun i h1 h2 => ?_, x.keep⟩
                have ei : i = st.length := by omega
                rw [ei, extM_at]
                exact x.new r hr hl
              · exact p
            · exact p
          · exact p
        | _ => exact p
    · exact p
  | exn c q st' =>
    unfold gcR at p
    dsimp only at p
    split at p
    · rename_i g
      split at p
      · rename_i hq
        intro μ' dx H' x R' py
        refine p μ' dx H' x.cut (R.cut x R' g) ?_
        cases q with
        | non => trivial
        | bl b => obtain ⟨d, v, h1, h2, h3⟩ := py; exact ⟨d, v, h1, h2, h3⟩
        | int b => obtain ⟨d, v, h1, h2, h3⟩ := py; exact ⟨d, v, h1, h2, h3⟩
        | str b => obtain ⟨d, v, h1, h2, h3⟩ := py; exact ⟨d, v, h1, h2, h3⟩
        | tup ds => obtain ⟨d, v, h1, h2, h3⟩ := py; exact ⟨d, v, h1, h2, Rep.cut (fun _ _ => rfl) _ v (refless_low _ hq) h3⟩
        | ref l => cases hq
        | clo f cs => cases hq
        | kls _ => cases hq
      · exact p
    · exact p
  | bad => exact p
end

/-! ### the rule for a def -/
theorem Reps.entry {G : Gam} {μ : Nat → Addr} {n : Nat} {H : Hp} {ds : List D} {vs : List V} {N : List Str} {ns : Nat} (h : Reps G μ n H ds vs) (e : ns = N.length) : ER G μ n H (startE ns ds) (L2.start N vs) := by
  subst e
  have hl := h.length
  refine ⟨by unfold startE L2.start; rw [List.length_append, List.length_append, List.length_map, List.length_map, List.length_replicate, List.length_replicate, hl], fun i d hi => ?_⟩
  unfold startE at hi
  unfold L2.start
  by_cases hlt : i < ds.length
  · rw [List.getElem?_append_left (by simpa using hlt), List.getElem?_map, Option.map_eq_some_iff] at hi
    obtain ⟨a, h1, h2⟩ := hi
    cases h2
    obtain ⟨v, h3, h4⟩ := h.get h1
    exact ⟨v, by rw [List.getElem?_append_left (by simpa using (hl ▸ hlt)), List.getElem?_map, h3]; rfl, h4⟩
  · rw [List.getElem?_append_right (by simpa using hlt), List.getElem?_replicate] at hi
    split at hi <;> cases hi
theorem res_ok {G : Gam} {μ : Nat → Addr} {n : Nat} {H : Hp} {Q : VK} {E : XK} {σ : L2.St} {r : RS} (p : PostR G (fun c d _ H => E c d H) σ μ n H (PV G Q) r.res) :
    PostS G (fun c d _ H => E c d H) { nx := fun _ H' => Q .non H', rt := Q } μ n H r := by
  cases r with
  | next env st => exact fun μ' H' σ' nx rl er => p μ' H' nx rl _ rfl
  | ret d st => exact fun μ' H' v nx rl rv => p μ' H' nx rl v rv
  | brk env st => exact p.elim
  | cont env st => exact p.elim
  | exn c q env st => exact fun μ' dx H' σ' nx rl er py => p μ' dx H' nx rl py
  | bad => exact p
theorem fn_rule {G : Gam} {base : Heap} {Pg : Program} {P : Nat → Option FDef} {n k f : Nat} {x qual : Str} {st : Stmt} {N : List Str} {fd : FDef} (F : Fun G.K x qual st (G.fA f) (G.fD f)) (S : FnScope N (G.fP f) (defScope st))
    (hP : P f = some fd) (np : fd.np = (G.fP f).length) (ns : fd.ns = N.length)
    (hbody : ∀ (cdv : Value) (A : Around) (outer : List PySem.Env) (s : Shared) (H : Hp) (E : XK), Room k (A.deeper (envOfC qual (defScope st) s.heap.objs.size (G.fA f) cdv)) →
      PSs (cxOf (L2.CX Pg G.w) Pg G.w G.K G.mg base N qual (defScope st) (G.fA f) cdv A outer s H E) (defBody st) (tS G (fun c d _ H => E c d H) fun env st => exSs (callF P n) fd.body env st)) :
    FnOk Pg G.w G.K G.mg base (L2.CX Pg G.w) (k + 1) (G.fA f) (G.fD f) (G.fP f) (spI G (callF P (n + 1)) f) := by
  refine Fun.okX F S (fun vs H Q E h => h.1) fun cdv A outer s H vs Q E hr hsp => ⟨_, hbody cdv A outer s H E hr, ?_⟩
  obtain ⟨hl, μ, st0, ds, R, rs, p⟩ := hsp
  refine ⟨μ, startE fd.ns ds, st0, R, rs.entry ns, ?_⟩
  unfold callF at p
  rw [hP] at p
  dsimp only at p
  rw [if_pos (by rw [np, rs.length, hl])] at p
  exact res_ok (gc_ok R p)
end Ws
end
end

section
set_option Elab.async false
set_option linter.all false
set_option maxRecDepth 100000
set_option maxHeartbeats 4000000
/-! WsX: instances: fields, methods, making; methods of built-in types; dict displays. -/
noncomputable section
namespace Ws
open PySem PySem.Spec PyProof.Rows L2
/-! ### method calls -/
def notCallE : Expr → Bool
  | .Call _ _ _ _ => false
  | _ => true
theorem attrBase_ok {o : Expr} {m : Str} {env : PySem.Env} {w : Sem Value} (h : notCallE o = true) : attributeBase o m env w = w := by
  cases o <;> first | rfl | cases h
theorem meth_form {o : Expr} {m : Str} {apos pos : Pos} {args : List Expr} {env : PySem.Env} (h1 : notCallE o = true) (h2 : methodCallForm (args.length + ([] : List Keyword).length) (backTo pos (starEach args env)) (backToKw pos (keywordEach [] env)) = true) (h4 : (apos.endLine == pos.line) = true) :
    eval (.Call (.Attribute o m apos) args [] pos) env = (do
      let ov ← eval o env
      standAt apos.atName
      let (f, first) ← holding [ov] (getMethod ov m (do return (← importBound o env).getD true))
      callWith pos f first (backTo pos (starEach args env)) (backToKw pos (keywordEach [] env))) := by
  rw [arm_eval_Call, attrBase_ok h1]
  unfold methodCall
  rw [h2]
  have hp : methodCallPos true o env apos pos = pure pos := by
    unfold methodCallPos
    rw [if_pos]
    simp [h4]
  rw [hp]
  simp only [pure_bind]
  rfl
theorem form_ok {n : Nat} {pos : Pos} {env : PySem.Env} : ∀ {args : List Expr}, (backTo pos (starEach args env)).any (·.1) = false → n + 0 < 30 → methodCallForm n (backTo pos (starEach args env)) (backToKw pos (keywordEach [] env)) = true := by
  intro args h hn
  unfold methodCallForm
  have e : (backTo pos (starEach args env)).all (fun x => !x.1) = true := by
    rw [List.all_eq_true]
    intro x hx
    have := List.any_eq_false.mp h x hx
    simpa using this
  rw [e]
  have e2 : backToKw pos (keywordEach [] env) = [] := rfl
  rw [e2]
  simp
  omega
section
variable {X : Cx} {CX : CXT} {k : Nat} {C f : Addr} {fd : FuncData} {ps : List Str} {sp : Sp} {E : L2.St → XK} {x m : Str} {p pos apos : Pos} {e o : Expr} {es : List Expr} {ta : TE} {t : TA} {pl : Sem Bool}
def tMethE (C : Addr) (m : Str) (sp : Sp) (E : L2.St → XK) (ta : TE) (t : TA) : TE := fun σ H Q => ta σ H fun x H1 => ∃ a dx fs, x = .ref a ∧ H1 a = some (.ins C dx fs) ∧ fs.lookup m = none ∧ t σ H1 fun vs H2 => sp (x :: vs) H2 Q (E σ)
theorem pe_methE (he : PE X o ta) (c : Cls X.K C) (hm : Meth X.K C m f) (F : FnOk X.prog X.w X.K X.mg X.base CX k f fd ps sp) (hr : Room k X.A) (hb : Binds X.K fd ps []) (hx : ∀ σ, PassesAt CX X σ (E σ)) (ha : PA X (e :: es) t)
    (hst : starEach (e :: es) X.env = (false, eval e X.env) :: starEach es X.env) (hpl : (backTo pos (starEach es X.env)).any (·.1) = false)
    (ht : eval (.Call (.Attribute o m apos) (e :: es) [] pos) X.env = (do
      let ov ← eval o X.env
      standAt apos.atName
      let (f, first) ← holding [ov] (getMethod ov m pl)
      callWith pos f first (backTo pos (starEach (e :: es) X.env)) (backToKw pos (keywordEach [] X.env)))) :
    PE X (.Call (.Attribute o m apos) (e :: es) [] pos) (tMethE C m sp E ta t) := by
  constructor
  intro pins s σ H Q I h
  apply PySem.W.methodCall_KW (pl := pl) _ ht
  apply thn (he.run pins s σ H _ I h)
  rintro u s1 ⟨x, H1, I1, rx, a, dx, fs, ex, ea, l, q⟩
  subst ex
  obtain rfl : u = Value.ref a := rx
  apply getmeth_ok I1 ea c hm l
  apply PySem.W.callWith_K (first := [.ref a]) (h₀ := X.base) I.ok.mod.kin hm.kp _ hst hpl
  apply thn (ha.run pos pins s1 σ H1 _ I1 q)
  rintro us s2 ⟨vs, H2, I2, r, q2⟩
  exact ⟨I2.kIn, run_fnS (us := .ref a :: us) (vs := .ref a :: vs) F hr hb (hx σ) I2 (.cons rfl r) q2⟩
theorem pe_methE0 (he : PE X o ta) (c : Cls X.K C) (hm : Meth X.K C m f) (F : FnOk X.prog X.w X.K X.mg X.base CX k f fd ps sp) (hr : Room k X.A) (hb : Binds X.K fd ps []) (hx : ∀ σ, PassesAt CX X σ (E σ))
    (ht : eval (.Call (.Attribute o m apos) [] [] pos) X.env = (do
      let ov ← eval o X.env
      standAt apos.atName
      let (f, first) ← holding [ov] (getMethod ov m pl)
      callWith pos f first (backTo pos (starEach [] X.env)) (backToKw pos (keywordEach [] X.env)))) :
    PE X (.Call (.Attribute o m apos) [] [] pos) (tMethE C m sp E ta tNil) := by
  constructor
  intro pins s σ H Q I h
  apply PySem.W.methodCall_KW (pl := pl) _ ht
  apply thn (he.run pins s σ H _ I h)
  rintro u s1 ⟨x, H1, I1, rx, a, dx, fs, ex, ea, l, q⟩
  subst ex
  obtain rfl : u = Value.ref a := rx
  apply getmeth_ok I1 ea c hm l
  exact PySem.W.callWith_K0 (first := [.ref a]) I1.kIn hm.kp (run_fnS (us := [.ref a]) (vs := [.ref a]) F hr hb (hx σ) I1 (.cons rfl .nil) q)
/-! ### making -/
def tMakeE (C : Addr) (sp : Sp) (E : L2.St → XK) (t : TA) : TE := fun σ H Q => t σ H fun vs H1 => ∀ x dx, H1 x = none → H1 dx = none → dx ≠ x → sp (.ref x :: vs) (upd (upd H1 dx (.own x)) x (.ins C dx [])) (fun v H2 => v = .non ∧ Q (.ref x) H2) (E σ)
theorem run_makeE {pins : List (Addr × Obj)} {σ : L2.St} {H : Hp} {s : Shared} {Q : VK} {us : List Value} {vs : List V} (M : Mk X.K C f) (F : FnOk X.prog X.w X.K X.mg X.base CX k f fd ps sp) (hr : Room (k + 1) X.A) (hb : Binds X.K fd ps [])
    (hx : PassesAt CX X σ (E σ)) (I : Inv X pins σ H s) (r : Vals vs us)
    (h : ∀ x dx, H x = none → H dx = none → dx ≠ x → sp (.ref x :: vs) (upd (upd H dx (.own x)) x (.ins C dx [])) (fun v H2 => v = .non ∧ Q (.ref x) H2) (E σ)) :
    wpAny (model X.prog X.w) X.A (call (.ref C) us) (EP X pins σ Q) X.xe s := by
  have hq := h (s.heap.objs.size + 1) s.heap.objs.size (I.hok.fresh (Nat.le_succ _)) (I.hok.fresh (Nat.le_refl _)) (Nat.ne_of_lt (Nat.lt_succ_self _))
  have I2 := Inv.made (C := C) I
  have r2 : Vals (V.ref (s.heap.objs.size + 1) :: vs) (Value.ref (s.heap.objs.size + 1) :: us) := .cons rfl r
  have hl : (Value.ref (s.heap.objs.size + 1) :: us).length = ps.length := by
    have z := r2.length
    rw [F.len _ _ _ _ hq] at z
    exact z.symm
  have b := hb _ (Value.ref (s.heap.objs.size + 1) :: us) I2.kIn (by rw [List.append_nil]; exact hl)
  rw [List.append_nil] at b
  have go := F.run _ X.stack _ _ ⟨Value.ref (s.heap.objs.size + 1) :: us, []⟩ (Value.ref (s.heap.objs.size + 1) :: us) _ _ (E σ) (hr.make C us []) (I2.env0.make C us []) b r2 hq
  apply wpAny_call
  apply make_map (f := f) I.kIn M.makes M.init (beq_iff_eq.mp M.fn)
  apply codeAny_mono go
  intro r s' hq'
  match r with
  | .error z => exact hx pins _ _ z s' I2 hq'
  | .ok (.ret u) =>
    obtain ⟨v, H', I3, rv, ev, q3⟩ := I2.after hq'
    subst ev
    exact ⟨rv, ⟨V.ref (s.heap.objs.size + 1), H', I3, rfl, q3⟩⟩
  | .ok .next => exact False.elim hq'
  | .ok .brk => exact False.elim hq'
  | .ok .cont => exact False.elim hq'
theorem pe_makeE (M : Mk X.K C f) (F : FnOk X.prog X.w X.K X.mg X.base CX k f fd ps sp) (hr : Room (k + 1) X.A) (hg : Gl X x) (hm : X.mg x = some (.ref C)) (hb : Binds X.K fd ps []) (hx : ∀ σ, PassesAt CX X σ (E σ))
    (ha : PA X (e :: es) t) (hdb : (x == ("__debug__" : Str)) = false) (hst : starEach (e :: es) X.env = (false, eval e X.env) :: starEach es X.env) (hpl : (backTo pos (starEach es X.env)).any (·.1) = false) :
    PE X (.Call (.Name x p) (e :: es) [] pos) (tMakeE C sp E t) := by
  constructor
  intro pins s σ H Q I h
  apply wpAny_Call_Name_kw
  apply ld_glob I hg hm _ hdb
  apply PySem.W.callWith_K (h₀ := X.base) I.ok.mod.kin M.kp _ hst hpl
  apply thn (ha.run pos pins s σ H _ I h)
  rintro us s1 ⟨vs, H1, I1, r, q⟩
  exact ⟨I1.kIn, run_makeE M F hr hb (hx σ) I1 r q⟩
end

/-! ### fields -/
section
variable {G : Gam} {μ : Nat → Addr} {n : Nat} {H : Hp}
theorem FReps.look {x : Str} {d : D} : ∀ {fs : List (Str × D)} {vs : List (Str × V)}, FReps G μ n H fs vs → fs.lookup x = some d → ∃ v, vs.lookup x = some v ∧ Rep G μ n H d v
  | [], _, h, e => by cases e
  | (f, y) :: fs, _, ⟨v, r, e, h, t⟩, q => by
    subst e
    by_cases hx : x = f
    · subst hx
      simp [List.lookup] at q
      subst q
      exact ⟨v, by simp [List.lookup], h⟩
    · have hb : (x == f) = false := by simpa using hx
      simp only [List.lookup, hb] at q
      obtain ⟨w, h1, h2⟩ := FReps.look t q
      exact ⟨w, by simp only [List.lookup, hb]; exact h1, h2⟩
theorem FReps.out {x : Str} : ∀ {fs : List (Str × D)} {vs : List (Str × V)}, FReps G μ n H fs vs → (∀ p ∈ fs, p.1 ≠ x) → vs.lookup x = none
  | [], _, h, _ => by
    have e : _ = [] := h
    subst e; rfl
  | (f, y) :: fs, _, ⟨v, r, e, h, t⟩, q => by
    subst e
    have hb : (x == f) = false := by simpa using Ne.symm (q (f, y) List.mem_cons_self)
    simp only [List.lookup, hb]
    exact FReps.out t fun p hp => q p (List.mem_cons_of_mem _ hp)
theorem FReps.length : ∀ {fs : List (Str × D)} {vs : List (Str × V)}, FReps G μ n H fs vs → fs.length = vs.length
  | [], _, h => by
    have e : _ = [] := h
    subst e; rfl
  | _ :: fs, _, ⟨v, r, e, h, t⟩ => by subst e; rw [List.length_cons, List.length_cons, FReps.length t]
theorem FReps.put {x : Str} {d : D} {w : V} (q : Rep G μ n H d w) : ∀ {fs : List (Str × D)} {vs : List (Str × V)}, FReps G μ n H fs vs → FReps G μ n H (putF x d fs) (L2.putF x w vs)
  | [], _, h => by
    have e : _ = [] := h
    subst e
    exact ⟨w, [], rfl, q, rfl⟩
  | (f, y) :: fs, _, ⟨v, r, e, h, t⟩ => by
    subst e
    unfold putF L2.putF
    by_cases hf : f = x
    · rw [if_pos hf, if_pos hf]
      exact ⟨w, r, rfl, q, t⟩
    · rw [if_neg hf, if_neg hf]
      exact ⟨v, _, rfl, h, FReps.put q t⟩
theorem putF_mem {x : Str} {d : D} {S : List Str} (hx : x ∈ S) : ∀ {fs : List (Str × D)}, (∀ p ∈ fs, p.1 ∈ S) → ∀ p ∈ putF x d fs, p.1 ∈ S
  | [], _, p, hp => by
    simp only [putF, List.mem_singleton] at hp
    subst hp
    exact hx
  | (f, y) :: fs, h, p, hp => by
    unfold putF at hp
    split at hp
    · rcases List.mem_cons.mp hp with rfl | hp
      · exact h (f, y) List.mem_cons_self
      · exact h p (List.mem_cons_of_mem _ hp)
    · rcases List.mem_cons.mp hp with rfl | hp
      · exact h (f, y) List.mem_cons_self
      · exact putF_mem hx (fun p hp => h p (List.mem_cons_of_mem _ hp)) p hp
theorem putF_len (x : Str) (d : D) : ∀ (fs : List (Str × D)), (putF x d fs).length ≤ fs.length + 1
  | [] => Nat.le_refl _
  | (f, y) :: fs => by
    unfold putF
    split
    · exact Nat.le_succ _
    · have := putF_len x d fs
      simp only [List.length_cons]
      omega
end
section
variable {G : Gam} {W : WX} {X : Cx}
theorem Rl.ins {μ : Nat → Addr} {st : AS} {H : Hp} {l C : Nat} {fs : List (Str × D)} (R : Rl G μ st H) (e : st[l]? = some (.ins C fs)) : (∀ p ∈ fs, p.1 ∈ FLDS) ∧ fs.length ≤ 100 ∧ ∃ dx fs', H (μ l) = some (.ins (G.cA C) dx fs') ∧ FReps G μ st.length H fs fs' := R.obj l _ e
theorem w_fld {x : Str} {o : Expr} {m : MV} {pos : Pos} (hK : X.K = G.K) (hc : ∀ C, Cls G.K (G.cA C)) (hn : ∀ C, NoAttr G.K (G.cA C) x) (h : PE X o (tV G W m)) (hb : attributeBase o x X.env (eval o X.env) = eval o X.env) :
    PE X (.Attribute o x pos) (tV G W fun env st => (m env st).bind fun d st => ofD st (fldD st x d)) := by
  refine (pe_fld h hb).imp fun σ H Q h => ?_
  obtain ⟨μ, env, st, R, e, p⟩ := h
  refine tV_mono (tV_bind (k := fun _ d st => ofD st (fldD st x d)) R e p) fun v H1 ⟨μ1, st1, d, R1, e1, x1, r1, q1⟩ => ?_
  obtain ⟨y, ey, qy⟩ := ofD_ok R1 q1
  cases d with
  | ref l =>
    obtain ⟨hl, rfl⟩ := r1
    simp only [fldD] at ey
    split at ey
    · rename_i C fs hx
      obtain ⟨k1, k2, dx, fs', h1, h2⟩ := R1.ins hx
      obtain ⟨w, h3, h4⟩ := h2.look ey
      rw [hK]
      exact ⟨_, _, dx, fs', w, rfl, h1, hc C, hn C, h3, qy w h4⟩
    · cases ey
  | _ => cases ey
theorem w_setFld {x : Str} {o e : Expr} {mo me : MV} {tpos pos : Pos} (hK : X.K = G.K) (hc : ∀ C, Cls G.K (G.cA C)) (hn : ∀ C, NoAttr G.K (G.cA C) x) (hx : x ∈ FLDS) (ho : PE X o (tV G W mo)) (he : PE X e (tV G W me)) (hs : swapsWith e (some (.Attribute o x tpos)) pos.line X.env = pure false) :
    PS X (.Assign [.Attribute o x tpos] e pos) (tS G W fun env st => (me env st).stm env fun v st => (mo env st).stm env fun d st => match d with
      | .ref l => match st[l]? with
        | some (.ins C fs) => if fs.length < 100 then .next env (st.set l (.ins C (putF x v fs))) else .bad
        | _ => .bad
      | _ => .bad) := by
  refine (ps_fld ho he hs).imp fun E σ H h => ?_
  obtain ⟨μ, env, st, R, e, p⟩ := h
  refine tV_mono (tV_stm (k := fun env v st => (mo env st).stm env fun d st => match d with
      | .ref l => match st[l]? with
        | some (.ins C fs) => if fs.length < 100 then .next env (st.set l (.ins C (putF x v fs))) else .bad
        | _ => .bad
      | _ => .bad) R e p) fun v H1 ⟨μ1, st1, z, R1, e1, x1, r1, q1⟩ => ?_
  refine tV_mono (tV_stm (k := fun env d st => match d with
      | .ref l => match st[l]? with
        | some (.ins C fs) => if fs.length < 100 then .next env (st.set l (.ins C (putF x z fs))) else .bad
        | _ => .bad
      | _ => .bad) R1 e1 q1) fun u H2 ⟨μ2, st2, y, R2, e2, x2, r2, q2⟩ => ?_
  cases y with
  | ref l =>
    obtain ⟨hl, rfl⟩ := r2
    dsimp only at q2
    split at q2
    · rename_i C fs hx2
      split at q2
      · rename_i hlt
        obtain ⟨k1, k2, dx, fs', h1, h2⟩ := R2.ins hx2
        have nx := nx_write R2 (ho := .ins (G.cA C) dx (L2.putF x v fs')) hl (k := (st2.set l (.ins C (putF x z fs))).length) (by simp)
        have R3 : Rl G μ2 (st2.set l (.ins C (putF x z fs))) (upd H2 (μ2 l) (.ins (G.cA C) dx (L2.putF x v fs'))) := R2.write hl ⟨putF_mem hx k1, by have := putF_len x z fs; omega, dx, _, upd_same, by
          have q := FReps.mono nx.toNx0 (h2.put (x := x) (Rep.mono x2.toNx0 _ _ r1))
          rw [List.length_set] at q
          exact q⟩
        rw [hK]
        exact ⟨_, _, dx, fs', rfl, h1, hc C, hn C, by rw [← h2.length]; omega, q2 μ2 _ σ nx R3 (e2.mono nx.toNx0)⟩
      · exact q2.no
    · exact q2.no
  | _ => exact q2.no
/-! ### methods -/
theorem call_back {cl : Call} {f : Nat} {ds : List D} {σ : L2.St} {μ : Nat → Addr} {st : AS} {H : Hp} {Q : VK} (q : PostR G W σ μ st.length H (PV G Q) (cl f ds st)) : PostR G (fun c d _ H => WE W σ c d H) [] μ st.length H (PV G Q) (cl f ds st) := by
  cases hr : cl f ds st with
  | ok d s2 => rw [hr] at q; exact q
  | exn c d s2 => rw [hr] at q; exact q
  | bad => rw [hr] at q; exact q
section
variable {cl : Call} {f k C : Nat} {m : Str} {o e : Expr} {es : List Expr} {mo : MV} {ms : Env → AS → Res (List D)} {apos pos : Pos} {pl : Sem Bool}
theorem w_meth (hK : X.K = G.K) (c : Cls G.K (G.cA C)) (hm : Meth G.K (G.cA C) m (G.fA f)) (hmf : m ∉ FLDS) (F : FnOk X.prog X.w X.K X.mg X.base (L2.CX X.prog X.w) k (G.fA f) (G.fD f) (G.fP f) (spI G cl f)) (hr : Room k X.A)
    (hb : Binds X.K (G.fD f) (G.fP f) []) (tk : Takes X W) (ho : PE X o (tV G W mo)) (ha : PA X (e :: es) (tAs G W ms)) (hl : ∀ env st ds st', ms env st = .ok ds st' → ds.length + 1 = (G.fP f).length)
    (hst : starEach (e :: es) X.env = (false, eval e X.env) :: starEach es X.env) (hpl : (backTo pos (starEach es X.env)).any (·.1) = false)
    (ht : eval (.Call (.Attribute o m apos) (e :: es) [] pos) X.env = (do
      let ov ← eval o X.env
      standAt apos.atName
      let (f, first) ← holding [ov] (getMethod ov m pl)
      callWith pos f first (backTo pos (starEach (e :: es) X.env)) (backToKw pos (keywordEach [] X.env)))) :
    PE X (.Call (.Attribute o m apos) (e :: es) [] pos) (tV G W fun env st => (mo env st).bind fun x st => match x with
      | .ref l => match st[l]? with
        | some (.ins C' _) => if C' = C then (ms env st).bind fun ds st => cl f (.ref l :: ds) st else .bad
        | _ => .bad
      | _ => .bad) := by
  refine (pe_methE (E := WE W) ho (by rw [hK]; exact c) (by rw [hK]; exact hm) F hr hb (fun σ => passAt tk σ) ha hst hpl ht).imp fun σ H Q h => ?_
  obtain ⟨μ, env, st, R, e, p⟩ := h
  refine tV_mono (tV_bind (k := fun env x st => match x with
      | .ref l => match st[l]? with
        | some (.ins C' _) => if C' = C then (ms env st).bind fun ds st => cl f (.ref l :: ds) st else .bad
        | _ => .bad
      | _ => .bad) R e p) fun v H1 ⟨μ1, st1, x, R1, e1, x1, r1, q1⟩ => ?_
  cases x with
  | ref l =>
    obtain ⟨hlt, rfl⟩ := r1
    dsimp only at q1
    split at q1
    · rename_i C' fs hx
      split at q1
      · rename_i hC
        subst hC
        obtain ⟨k1, k2, dx, fs', h1, h2⟩ := R1.ins hx
        refine ⟨_, dx, fs', rfl, h1, h2.out fun p hp e => hmf (by rw [← e]; exact k1 p hp), ?_⟩
        have hz := hl env st1
        refine ⟨μ1, env, st1, R1, e1, ?_⟩
        cases hm2 : ms env st1 with
        | ok ds s1 =>
          rw [hm2] at q1
          have z := hz ds s1 hm2
          intro μ2 H2 x2 R2 vs rs
          have r0 : Rep G μ2 s1.length H2 (.ref l) (.ref (μ1 l)) := Rep.mono x2.toNx0 _ _ ⟨hlt, rfl⟩
          refine ⟨by rw [List.length_cons, ← rs.length]; exact z, μ2, s1, _, R2, Reps.cons r0 rs, ?_⟩
          exact call_back (PostR.trans x2 q1)
        | exn c d s1 => rw [hm2] at q1; exact q1
        | bad => rw [hm2] at q1; exact q1
      · exact PostR.no q1
    · exact PostR.no q1
  | _ => exact PostR.no q1
theorem w_meth0 (hK : X.K = G.K) (c : Cls G.K (G.cA C)) (hm : Meth G.K (G.cA C) m (G.fA f)) (hmf : m ∉ FLDS) (F : FnOk X.prog X.w X.K X.mg X.base (L2.CX X.prog X.w) k (G.fA f) (G.fD f) (G.fP f) (spI G cl f)) (hr : Room k X.A)
    (hb : Binds X.K (G.fD f) (G.fP f) []) (tk : Takes X W) (ho : PE X o (tV G W mo)) (hl : 1 = (G.fP f).length)
    (ht : eval (.Call (.Attribute o m apos) [] [] pos) X.env = (do
      let ov ← eval o X.env
      standAt apos.atName
      let (f, first) ← holding [ov] (getMethod ov m pl)
      callWith pos f first (backTo pos (starEach [] X.env)) (backToKw pos (keywordEach [] X.env)))) :
    PE X (.Call (.Attribute o m apos) [] [] pos) (tV G W fun env st => (mo env st).bind fun x st => match x with
      | .ref l => match st[l]? with
        | some (.ins C' _) => if C' = C then (Res.ok ([] : List D) st).bind fun ds st => cl f (.ref l :: ds) st else .bad
        | _ => .bad
      | _ => .bad) := by
  refine (pe_methE0 (E := WE W) ho (by rw [hK]; exact c) (by rw [hK]; exact hm) F hr hb (fun σ => passAt tk σ) ht).imp fun σ H Q h => ?_
  obtain ⟨μ, env, st, R, e, p⟩ := h
  refine tV_mono (tV_bind (k := fun env x st => match x with
      | .ref l => match st[l]? with
        | some (.ins C' _) => if C' = C then (Res.ok ([] : List D) st).bind fun ds st => cl f (.ref l :: ds) st else .bad
        | _ => .bad
      | _ => .bad) R e p) fun v H1 ⟨μ1, st1, x, R1, e1, x1, r1, q1⟩ => ?_
  cases x with
  | ref l =>
    obtain ⟨hlt, rfl⟩ := r1
    dsimp only at q1
    split at q1
    · rename_i C' fs hx
      split at q1
      · rename_i hC
        subst hC
        obtain ⟨k1, k2, dx, fs', h1, h2⟩ := R1.ins hx
        refine ⟨_, dx, fs', rfl, h1, h2.out fun p hp e => hmf (by rw [← e]; exact k1 p hp), ?_⟩
        exact ⟨hl, μ1, st1, [.ref l], R1, Reps.one (d := .ref l) ⟨hlt, rfl⟩, call_back q1⟩
      · exact PostR.no q1
    · exact PostR.no q1
  | _ => exact PostR.no q1
theorem w_make {x : Str} {p : Pos} (hK : X.K = G.K) (M : Mk G.K (G.cA C) (G.fA f)) (F : FnOk X.prog X.w X.K X.mg X.base (L2.CX X.prog X.w) k (G.fA f) (G.fD f) (G.fP f) (spI G cl f)) (hr : Room (k + 1) X.A) (hg : Gl X x) (hm : X.mg x = some (.ref (G.cA C)))
    (hb : Binds X.K (G.fD f) (G.fP f) []) (tk : Takes X W) (ha : PA X (e :: es) (tAs G W ms)) (hl : ∀ env st ds st', ms env st = .ok ds st' → ds.length + 1 = (G.fP f).length) (hdb : (x == ("__debug__" : Str)) = false)
    (hst : starEach (e :: es) X.env = (false, eval e X.env) :: starEach es X.env) (hpl : (backTo pos (starEach es X.env)).any (·.1) = false) :
    PE X (.Call (.Name x p) (e :: es) [] pos) (tV G W fun env st => (ms env st).bind fun ds st => (cl f (.ref st.length :: ds) (st ++ [.ins C []])).bind fun d st' => match d with
      | .non => .ok (.ref st.length) st'
      | _ => .bad) := by
  refine (pe_makeE (E := WE W) (by rw [hK]; exact M) F hr hg hm hb (fun σ => passAt tk σ) ha hdb hst hpl).imp fun σ H Q h => ?_
  obtain ⟨μ, env, st, R, e, p⟩ := h
  have hz := hl env st
  dsimp only at p
  refine ⟨μ, env, st, R, e, ?_⟩
  cases hm2 : ms env st with
  | ok ds s1 =>
    rw [hm2] at p
    have z := hz ds s1 hm2
    intro μ2 H2 x2 R2 vs rs x dx hx hdx hne
    have p2 := PostR.trans x2 p
    have nx1 : Nx μ2 s1.length H2 μ2 s1.length (upd H2 dx (.own x)) := nx_upd hdx
    have R3 : Rl G μ2 s1 (upd H2 dx (.own x)) := R2.side hdx
    have hx3 : upd H2 dx (.own x) x = none := by rw [upd_ne (Ne.symm hne)]; exact hx
    have nx2 := nx_new (μ := μ2) (st := s1) (o := .ins (G.cA C) dx []) (ob := .ins C []) hx3
    have R4 : Rl G (extM μ2 s1.length x) (s1 ++ [.ins C []]) (upd (upd H2 dx (.own x)) x (.ins (G.cA C) dx [])) := R3.new hx3 ⟨fun p hp => absurd hp (List.not_mem_nil), Nat.zero_le _, dx, [], upd_same, rfl⟩
    have nx := nx1.trans nx2
    refine ⟨by rw [List.length_cons, ← rs.length]; exact z, _, _, .ref s1.length :: ds, R4, Reps.cons ⟨by simp, by rw [extM_at]⟩ (Reps.mono nx.toNx0 _ _ rs), ?_⟩
    dsimp only [bind_ok] at p2
    cases hr : cl f (.ref s1.length :: ds) (s1 ++ [.ins C []]) with
    | ok d s2 =>
      rw [hr] at p2
      dsimp only [bind_ok] at p2
      intro μ5 H5 x5 R5 v rv
      cases d with
      | non =>
        refine ⟨rv, p2 μ5 H5 (nx.trans x5) R5 (.ref x) ⟨Nat.lt_of_lt_of_le (by simp) x5.le, ?_⟩⟩
        rw [x5.ext s1.length (by simp), extM_at]
      | _ => exact PostR.no p2
    | exn c d s2 =>
      rw [hr] at p2
      intro μ5 dx5 H5 x5 R5 py
      exact p2 μ5 dx5 H5 (nx.trans x5) R5 py
    | bad => rw [hr] at p2; exact PostR.no p2
  | exn c d s1 => rw [hm2] at p; exact p
  | bad => rw [hm2] at p; exact p
theorem w_prop {pr : Addr} (hK : X.K = G.K) (c : Cls G.K (G.cA C)) (hp : PropOf G.K (G.cA C) m pr (G.fA f)) (F : FnOk X.prog X.w X.K X.mg X.base (L2.CX X.prog X.w) k (G.fA f) (G.fD f) (G.fP f) (spI G cl f)) (hr : Room (k + 1) X.A)
    (hb : Binds X.K (G.fD f) (G.fP f) []) (ho : PE X o (tV G W mo)) (hl : 1 = (G.fP f).length) (hab : attributeBase o m X.env (eval o X.env) = eval o X.env) :
    PE X (.Attribute o m pos) (tV G W fun env st => (mo env st).bind fun x st => match x with
      | .ref l => match st[l]? with
        | some (.ins C' _) => if C' = C then noX (cl f [.ref l] st) else .bad
        | _ => .bad
      | _ => .bad) := by
  refine (pe_prop (E := fun _ _ _ => False) ho (by rw [hK]; exact c) (by rw [hK]; exact hp) F hr hb .nil (fun pins σ H s e s' I z => by
    obtain ⟨_, _, _, _, _, _, _, _, _, _, _, _, w⟩ := z
    exact w.elim) hab).imp fun σ H Q h => ?_
  obtain ⟨μ, env, st, R, e, p⟩ := h
  refine tV_mono (tV_bind (k := fun env x st => match x with
      | .ref l => match st[l]? with
        | some (.ins C' _) => if C' = C then noX (cl f [.ref l] st) else .bad
        | _ => .bad
      | _ => .bad) R e p) fun v H1 ⟨μ1, st1, x, R1, e1, x1, r1, q1⟩ => ?_
  cases x with
  | ref l =>
    obtain ⟨hlt, rfl⟩ := r1
    dsimp only at q1
    split at q1
    · rename_i C' fs hx
      split at q1
      · rename_i hC
        subst hC
        obtain ⟨k1, k2, dx, fs', h1, h2⟩ := R1.ins hx
        refine ⟨_, dx, fs', rfl, h1, hl, μ1, st1, [.ref l], R1, Reps.one (d := .ref l) ⟨hlt, rfl⟩, ?_⟩
        cases hc : cl f [.ref l] st1 with
        | ok d s2 => rw [hc] at q1; exact q1
        | exn c d s2 => rw [hc] at q1; exact PostR.no q1
        | bad => rw [hc] at q1; exact PostR.no q1
      · exact PostR.no q1
    · exact PostR.no q1
  | _ => exact PostR.no q1
end
end
end Ws
end
end

section
set_option Elab.async false
set_option linter.all false
set_option maxRecDepth 100000
set_option maxHeartbeats 4000000
/-! WsY: methods of built-in types, dict displays, reversed slices. -/
noncomputable section
namespace Ws
open PySem PySem.Spec PyProof.Rows L2
def few30 (n : Nat) : Bool := decide (n + 0 + 0 < 30)
theorem few_ok {X : Cx} {pos : Pos} {args : List Expr} (h : (backTo pos (starEach args X.env)).any (·.1) = false) (hn : args.length < 29) :
    ((backTo pos (starEach args X.env)).all (fun x => !x.1) && (backToKw pos (keywordEach [] X.env)).all (fun x => x.1.isSome)
      && decide (args.length + ([] : List Keyword).length + (if ([] : List Keyword).isEmpty then 0 else 1) < 30)) = true := by
  have e : (backTo pos (starEach args X.env)).all (fun x => !x.1) = true := by
    rw [List.all_eq_true]
    intro x hx
    have := List.any_eq_false.mp h x hx
    simpa using this
  rw [e]
  have e2 : backToKw pos (keywordEach [] X.env) = [] := rfl
  rw [e2]
  simp
  omega
theorem bm_lst {st : AS} {m : Bm} {l : Nat} (hm : m = .append ∨ m = .pop ∨ m = .insert) (h : bmT st m (.ref l) = true) : ∃ xs, st[l]? = some (.lst xs) := by
  rcases hm with rfl | rfl | rfl <;>
  · unfold bmT at h
    dsimp only at h
    split at h
    · rename_i xs hx
      exact ⟨xs, hx⟩
    · cases h
section
variable {G : Gam} {W : WX} {X : Cx} {o e : Expr} {es : List Expr} {mo : MV} {ms : Env → AS → Res (List D)} {apos pos : Pos}
/-- the walk of a method's call, by the rule r -/
theorem w_bmR {T id : String} {name : Str} {m : Bm} {r : V → List V → Hp → VK → Prop} (hK : X.K = G.K) (pa : PlainAttrs T) (slot : Slot T name id) (hty : typeOf (.builtin id) = pure (.type "method_descriptor")) (hm : MtR X id r)
    (ty : ∀ μ st H x v, Rl G μ st H → Rep G μ st.length H x v → bmT st m x = true → tyV G.K T v H)
    (c : ∀ σ μ st H x v ds vs Q, Rl G μ st H → Rep G μ st.length H x v → Reps G μ st.length H ds vs → PostR G W σ μ st.length H (PV G Q) (bmD st m x ds) → r v vs H Q)
    (ho : PE X o (tV G W mo)) (ha : PA X (e :: es) (tAs G W ms)) (hn : notCallE o = true) (hlen : (e :: es).length < 29) (hline : (apos.endLine == pos.line) = true)
    (hs : starEach (e :: es) X.env = (false, eval e X.env) :: starEach es X.env) (hpl : (backTo pos (starEach es X.env)).any (·.1) = false) :
    PE X (.Call (.Attribute o name apos) (e :: es) [] pos) (tV G W fun env st => (mo env st).bind fun x st => if bmT st m x = true then (ms env st).bind fun ds st => bmD st m x ds else .bad) := by
  have hpl2 : (backTo pos (starEach (e :: es) X.env)).any (·.1) = false := by
    rw [hs]
    have e0 : (backTo pos ((false, eval e X.env) :: starEach es X.env)).any (·.1) = (false || (backTo pos (starEach es X.env)).any (·.1)) := rfl
    rw [e0, hpl]; rfl
  refine (pe_bm pa slot hty hm ho ha (attrBase_ok hn) (few_ok hpl2 hlen) hline hs hpl).imp fun σ H Q h => ?_
  obtain ⟨μ, env, st, R, e1, p⟩ := h
  refine tV_mono (tV_bind (k := fun env x st => if bmT st m x = true then (ms env st).bind fun ds st => bmD st m x ds else .bad) R e1 p) fun v H1 ⟨μ1, st1, x, R1, e1, x1, r1, q1⟩ => ?_
  split at q1
  · rename_i ht
    refine ⟨by rw [hK]; exact ty _ _ _ _ _ R1 r1 ht, ?_⟩
    exact tAs_mono (tAs_bind (k := fun env ds st => bmD st m x ds) R1 e1 q1) fun vs H2 ⟨μ2, st2, ds, R2, e2, x2, r2, q2⟩ => c σ μ2 st2 H2 x v ds vs Q R2 (Rep.mono x2.toNx0 _ _ r1) r2 q2
  · exact PostR.no q1
theorem w_bmR0 {T id : String} {name : Str} {m : Bm} {r : V → List V → Hp → VK → Prop} (hK : X.K = G.K) (pa : PlainAttrs T) (slot : Slot T name id) (hty : typeOf (.builtin id) = pure (.type "method_descriptor")) (hm : MtR X id r)
    (ty : ∀ μ st H x v, Rl G μ st H → Rep G μ st.length H x v → bmT st m x = true → tyV G.K T v H)
    (c : ∀ σ μ st H x v Q, Rl G μ st H → Rep G μ st.length H x v → PostR G W σ μ st.length H (PV G Q) (bmD st m x []) → r v [] H Q)
    (ho : PE X o (tV G W mo)) (hn : notCallE o = true) (hline : (apos.endLine == pos.line) = true) :
    PE X (.Call (.Attribute o name apos) [] [] pos) (tV G W fun env st => (mo env st).bind fun x st => if bmT st m x = true then (Res.ok ([] : List D) st).bind fun ds st => bmD st m x ds else .bad) := by
  refine (pe_bm0 pa slot hty hm ho (attrBase_ok hn) hline).imp fun σ H Q h => ?_
  obtain ⟨μ, env, st, R, e1, p⟩ := h
  refine tV_mono (tV_bind (k := fun env x st => if bmT st m x = true then (Res.ok ([] : List D) st).bind fun ds st => bmD st m x ds else .bad) R e1 p) fun v H1 ⟨μ1, st1, x, R1, e1, x1, r1, q1⟩ => ?_
  split at q1
  · rename_i ht
    exact ⟨by rw [hK]; exact ty _ _ _ _ _ R1 r1 ht, c σ μ1 st1 H1 x v Q R1 r1 q1⟩
  · exact PostR.no q1
theorem ty_lst {m : Bm} (hm : m = .append ∨ m = .pop ∨ m = .insert) : ∀ μ st H x v, Rl G μ st H → Rep G μ st.length H x v → bmT st m x = true → tyV G.K "list" v H := fun μ st H x v R r h => by
  cases x with
  | ref l =>
    obtain ⟨hl, rfl⟩ := r
    obtain ⟨xs, hx⟩ := bm_lst hm h
    obtain ⟨z, vs, h1, _⟩ := R.lst hx
    exact .inl ⟨rfl, _, .inl (.inl h1)⟩
  | _ => rcases hm with rfl | rfl | rfl <;> cases h
theorem ty_str {m : Bm} (hm : m = .split ∨ m = .join) : ∀ μ st H x v, Rl G μ st H → Rep G μ st.length H x v → bmT st m x = true → tyV G.K "str" v H := fun μ st H x v R r h => by
  cases x with
  | str z => cases r; exact rfl
  | _ => rcases hm with rfl | rfl <;> cases h
/-- a list of ours is rewritten -/
theorem relst {σ : L2.St} {μ : Nat → Addr} {st : AS} {H : Hp} {Q : VK} {l : Nat} {ys : List D} {vs : List V} {d : D} {v : V} (R : Rl G μ st H) (hl : l < st.length) (z : ys.length ≤ szMax) (rs : Reps G μ st.length H ys vs) (r : Rep G μ st.length H d v)
    (p : PostR G W σ μ st.length H (PV G Q) (.ok d (st.set l (.lst ys)))) : Q v (upd H (μ l) (.lst vs)) := by
  have nx := nx_write R (ho := .lst vs) hl (k := (st.set l (.lst ys)).length) (by simp)
  have R2 : Rl G μ (st.set l (.lst ys)) (upd H (μ l) (.lst vs)) := R.write hl ⟨z, _, upd_same, by
    have q := Reps.mono nx.toNx0 _ _ rs
    rw [List.length_set] at q
    exact q⟩
  exact p μ _ nx R2 v (Rep.mono nx.toNx0 _ _ r)
theorem c_append : ∀ σ μ st H x v ds vs Q, Rl G μ st H → Rep G μ st.length H x v → Reps G μ st.length H ds vs → PostR G W σ μ st.length H (PV G Q) (bmD st .append x ds) → rAppend v vs H Q := fun σ μ st H x v ds vs Q R r rs p => by
  unfold bmD appD at p
  dsimp only at p
  split at p
  · rename_i l d
    obtain ⟨hl, rfl⟩ := r
    obtain ⟨u, rfl, ru⟩ := rs.i1
    split at p
    · rename_i xs hx
      split at p
      · rename_i hz
        obtain ⟨z, us, h1, h2⟩ := R.lst hx
        exact ⟨_, us, u, rfl, rfl, h1, by rw [← h2.length, ← szLine]; exact hz, relst R hl (by rw [List.length_append, List.length_singleton]; exact hz) (h2.append (.one ru)) (d := .non) rfl p⟩
      · exact PostR.no p
    · exact PostR.no p
  · exact PostR.no p
theorem c_pop0 : ∀ σ μ st H x v Q, Rl G μ st H → Rep G μ st.length H x v → PostR G W σ μ st.length H (PV G Q) (bmD st .pop x []) → rPop v [] H Q := fun σ μ st H x v Q R r p => by
  unfold bmD popD at p
  dsimp only at p
  cases x with
  | ref l =>
    obtain ⟨hl, rfl⟩ := r
    dsimp only at p
    split at p
    · rename_i xs hx
      split at p
      · rename_i d hd
        obtain ⟨z, us, h1, h2⟩ := R.lst hx
        obtain ⟨u, h3, h4⟩ := h2.get hd
        exact ⟨_, us, u, rfl, rfl, h1, by rw [← h2.length]; exact h3, relst R hl (by rw [List.length_dropLast]; omega) h2.dropLast h4 p⟩
      · exact PostR.no p
    · exact PostR.no p
  | _ => exact PostR.no p
theorem Reps.eraseIdx {μ : Nat → Addr} {n : Nat} {H : Hp} : ∀ {ds : List D} {vs : List V} (k : Nat), Reps G μ n H ds vs → Reps G μ n H (ds.eraseIdx k) (vs.eraseIdx k)
  | [], _, _, h => by rw [show _ = [] from h]; simp [Reps]
  | d :: ds, _, 0, ⟨v, r, rfl, h, t⟩ => t
  | d :: ds, _, k + 1, ⟨v, r, rfl, h, t⟩ => ⟨v, _, rfl, h, Reps.eraseIdx k t⟩
theorem c_pop1 : ∀ σ μ st H x v ds vs Q, Rl G μ st H → Rep G μ st.length H x v → Reps G μ st.length H ds vs → ds.length = 1 → PostR G W σ μ st.length H (PV G Q) (bmD st .pop x ds) → rPopAt v vs H Q := fun σ μ st H x v ds vs Q R r rs hd1 p => by
  unfold bmD popD at p
  dsimp only at p
  split at p
  · cases hd1
  · rename_i l i
    obtain ⟨hl, rfl⟩ := r
    obtain ⟨u, rfl, ru⟩ := rs.i1
    cases ru
    split at p
    · rename_i xs hx
      split at p
      · rename_i h0
        split at p
        · rename_i d hd
          obtain ⟨z, us, h1, h2⟩ := R.lst hx
          obtain ⟨u, h3, h4⟩ := h2.get hd
          have hlt : i.toNat < xs.length := (List.getElem?_eq_some_iff.mp hd).1
          have hle := h2.length
          have hzz : xs.length ≤ 16777216 := z
          refine ⟨_, us, i, i.toNat, u, rfl, rfl, h1, by omega, by omega, ?_, h3, relst R hl (Nat.le_trans (List.length_eraseIdx_le ..) z) (h2.eraseIdx _) h4 p⟩
          unfold seqIndex?
          have e1 : ¬ i < 0 := by omega
          simp only [e1, if_false]
          rw [if_pos]
          simp only [Bool.and_eq_true, decide_eq_true_eq]
          omega
        · exact PostR.no p
      · exact PostR.no p
    · exact PostR.no p
  · exact PostR.no p
theorem c_popA : ∀ σ μ st H x v ds vs Q, Rl G μ st H → Rep G μ st.length H x v → Reps G μ st.length H ds vs → PostR G W σ μ st.length H (PV G Q) (bmD st .pop x ds) → rPop v vs H Q ∨ rPopAt v vs H Q := fun σ μ st H x v ds vs Q R r rs p => by
  cases ds with
  | nil =>
    cases (show vs = [] from rs)
    exact .inl (c_pop0 σ μ st H x v Q R r p)
  | cons d t =>
    cases t with
    | nil => exact .inr (c_pop1 σ μ st H x v [d] vs Q R r rs rfl p)
    | cons d2 t =>
      unfold bmD popD at p
      cases x <;> cases d <;> exact PostR.no p
theorem c_insert : ∀ σ μ st H x v ds vs Q, Rl G μ st H → Rep G μ st.length H x v → Reps G μ st.length H ds vs → PostR G W σ μ st.length H (PV G Q) (bmD st .insert x ds) →
    (∃ (l : Addr) (xs : List V) (i : Int) (y : V), v = .ref l ∧ vs = [.int i, y] ∧ H l = some (.lst xs) ∧ xs.length < sizeLine ∧ 0 ≤ i ∧ i < 2 ^ 63 ∧ Q .non (upd H l (.lst (xs.take i.toNat ++ [y] ++ xs.drop i.toNat)))) := fun σ μ st H x v ds vs Q R r rs p => by
  unfold bmD insD at p
  dsimp only at p
  split at p
  · rename_i l i d
    obtain ⟨hl, rfl⟩ := r
    obtain ⟨u, w, rfl, ru, rw'⟩ := rs.i2
    cases ru
    split at p
    · rename_i xs hx
      split at p
      · rename_i hz
        obtain ⟨z1, z2, z3⟩ := hz
        obtain ⟨z, us, h1, h2⟩ := R.lst hx
        have hzz : xs.length < 16777216 := z1
        refine ⟨_, us, i, w, rfl, rfl, h1, by rw [← h2.length, ← szLine]; exact z1, z2, by omega, relst R hl ?_ (((h2.take _).append (.one rw')).append (h2.drop _)) (d := .non) rfl p⟩
        rw [List.length_append, List.length_append, List.length_take, List.length_drop, List.length_singleton]
        have hzs : szMax = 16777216 := rfl
        omega
      · exact PostR.no p
    · exact PostR.no p
  · exact PostR.no p
theorem strsD_eq : ∀ {ds : List D} {ns : List Str}, strsD ds = some ns → ds = ns.map D.str
  | [], _, h => by simp [strsD] at h; subst h; rfl
  | .str i :: r, ns, h => by
    simp only [strsD, Option.map_eq_some_iff] at h
    obtain ⟨ms, h1, rfl⟩ := h
    rw [strsD_eq h1]; rfl
  | .non :: _, _, h => by simp [strsD] at h
  | .bl _ :: _, _, h => by simp [strsD] at h
  | .int _ :: _, _, h => by simp [strsD] at h
  | .tup _ :: _, _, h => by simp [strsD] at h
  | .ref _ :: _, _, h => by simp [strsD] at h
  | .clo _ _ :: _, _, h => by simp [strsD] at h
  | .kls _ :: _, _, h => by simp [strsD] at h
theorem Reps.strs {μ : Nat → Addr} {n : Nat} {H : Hp} : ∀ {ns : List Str} {vs : List V}, Reps G μ n H (ns.map D.str) vs → vs = ns.map V.str
  | [], _, h => h
  | k :: ns, _, ⟨v, r, rfl, h, t⟩ => by rw [show v = .str k from h, Reps.strs t]; rfl
theorem Reps.ofStrs {μ : Nat → Addr} {n : Nat} {H : Hp} : ∀ (ns : List Str), Reps G μ n H (ns.map D.str) (ns.map V.str)
  | [] => rfl
  | k :: ns => ⟨.str k, _, rfl, rfl, Reps.ofStrs ns⟩
end
end Ws
end
end

section
set_option Elab.async false
set_option linter.all false
set_option maxRecDepth 100000
set_option maxHeartbeats 4000000
/-! WsZ: len(o) by the class's own method; xs[::-1]. -/
noncomputable section
namespace Ws
open PySem PySem.Spec PyProof.Rows L2
/-- what len(o) asks of the class's own method -/
def rLenI (C : Addr) (sp : Sp) : List V → Hp → VK → Prop := fun xs H Q => ∃ a dx fs, xs = [.ref a] ∧ H a = some (.ins C dx fs) ∧ sp [.ref a] H (fun v H2 => ∃ n : Int, v = .int n ∧ 0 ≤ n ∧ n < 1000000000 ∧ Q (.int n) H2) fun _ _ _ => False
theorem call_lenI {X : Cx} {k : Nat} {C f : Addr} {fd : FuncData} {ps : List Str} {sp : Sp} (hl : PySem.W.findIn X.K (.ref C) "__len__" = some (some (.ref f))) (hf : PySem.W.isFn X.K (.ref f) = true) (F : FnOk X.prog X.w X.K X.mg X.base (L2.CX X.prog X.w) k f fd ps sp)
    (hr : Room (k + 1) X.A) (hb : Binds X.K fd ps []) : CallR X (.builtin "len") (rLenI C sp) := by
  intro pins s σ H xs us Q I r h
  obtain ⟨a, dx, fs, rfl, ea, q⟩ := h
  obtain ⟨u, rfl, ru⟩ := r.one
  obtain rfl : u = Value.ref a := ru
  obtain ⟨mA, O, _, _, _, _⟩ := ins_get I.hok ea
  obtain ⟨od, J, _⟩ := O.look
  have tf : PySem.W.typeIn X.K (.ref f) = some (.type "function") := beq_iff_eq.mp hf
  have sp1 : PySem.W.Looks (model X.prog X.w) s.heap (specialOf (.ref a) "__len__") (some (.ref f)) := J.type.andThen (PySem.W.looks_findIn I.kIn hl)
  have hl1 : ([Value.ref a]).length = ps.length := by rw [← F.len _ _ _ _ q]; rfl
  have b := hb s [Value.ref a] I.kIn (by rw [List.append_nil]; exact hl1)
  rw [List.append_nil] at b
  refine Calls.call_function_entry PySem.kind_len PySem.plain_len PySem.entry_len (PySem.args_len1 _) ?_
  unfold Builtin.«len»
  refine wpAny_bind (m := oneArg "len" _) (wpAny_pure ?_)
  refine wpAny_bind (m := callSpecial? (.ref a) (PySem.Str.ofString "__len__")) ?_
  simp only [callSpecial?]
  refine wpAny_bind (sp1.here ?_)
  refine wpAny_holding (wpAny_bind ((PySem.W.bind_fn I.kIn (.ref a) tf).here ?_))
  refine wpAny_bind ?_
  show wpAny _ X.A.in1 (call (.ref f) [Value.ref a]) _ _ _
  refine wpAny_call (codeAny_mono (F.run X.A.in1 X.stack s H ⟨[.ref a], []⟩ [.ref a] [.ref a] _ (fun _ _ _ => False) hr.in1 I.env0.in1 b (.cons rfl .nil) q) fun r s' hq => ?_)
  cases r with
  | error er =>
    obtain ⟨_, _, _, _, _, _, _, _, _, _, _, _, z⟩ := hq
    exact z.elim
  | ok fl =>
    cases fl with
    | ret u =>
      obtain ⟨v, H', I3, rv, n, ev, h0, h1, q3⟩ := I.after hq
      subst ev
      obtain ⟨t, rfl⟩ := rv
      refine wpAny_pure ?_
      refine wpAny_bind (wpAny_holding (wpAny_pure ?_))
      refine wpAny_bind (wpAny_letGo ?_)
      show wpAny _ _ (if n < 0 then _ else _) _ _ _
      rw [if_neg (by omega)]
      show wpAny _ _ (if n ≥ 2 ^ 63 then _ else _) _ _ _
      rw [if_neg (by omega)]
      exact wpAny_bind (wpAny_mkInt (wpAny_pure ⟨_, rfl, .int n, H', I3.tok _, ⟨_, rfl⟩, q3⟩))
    | next => exact False.elim hq
    | brk => exact False.elim hq
    | cont => exact False.elim hq
section
variable {G : Gam} {W : WX} {X : Cx} {cl : Call} {f k C : Nat} {o : Expr} {mo : MV} {p pos : Pos}
theorem w_lenI (hK : X.K = G.K) (hm : Meth G.K (G.cA C) "__len__" (G.fA f)) (F : FnOk X.prog X.w X.K X.mg X.base (L2.CX X.prog X.w) k (G.fA f) (G.fD f) (G.fP f) (spI G cl f)) (hr : Room (k + 1) X.A)
    (hb : Binds X.K (G.fD f) (G.fP f) []) (hg : Gl X "len") (hmg : X.mg "len" = none) (ho : PE X o (tV G W mo)) (hl : 1 = (G.fP f).length) (hst : starEach [o] X.env = [(false, eval o X.env)]) :
    PE X (.Call (.Name "len" p) [o] [] pos) (tV G W fun env st => (mo env st).bind fun x st => match x with
      | .ref l => match st[l]? with
        | some (.ins C' _) => if C' = C then lenK (cl f [.ref l] st) else .bad
        | _ => .bad
      | _ => .bad) := by
  have cr : CallR X (.builtin "len") (rLenI (G.cA C) (spI G cl f)) := call_lenI (by rw [hK]; exact hm.at_) (by rw [hK]; exact hm.fn) F hr hb
  refine (pe_callB cr hg hmg (by rfl) (PA.one ho hst) (by decide) (by decide) hst rfl).imp fun σ H Q h => ?_
  obtain ⟨μ, env, st, R, e, p⟩ := h
  refine tV_mono (tV_bind (k := fun env x st => match x with
      | .ref l => match st[l]? with
        | some (.ins C' _) => if C' = C then lenK (cl f [.ref l] st) else .bad
        | _ => .bad
      | _ => .bad) R e p) fun v H1 ⟨μ1, st1, x, R1, e1, x1, r1, q1⟩ => ?_
  cases x with
  | ref l =>
    obtain ⟨hlt, rfl⟩ := r1
    dsimp only at q1
    split at q1
    · rename_i C' fs hx
      split at q1
      · rename_i hC
        subst hC
        obtain ⟨k1, k2, dx, fs', h1, h2⟩ := R1.ins hx
        refine ⟨_, dx, fs', rfl, h1, hl, μ1, st1, [.ref l], R1, Reps.one (d := .ref l) ⟨hlt, rfl⟩, ?_⟩
        cases hc : cl f [.ref l] st1 with
        | ok d s2 =>
          rw [hc] at q1
          intro μ2 H2 x2 R2 v rv
          cases d with
          | int n =>
            unfold lenK at q1
            dsimp only at q1
            split at q1
            · rename_i hn
              exact ⟨n, rv, hn.1, hn.2, q1 μ2 H2 x2 R2 _ rfl⟩
            · exact PostR.no q1
          | _ => exact PostR.no q1
        | exn c d s2 => rw [hc] at q1; exact PostR.no q1
        | bad => rw [hc] at q1; exact PostR.no q1
      · exact PostR.no q1
    · exact PostR.no q1
  | _ => exact PostR.no q1
theorem Reps.reverse {μ : Nat → Addr} {n : Nat} {H : Hp} : ∀ {ds : List D} {vs : List V}, Reps G μ n H ds vs → Reps G μ n H ds.reverse vs.reverse
  | [], _, h => by rw [show _ = [] from h]; rfl
  | d :: ds, _, ⟨v, r, rfl, h, t⟩ => by
    rw [List.reverse_cons, List.reverse_cons]
    exact (Reps.reverse t).append (.one h)
theorem w_slr {j : Nat} {p1 p2 p3 : Pos} (ho : PE X o (tV G W mo)) : PE X (.Subscript o (.Slice none none (some (.UnaryOp .USub (.Constant (.int 1) j p1) p2)) p3) pos) (tV G W fun env st => (mo env st).bind fun x st => slrD st x) := by
  refine (pe_revL ho).imp fun σ H Q h => ?_
  obtain ⟨μ, env, st, R, e, p⟩ := h
  refine tV_mono (tV_bind (k := fun env x st => slrD st x) R e p) fun v H1 ⟨μ1, st1, x, R1, e1, x1, r1, q1⟩ => ?_
  cases x with
  | ref l =>
    obtain ⟨hlt, rfl⟩ := r1
    unfold slrD at q1
    dsimp only at q1
    split at q1
    · rename_i xs hx
      obtain ⟨z, us, h1, h2⟩ := R1.lst hx
      exact ⟨_, us, rfl, .inl (.inl h1), fun a ha => newL_ok R1 h2.reverse (by rw [List.length_reverse]; exact z) q1 a ha⟩
    · exact PostR.no q1
  | _ => exact PostR.no q1
end
end Ws
noncomputable section
namespace Ws
open PySem PySem.Spec PyProof.Rows L2
/-! ### dict displays -/
section
variable {G : Gam} {W : WX} {X : Cx} {pos : Pos}
theorem w_dic0 : PE X (.Dict [] [] pos) (tV G W fun _ st => .ok (.ref st.length) (st ++ [.dic [] false])) := by
  refine pe_dnewK.imp fun σ H Q h => ?_
  obtain ⟨μ, env, st, R, e, p⟩ := h
  intro a ha
  have nx := nx_new (μ := μ) (st := st) (o := .dK []) (ob := .dic [] false) ha
  have R2 : Rl G (extM μ st.length a) (st ++ [.dic [] false]) (upd H a (.dK [])) := R.new ha ⟨Nat.zero_le _, [], upd_same, rfl⟩
  exact p _ _ nx R2 _ ⟨by simp, by rw [extM_at]⟩
/-- a thing that was laid first becomes ours at the end -/
theorem nx_late {μ μ2 : Nat → Addr} {n n2 : Nat} {H H2 : Hp} {a : Addr} {u u2 : HO} (ha : H a = none) (x : Nx μ n (upd H a u) μ2 n2 H2) : Nx μ n H (extM μ2 n2 a) (n2 + 1) (upd H2 a u2) := by
  refine ⟨⟨Nat.le_succ_of_le x.le, fun i hi => by rw [extM_lt (Nat.lt_of_lt_of_le hi x.le)]; exact x.ext i hi, fun b xs hb => ?_⟩, fun b o hb hi => ?_, fun i h1 h2 => ?_, fun b hb => ?_⟩
  · have hne := ne_of_none hb ha
    rw [upd_ne hne]
    exact x.tup b xs (by rw [upd_ne hne]; exact hb)
  · have hne := ne_of_none hb ha
    rw [upd_ne hne]
    exact x.frm b o (by rw [upd_ne hne]; exact hb) hi
  · by_cases hi : i = n2
    · subst hi
      rw [extM_at]; exact ha
    · rw [extM_lt (by omega)]
      have w := x.new i h1 (by omega)
      have hne : μ2 i ≠ a := fun z => by rw [z, upd_same] at w; cases w
      rw [upd_ne hne] at w
      exact w
  · have hne : b ≠ a := fun z => hb (by rw [z]; exact ha)
    rw [upd_ne hne]
    exact x.keep b (by rw [upd_ne hne]; exact hb)
theorem w_dic1 {k v : Expr} {mk mv : MV} (hk : PE X k (tV G W mk)) (hv : PE X v (tV G W mv)) : PE X (.Dict [some k] [v] pos) (tV G W fun env st => (mk env st).bind fun x st => (mv env st).bind fun y st => match keyD x with
    | some k => .ok (.ref st.length) (st ++ [.dic [(k, y)] false])
    | none => .bad) := by
  refine (pe_disp (pps_cons hk hv pps_nil) rfl rfl (fun z => by cases z) (by simp)).imp fun σ H Q h => ?_
  obtain ⟨μ, env, st, R, e, p⟩ := h
  intro a ha
  dsimp only at p
  have nx : Nx μ st.length H μ st.length (upd H a (.dK [])) := nx_upd ha
  have R1 : Rl G μ st (upd H a (.dK [])) := R.side ha
  refine ⟨μ, env, st, R1, e.mono nx.toNx0, ?_⟩
  cases h1 : mk env st with
  | exn c q s1 => rw [h1] at p; exact PostR.trans nx p
  | bad => rw [h1] at p; exact PostR.no p
  | ok x s1 =>
    rw [h1] at p
    dsimp only [bind_ok] at p
    intro μ1 H1 x1 R2 vx rx
    refine ⟨μ1, env, s1, R2, e.mono (nx.trans x1).toNx0, ?_⟩
    cases h2 : mv env s1 with
    | exn c q s2 => rw [h2] at p; exact PostR.trans (nx.trans x1) p
    | bad => rw [h2] at p; exact PostR.no p
    | ok y s2 =>
      rw [h2] at p
      dsimp only [bind_ok] at p
      intro μ2 H2 x2 R3 vy ry
      have x3 := x1.trans x2
      have hfr : ∀ i, i < st.length → μ i ≠ a := fun i hi => R.fresh ha hi
      have h3 : H2 a = some (.dK []) := x3.frm a _ upd_same fun i hi => hfr i hi
      have hne : ∀ i, i < s2.length → μ2 i ≠ a := fun i hi z => by
        by_cases hl : i < st.length
        · rw [x3.ext i hl] at z
          exact hfr i hl z
        · have w := x3.new i (Nat.le_of_not_lt hl) hi
          rw [z, upd_same] at w
          cases w
      split at p
      · rename_i kk hkk
        refine ⟨h3, [(kk, vy)], by rw [keyD_rep hkk rx]; rfl, by simp, ?_⟩
        have nxa : Nx0 μ2 s2.length H2 (extM μ2 s2.length a) (s2 ++ [O.dic [] false]).length H2 := ⟨by simp, fun i hi => extM_lt hi, fun _ _ z => z⟩
        have R4 : Rl G (extM μ2 s2.length a) (s2 ++ [.dic [] false]) H2 := R3.adopt hne ⟨Nat.zero_le _, [], h3, rfl⟩
        have hl : s2.length < (s2 ++ [O.dic [] false]).length := by simp
        have ea : extM μ2 s2.length a s2.length = a := extM_at
        have nxw := nx_write R4 (ho := .dK (mergeK [] [(kk, vy)])) hl (k := ((s2 ++ [O.dic [] false]).set s2.length (.dic [(kk, y)] false)).length) (by simp)
        have R5 := R4.write (ho := .dK (mergeK [] [(kk, vy)])) (o := .dic [(kk, y)] false) hl ⟨by show 1 ≤ szMax; unfold szMax; omega, [(kk, vy)], by rw [upd_same]; rfl, by
          have z : KReps G (extM μ2 s2.length a) (s2 ++ [O.dic [] false]).length H2 [(kk, y)] [(kk, vy)] := ⟨vy, [], rfl, Rep.mono nxa _ _ ry, rfl⟩
          have z2 := KReps.mono nxw.toNx0 z
          rw [List.length_set] at z2
          exact z2⟩
        rw [ea] at R5
        have es : (s2 ++ [O.dic [] false]).set s2.length (.dic [(kk, y)] false) = s2 ++ [.dic [(kk, y)] false] := by simp
        rw [es] at R5
        have nxf : Nx μ st.length H (extM μ2 s2.length a) (s2 ++ [O.dic [(kk, y)] false]).length (upd H2 a (.dK (mergeK [] [(kk, vy)]))) := by
          have z := nx_late (u2 := .dK (mergeK [] [(kk, vy)])) ha x3
          simpa using z
        exact p _ _ nxf R5 _ ⟨by simp, by rw [extM_at]⟩
      · exact PostR.no p
end
/-! ### list(range(..)) -/
section
variable {G : Gam} {W : WX} {X : Cx} {p p2 pos pos2 : Pos} {a b c : Expr} {ma mb mc : MV}
theorem w_lrng1 (hc : X.calm = true) (hg : Gl X "list") (hm : X.mg "list" = none) (hg2 : Gl X "range") (hm2 : X.mg "range" = none) (ha : PE X a (tV G W ma)) (na : starEach [a] X.env = [(false, eval a X.env)]) :
    PE X (.Call (.Name "list" p) [.Call (.Name "range" p2) [a] [] pos2] [] pos) (tV G W fun env st => (ma env st).bind fun x st => match x with
      | .int n => if small n = true then (sized (rangeD 0 n.toNat) none st).bind fun xs st => newL st xs.1 else .bad
      | _ => .bad) := by
  refine (pe_listRg hc hg hm (prg_1 hg2 hm2 ha na) rfl).imp fun σ H Q h => ?_
  obtain ⟨μ, env, st, R, e, p⟩ := h
  refine tV_mono (tV_bind (k := fun _ x st => match x with
      | .int n => if small n = true then (sized (rangeD 0 n.toNat) none st).bind fun xs st => newL st xs.1 else .bad
      | _ => .bad) R e p) fun v H1 ⟨μ1, st1, x, R1, e1, x1, r1, q1⟩ => ?_
  cases x with
  | int n =>
    dsimp only at q1
    split at q1
    · rename_i hs
      unfold sized at q1
      split at q1
      · rename_i hz
        simp only [bind_ok] at q1
        have hs' := small_iff hs
        have hzz : n.toNat ≤ 16777216 := by
          have e0 : (rangeD 0 n.toNat).length = n.toNat := by unfold rangeD; rw [List.length_map, List.length_range]
          rw [e0] at hz; exact hz
        refine ⟨n, r1, ⟨by omega, by omega, hs'.1, hs'.2, by omega⟩, fun q hq => ?_⟩
        have er : rgV 0 n = (rangeD 0 n.toNat).map fun d => match d with
          | .int i => V.int i
          | _ => .non := by
          unfold rgV rangeD
          rw [List.map_map]
          have e0 : (n - 0).toNat = n.toNat := by simp
          rw [e0]
          rfl
        have rr : Reps G μ1 st1.length H1 (rangeD 0 n.toNat) (rgV 0 n) := by
          have e2 : rangeD 0 n.toNat = ((List.range n.toNat).map fun i : Nat => (0 : Int) + (i : Nat)).map D.int := by unfold rangeD; rw [List.map_map]; rfl
          have e3 : rgV 0 n = ((List.range n.toNat).map fun i : Nat => (0 : Int) + (i : Nat)).map V.int := by
            unfold rgV
            rw [List.map_map]
            have e0 : (n - 0).toNat = n.toNat := by simp
            rw [e0]; rfl
          rw [e2, e3]
          exact Reps.ofInts _
        exact newL_ok R1 rr hz q1 q hq
      · exact PostR.no q1
    · exact PostR.no q1
  | _ => exact PostR.no q1
/-- the ints of a range -/
def rgC (a c : Int) (n : Nat) : List V := (List.range n).map fun i => V.int (a + (i : Nat) * c)
theorem vals_rgC {a c : Int} {n : Nat} {acc : Array Value} (h : ItemsOf (fun i v => ∃ t, v = .int (a + i * c) t) acc n) : Vals (rgC a c n) acc.toList := by
  have e : acc.toList.length = n := by rw [Array.length_toList]; exact h.1
  unfold rgC
  rw [← e]
  refine vals_of_get acc.toList _ fun j u hj => ?_
  obtain ⟨t, rfl⟩ := h.2 j u (by rw [← hj, Array.getElem?_toList])
  exact ⟨t, rfl⟩
def tLrg3 (ta : TA) : TE := fun σ H Q => ta σ H fun vs H1 => ∃ (i j k : Int) (n : Nat), vs = [.int i, .int j, .int k] ∧ RgC i j k n ∧ n ≤ 16777216 ∧ ∀ q, H1 q = none → Q (.ref q) (upd H1 q (.lst (rgC i k n)))
theorem pe_listRg3 {ta : TA} (hc : X.calm = true) (hg : Gl X "list") (hm : X.mg "list" = none) (hg2 : Gl X "range") (hm2 : X.mg "range" = none) (ha : PA X [a, b, c] ta)
    (hs : starEach [a, b, c] X.env = (false, eval a X.env) :: starEach [b, c] X.env) (hpl : (backTo pos2 (starEach [b, c] X.env)).any (·.1) = false) :
    PE X (.Call (.Name "list" p) [.Call (.Name "range" p2) [a, b, c] [] pos2] [] pos) (tLrg3 ta) := by
  constructor
  intro pins s σ H Q I h
  have na : starEach [Expr.Call (.Name "range" p2) [a, b, c] [] pos2] X.env = (false, eval (.Call (.Name "range" p2) [a, b, c] [] pos2) X.env) :: starEach [] X.env := rfl
  refine Call_ ?_ rfl
  apply ld_blt I hg hm boot_list
  apply PyProof.Rows.callWith_type1 _ na
  apply args_cons _ na
  have hr : wpAny (model X.prog X.w) X.A (eval (.Call (.Name "range" p2) [a, b, c] [] pos2) X.env) (fun x s' => ∃ (r : Addr) (i j k : Int) (n : Nat) (t u v : Tok) (H' : Hp), x = .ref r ∧ IsRange s'.heap r i j k t u v ∧ Inv X pins σ H' s' ∧ RgC i j k n ∧ n ≤ 16777216 ∧ ∀ q, H' q = none → Q (.ref q) (upd H' q (.lst (rgC i k n)))) X.xe s := by
    refine Call_ ?_ rfl
    apply ld_blt I hg2 hm2 boot_range
    apply PyProof.Rows.callWith_type1 _ hs hpl
    apply thn (ha.run pos2 pins s σ H _ I h)
    rintro us s1 ⟨vs, H1, I1, r1, i, j, k, n, ev, rc, hn, q1⟩
    subst ev
    cases r1 with
    | cons r rr =>
      cases rr with
      | cons r' rr =>
        cases rr with
        | cons r'' rr =>
          cases rr
          obtain ⟨t, rfl⟩ := r
          obtain ⟨t', rfl⟩ := r'
          obtain ⟨t'', rfl⟩ := r''
          have rc' := rc
          obtain ⟨c0, c1, c2, c3⟩ := rc'
          apply call_range_3 c0 _ (.inl (PyProof.noPylong_small c1))
          exact ⟨_, i, j, k, n, _, _, _, H1, rfl, IsRange.new _ _ _ _ _ _ _, I1.kept (t' := s1.toks) fun b o e => Heap.get?_push_of_some _ e, rc, hn, q1⟩
  apply thn hr
  rintro x s1 ⟨r, i, j, k, n, t, u, v, H1, ex, hr, I1, rc, hn, q⟩
  subst ex
  apply args_nil
  obtain ⟨c0, c1, c2, c3⟩ := rc
  refine call_list_range (n := n) (I1.ok.hd hc) hr c2 c3 hn fun h' tk acc c' hk e' hi => ?_
  refine ⟨.ref s1.heap.objs.size, upd H1 s1.heap.objs.size (.lst (rgC i k n)), I1.laid hk (Nat.le_refl _) (show ObjOk X.prog X.w _ _ _ (.lst (rgC i k n)) from ⟨?_, acc.toList, c', vals_rgC hi, ?_⟩), rfl, q _ (I1.hok.fresh (Nat.le_refl _))⟩
  · unfold rgC; rw [List.length_map, List.length_range, sizeLine_eq]; exact hn
  · rw [Array.toArray_toList]; exact e'
theorem w_lrng3 (hc : X.calm = true) (hg : Gl X "list") (hm : X.mg "list" = none) (hg2 : Gl X "range") (hm2 : X.mg "range" = none) (ha : PE X a (tV G W ma)) (hb : PE X b (tV G W mb)) (hcc : PE X c (tV G W mc))
    (hs : starEach [a, b, c] X.env = (false, eval a X.env) :: starEach [b, c] X.env) (hs2 : starEach [b, c] X.env = (false, eval b X.env) :: starEach [c] X.env) (hs3 : starEach [c] X.env = [(false, eval c X.env)]) (hpl : (backTo pos2 (starEach [b, c] X.env)).any (·.1) = false) :
    PE X (.Call (.Name "list" p) [.Call (.Name "range" p2) [a, b, c] [] pos2] [] pos) (tV G W fun env st => (ma env st).bind fun x st => (mb env st).bind fun y st => (mc env st).bind fun z st => lr3 x y z st) := by
  refine (pe_listRg3 hc hg hm hg2 hm2 (PA.three ha hb hcc hs hs2 hs3) hs hpl).imp fun σ H Q h => ?_
  obtain ⟨μ, env, st, R, e, p⟩ := h
  refine tV_mono (tV_two (g := fun env x y st => (mc env st).bind fun z st => lr3 x y z st) R e p) fun v H1 h1 => tV_mono h1 fun u H2 ⟨μ2, st2, x, y, R2, e2, x2, r1, r2, q1⟩ => ?_
  refine tV_mono (tV_bind (k := fun _ z st => lr3 x y z st) R2 e2 q1) fun t H3 ⟨μ3, st3, z, R3, e3, x3, r3, q3⟩ => ?_
  cases x with
  | int i =>
    cases y with
    | int j =>
      cases z with
      | int k =>
        unfold lr3 at q3
        dsimp only at q3
        split at q3
        · rename_i hb
          obtain ⟨b1, b2, b3, b4, b5⟩ := hb
          have h0 : 0 ≤ (j - i - 1) / k := Int.ediv_nonneg (by omega) (by omega)
          have h1' : (j - i - 1) / k ≤ j - i - 1 := Int.ediv_le_self _ (by omega)
          generalize hq : (j - i - 1) / k = w at q3 h0 h1'
          have hn : (w + 1).toNat ≤ 11000 := by omega
          refine ⟨i, j, k, (w + 1).toNat, by rw [show v = V.int i from r1, show u = V.int j from r2, show t = V.int k from r3], ⟨by omega, by omega, ?_, ?_⟩, by omega, fun q hq => newL_ok R3 ?_ ?_ q3 q hq⟩
          · unfold Builtin.Range.small Builtin.Range.rangeSize
            have hk : k > 0 := b4
            have hk2 : ¬ k < 0 := by omega
            rw [if_pos hk, if_pos b2, hq]
            simp only [Builtin.Range.rangeFitsLong, Bool.and_eq_true, Bool.or_eq_true, decide_eq_true_eq, beq_iff_eq, hk, if_true]
            omega
          · unfold Builtin.Range.rangeSize
            have hk : k > 0 := b4
            rw [if_pos hk, if_pos b2, hq]
            omega
          · have e2 : rangeC i k (w + 1).toNat = ((List.range (w + 1).toNat).map fun m : Nat => i + (m : Nat) * k).map D.int := by unfold rangeC; rw [List.map_map]; rfl
            have e4 : rgC i k (w + 1).toNat = ((List.range (w + 1).toNat).map fun m : Nat => i + (m : Nat) * k).map V.int := by unfold rgC; rw [List.map_map]; rfl
            rw [e2, e4]
            exact Reps.ofInts _
          · unfold rangeC
            rw [List.length_map, List.length_range]
            exact Nat.le_trans hn (by unfold szMax; omega)
        · exact PostR.no q3
      | _ => exact PostR.no q3
    | _ => exact PostR.no q3
  | _ => exact PostR.no q3
end
end Ws
end
end
end

section
set_option Elab.async false
set_option linter.all false
set_option maxRecDepth 100000
set_option maxHeartbeats 4000000
/-! WsJ: the checker of expressions against the text, and what it is good for. -/
noncomputable section
namespace Ws
open PySem PySem.Spec PyProof.Rows L2
/-! ### tables -/
structure Tab where
  fns : Nat → Option (Option Str × List Str)
  exs : Nat → Option Str
  exr : List Nat
  blt : List Str
  glb : List (Nat × Str × D)
  cls : List Str
  mth : Nat → Option (Nat × Str)
  pro : List Nat
/-- the place in the text: the scope, the names whose cells are made here, the slots -/
structure Sx where
  sc : Scope
  fn : Str → Bool
  N : List Str
def relab (sc scope : Scope) : Scope := { scope with names := scope.names.map fun (n, k) => if (k == .free && sc.kind == .function && sc.names.lookup n == some .cell) then (n, .cell) else (n, k) }
def blkS (S : Sx) (scope : Scope) : Sx := ⟨relab S.sc scope, fun x => scope.names.lookup x == some .cell, S.N⟩
/-! ### small looks -/
mutual
def D.eqB : D → D → Bool
  | .non, .non => true
  | .bl a, .bl b => a == b
  | .int a, .int b => decide (a = b)
  | .str a, .str b => decide (a = b)
  | .tup a, .tup b => eqBs a b
  | _, _ => false
def eqBs : List D → List D → Bool
  | [], [] => true
  | a :: r, b :: s => a.eqB b && eqBs r s
  | _, _ => false
end
mutual
theorem eqB_eq : ∀ {a b : D}, a.eqB b = true → a = b
  | .non, .non, _ => rfl
  | .bl a, .bl b, h => by rw [eq_of_beq (show (a == b) = true from h)]
  | .int a, .int b, h => by rw [of_decide_eq_true (show decide (a = b) = true from h)]
  | .str a, .str b, h => by rw [of_decide_eq_true (show decide (a = b) = true from h)]
  | .tup a, .tup b, h => by rw [eqBs_eq (show eqBs a b = true from h)]
  | .non, .bl _, h => by simp [D.eqB] at h
  | .non, .int _, h => by simp [D.eqB] at h
  | .non, .str _, h => by simp [D.eqB] at h
  | .non, .tup _, h => by simp [D.eqB] at h
  | .non, .ref _, h => by simp [D.eqB] at h
  | .non, .clo _ _, h => by simp [D.eqB] at h
  | .non, .kls _, h => by simp [D.eqB] at h
  | .bl _, .non, h => by simp [D.eqB] at h
  | .bl _, .int _, h => by simp [D.eqB] at h
  | .bl _, .str _, h => by simp [D.eqB] at h
  | .bl _, .tup _, h => by simp [D.eqB] at h
  | .bl _, .ref _, h => by simp [D.eqB] at h
  | .bl _, .clo _ _, h => by simp [D.eqB] at h
  | .bl _, .kls _, h => by simp [D.eqB] at h
  | .int _, .non, h => by simp [D.eqB] at h
  | .int _, .bl _, h => by simp [D.eqB] at h
  | .int _, .str _, h => by simp [D.eqB] at h
  | .int _, .tup _, h => by simp [D.eqB] at h
  | .int _, .ref _, h => by simp [D.eqB] at h
  | .int _, .clo _ _, h => by simp [D.eqB] at h
  | .int _, .kls _, h => by simp [D.eqB] at h
  | .str _, .non, h => by simp [D.eqB] at h
  | .str _, .bl _, h => by simp [D.eqB] at h
  | .str _, .int _, h => by simp [D.eqB] at h
  | .str _, .tup _, h => by simp [D.eqB] at h
  | .str _, .ref _, h => by simp [D.eqB] at h
  | .str _, .clo _ _, h => by simp [D.eqB] at h
  | .str _, .kls _, h => by simp [D.eqB] at h
  | .tup _, .non, h => by simp [D.eqB] at h
  | .tup _, .bl _, h => by simp [D.eqB] at h
  | .tup _, .int _, h => by simp [D.eqB] at h
  | .tup _, .str _, h => by simp [D.eqB] at h
  | .tup _, .ref _, h => by simp [D.eqB] at h
  | .tup _, .clo _ _, h => by simp [D.eqB] at h
  | .tup _, .kls _, h => by simp [D.eqB] at h
  | .ref _, _, h => by simp [D.eqB] at h
  | .clo _ _, _, h => by simp [D.eqB] at h
  | .kls _, _, h => by simp [D.eqB] at h
theorem eqBs_eq : ∀ {a b : List D}, eqBs a b = true → a = b
  | [], [], _ => rfl
  | a :: r, b :: s, h => by
    have h' : (a.eqB b && eqBs r s) = true := h
    rw [Bool.and_eq_true] at h'
    rw [eqB_eq h'.1, eqBs_eq h'.2]
  | [], _ :: _, h => by simp [eqBs] at h
  | _ :: _, [], h => by simp [eqBs] at h
end
def notStar : Expr → Bool
  | .Starred _ _ => false
  | _ => true
def notComp : Expr → Bool
  | .ListComp _ _ _ _ => false
  | .SetComp _ _ _ _ => false
  | .DictComp _ _ _ _ _ => false
  | _ => true
def notSetE : Expr → Bool
  | .Set _ _ _ => false
  | _ => true
def notSlice : Expr → Bool
  | .Slice _ _ _ _ => false
  | .Tuple _ _ _ => false
  | _ => true
def plainT : Expr → Bool
  | .Name _ _ => true
  | .Call _ _ _ _ => true
  | .Attribute _ _ _ => true
  | .Subscript _ _ _ => true
  | .Constant _ _ _ => true
  | _ => false
theorem star_one {e : Expr} {es : List Expr} {env : PySem.Env} (h : notStar e = true) : starEach (e :: es) env = (false, eval e env) :: starEach es env := by
  cases e <;> first | rfl | (cases h)
theorem back_any {pos : Pos} {env : PySem.Env} : ∀ {es : List Expr}, es.all notStar = true → (backTo pos (starEach es env)).any (·.1) = false
  | [], _ => rfl
  | e :: es, h => by
    rw [List.all_cons, Bool.and_eq_true] at h
    rw [star_one h.1]
    show (false || (backTo pos (starEach es env)).any (·.1)) = false
    rw [back_any h.2]; rfl
theorem swaps_no {e : Expr} {t : Option Expr} {l : Nat} {env : PySem.Env} (h : notComp e = true) : swapsWith e t l env = pure false := by
  cases e <;> first | rfl | (cases h)
theorem swaps_sub {e o i : Expr} {p : Pos} {l : Nat} {env : PySem.Env} : swapsWith e (some (.Subscript o i p)) l env = pure false := by
  cases e <;> rfl
theorem notSet_ok {e : Expr} {env : PySem.Env} (h : notSetE e = true) : ∀ x, foldedSetIterable e env x = pure x := by
  intro x
  cases e <;> first | rfl | (cases h)
theorem plainIx_ok {e : Expr} (h : notSlice e = true) : PlainIx e := by
  intro o i
  cases e <;> first | rfl | (cases h)
theorem noSl_ok {e : Expr} (h : notSlice e = true) : NoSl e := by
  intro o i
  cases e <;> first | rfl | (cases h)
theorem plainT_ok {e : Expr} {env : PySem.Env} (h : plainT e = true) : ∀ whole, isTrue e env whole = (do let v ← whole; standAt e.pos; holding [v] (truthy v)) := by
  intro whole
  cases e <;> first | rfl | (cases h)
/-! ### names -/
def visB (S : Sx) (i : Nat) (x : Str) : Bool := decide (S.N[i]? = some x) && (decide (S.sc.names.lookup x = some .local) || decide (S.sc.names.lookup x = some .cell) || decide (S.sc.names.lookup x = some .free)) && !(x == ("__debug__" : Str)) && !(x == ("__classdict__" : Str))
def locB (S : Sx) (i : Nat) (x : Str) : Bool := decide (S.N[i]? = some x) && (decide (S.sc.names.lookup x = some .local) || (decide (S.sc.names.lookup x = some .cell) && S.fn x))
def glB (S : Sx) (x : Str) : Bool := decide (S.sc.names.lookup x = some .globalImplicit) && !(x == ("__debug__" : Str)) && !(x == ("__name__" : Str))
def bltB (Tt : Tab) (S : Sx) (x : Str) : Bool := glB S x && decide (x ∈ Tt.blt)
def constB : D → Const → Bool
  | .non, .none => true
  | .bl b, .bool c => b == c
  | .int i, .int j => decide (i = j)
  | .str x, .str y => decide (x = y)
  | _, _ => false
def biN : Bi → Str
  | .len => "len"
  | .all => "all"
  | .any => "any"
  | .sum => "sum"
  | .min => "min"
  | .max => "max"
  | .sorted => "sorted"
  | .set => "set"
  | .list => "list"
  | .tuple => "tuple"
  | .int => "int"
  | .str => "str"
def esLen : Es → Nat
  | .nil => 0
  | .cons _ r => esLen r + 1
mutual
def chkTg (S : Sx) : Tg → Expr → Bool
  | .name i, .Name x _ => locB S i x
  | .tup ts, .Tuple es _ _ => chkTgs S ts es
  | _, _ => false
def chkTgs (S : Sx) : Tgs → List Expr → Bool
  | .nil, [] => true
  | .cons t r, e :: es => notStar e && chkTg S t e && chkTgs S r es
  | _, _ => false
end
def bmN : Bm → Str
  | .append => "append"
  | .pop => "pop"
  | .insert => "insert"
  | .split => "split"
  | .join => "join"
def isNilE : Es → Bool
  | .nil => true
  | _ => false
/-- its parameters -/
def arB (Tt : Tab) (f n : Nat) : Bool := match Tt.fns f with
  | some (_, ps) => decide (ps.length = n)
  | none => false
def methB (Tt : Tab) (C f : Nat) (m : Str) : Bool := decide (Tt.mth f = some (C, m)) && !decide (f ∈ Tt.pro) && !decide (m ∈ FLDS) && decide (0 < Tt.cls.length)
section
variable (Tt : Tab)
mutual
def chkE : E → Sx → Expr → Bool
  | .bad, _, _ => true
  | .var i, S, ex => match ex with
    | .Name x _ => visB S i x
    | _ => false
  | .lit d, S, ex => match ex with
    | .Constant c _ _ => constB d c
    | _ => false
  | .glo k d, S, ex => match ex with
    | .Name y _ => glB S y && Tt.glb.any fun p => decide (p.1 = k) && decide (p.2.1 = y) && p.2.2.eqB d
    | _ => false
  | .tup es, S, ex => match ex with
    | .Tuple xs _ _ => chkEs es S xs && decide (esLen es ≤ 1000)
    | _ => false
  | .lst es, S, ex => match ex with
    | .List xs _ => chkEs es S xs && decide (esLen es ≤ 1000)
    | _ => false
  | .dic0, _, ex => match ex with
    | .Dict [] [] _ => true
    | _ => false
  | .dic1 k v, S, ex => match ex with
    | .Dict [some x] [y] _ => chkE k S x && chkE v S y
    | _ => false
  | .bin op a b, S, ex => match ex with
    | .BinOp x o y _ => decide (bOp op = o) && chkE a S x && chkE b S y
    | _ => false
  | .neg a, S, ex => match ex with
    | .UnaryOp .USub x _ => chkE a S x
    | _ => false
  | .nt a, S, ex => match ex with
    | .UnaryOp .Not x _ => chkE a S x
    | _ => false
  | .and a b, S, ex => match ex with
    | .BoolOp .And [x, y] _ => chkE a S x && chkE b S y
    | .BoolOp .And (x :: y :: z :: r) p => chkE a S x && chkE b S (.BoolOp .And (y :: z :: r) p)
    | _ => false
  | .or a b, S, ex => match ex with
    | .BoolOp .Or [x, y] _ => chkE a S x && chkE b S y
    | .BoolOp .Or (x :: y :: z :: r) p => chkE a S x && chkE b S (.BoolOp .Or (y :: z :: r) p)
    | _ => false
  | .cmp op a b, S, ex => match ex with
    | .Compare x [o] [y] _ => decide (cOp op = o) && !(behindInMarks (cOp op) y) && chkE a S x && chkE b S y
    | _ => false
  | .chain p q a b c, S, ex => match ex with
    | .Compare x [o, o'] [y, z] _ => decide (cOp p = o) && decide (cOp q = o') && !(lastMarks [cOp p, cOp q] [y, z]) && chkE a S x && chkE b S y && chkE c S z
    | _ => false
  | .isN a, S, ex => match ex with
    | .Compare x [.Is] [.Constant .none _ _] _ => chkE a S x
    | _ => false
  | .notN a, S, ex => match ex with
    | .Compare x [.IsNot] [.Constant .none _ _] _ => chkE a S x
    | _ => false
  | .ite t a b, S, ex => match ex with
    | .IfExp x y z _ => chkT t S x && chkE a S y && chkE b S z
    | _ => false
  | .call f es, S, ex => match ex with
    | .Call (.Name x _) (y :: ys) [] _ => glB S x && (match Tt.fns f with
      | some (some z, ps) => decide (z = x) && decide (esLen es = ps.length)
      | _ => false) && chkEs es S (y :: ys)
    | _ => false
  | .make C f es, S, ex => match ex with
    | .Call (.Name x _) (y :: ys) [] _ => glB S x && decide (Tt.cls[C]? = some x) && decide (Tt.mth f = some (C, ("__init__" : Str))) && arB Tt f (esLen es + 1) && chkEs es S (y :: ys)
    | _ => false
  | .meth C f o es, S, ex => match ex with
    | .Call (.Attribute v m apos) [] [] pos => isNilE es && methB Tt C f m && arB Tt f 1 && notCallE v && (apos.endLine == pos.line) && chkE o S v
    | .Call (.Attribute v m apos) (y :: ys) [] pos => methB Tt C f m && arB Tt f (esLen es + 1) && notCallE v && (apos.endLine == pos.line) && decide ((y :: ys).length < 29) && chkE o S v && chkEs es S (y :: ys)
    | _ => false
  | .prop C f o, S, ex => match ex with
    | .Attribute v m _ => decide (Tt.mth f = some (C, m)) && decide (f ∈ Tt.pro) && decide (0 < Tt.cls.length) && arB Tt f 1 && notCallE v && chkE o S v
    | _ => false
  | .bi b es, S, ex => match ex with
    | .Call (.Name x _) (y :: ys) [] _ => decide (biN b = x) && bltB Tt S x && chkEs es S (y :: ys)
    | _ => false
  | .isi t e, S, ex => match ex with
    | .Call (.Name x _) [y, .Name z _] [] _ => decide (x = "isinstance") && decide (Str.ofString t = z) && decide (t ∈ isiT) && bltB Tt S x && bltB Tt S z && notStar y && chkE e S y
    | _ => false
  | .bm m o es, S, ex => match ex with
    | .Call (.Attribute v x apos) [] [] pos => isNilE es && decide (m = .pop) && decide (x = "pop") && notCallE v && (apos.endLine == pos.line) && chkE o S v
    | .Call (.Attribute v x apos) (y :: ys) [] pos => decide (bmN m = x) && (decide (m = .append) || decide (m = .insert) || (decide (m = .pop) && decide (esLen es = 1))) && notCallE v && (apos.endLine == pos.line) && decide ((y :: ys).length < 29) && chkE o S v && chkEs es S (y :: ys)
    | _ => false
  | .fld x o, S, ex => match ex with
    | .Attribute v y _ => decide (x = y) && decide (x ∈ FLDS) && decide (0 < Tt.cls.length) && notCallE v && chkE o S v
    | _ => false
  | .ix a b, S, ex => match ex with
    | .Subscript x y _ => notSlice y && chkE a S x && chkE b S y
    | _ => false
  | .ixd a b, S, ex => match ex with
    | .Subscript x y _ => notSlice y && chkE a S x && chkE b S y
    | _ => false
  | .sl a lo hi, S, ex => match ex with
    | .Subscript x (.Slice l h none _) _ => chkE a S x && chkEo lo S l && chkEo hi S h
    | _ => false
  | .slr a, S, ex => match ex with
    | .Subscript x (.Slice none none (some (.UnaryOp .USub (.Constant (.int i) _ _) _)) _) _ => decide (i = 1) && chkE a S x
    | _ => false
  | .ginD _ _ _ _, _, _ => false
  | .gixD _ _ _, _, _ => false
  | .lc own elt tg src c, S, ex => match ex with
    | .ListComp x [g] scope _ => decide (g.is_async = 0) && notSetE g.iter && blkC S.N S.sc scope own && (tslots tg).all (fun i => decide (i ∈ own.map (·.2))) && chkTg (blkS S scope) tg g.target && chkSrc src S g.target g.iter &&
        chkTo c (blkS S scope) g.ifs && chkE elt (blkS S scope) x
    | _ => false
  | .lcd _ _ _ _ _, _, _ => false
  | .lc2 _ _ _ _ _ _ _, _, _ => false
  | .dc2 _ _ _ _ _ _ _, _, _ => false
  | .fstr _, _, _ => false
  | .lzip _ _, _, _ => false
  | .lrng1 a, S, ex => match ex with
    | .Call (.Name f _) [.Call (.Name g _) [x] [] _] [] _ => decide (f = "list") && decide (g = "range") && bltB Tt S f && bltB Tt S g && notStar x && chkE a S x
    | _ => false
  | .lrng3 a b c, S, ex => match ex with
    | .Call (.Name f _) [.Call (.Name g _) [x, y, z] [] _] [] _ => decide (f = "list") && decide (g = "range") && bltB Tt S f && bltB Tt S g && notStar x && notStar y && notStar z && chkE a S x && chkE b S y && chkE c S z
    | _ => false
  | .clo _ _, _, _ => false
  | .callc _ _, _, _ => false
  | .lenI C f o, S, ex => match ex with
    | .Call (.Name x _) [y] [] _ => decide (x = "len") && bltB Tt S x && methB Tt C f "__len__" && arB Tt f 1 && notStar y && chkE o S y
    | _ => false
def chkT : T → Sx → Expr → Bool
  | .bad, _, _ => true
  | .ginD _ _ _ _, _, _ => false
  | .nt a, S, ex => match ex with
    | .UnaryOp .Not x _ => chkT a S x
    | _ => false
  | .and a b, S, ex => match ex with
    | .BoolOp .And [x, y] _ => chkT a S x && chkT b S y
    | .BoolOp .And (x :: y :: z :: r) p => chkT a S x && chkT b S (.BoolOp .And (y :: z :: r) p)
    | _ => false
  | .or a b, S, ex => match ex with
    | .BoolOp .Or [x, y] _ => chkT a S x && chkT b S y
    | .BoolOp .Or (x :: y :: z :: r) p => chkT a S x && chkT b S (.BoolOp .Or (y :: z :: r) p)
    | _ => false
  | .cmp op a b, S, ex => match ex with
    | .Compare x [o] [y] _ => decide (cOp op = o) && !(behindInMarks (cOp op) y) && chkE a S x && chkE b S y
    | _ => false
  | .chain p q a b c, S, ex => match ex with
    | .Compare x [o, o'] [y, z] _ => decide (cOp p = o) && decide (cOp q = o') && !(lastMarks [cOp p, cOp q] [y, z]) && chkE a S x && chkE b S y && chkE c S z
    | _ => false
  | .isN a, S, ex => match ex with
    | .Compare x [.Is] [.Constant .none _ _] _ => chkE a S x
    | _ => false
  | .notN a, S, ex => match ex with
    | .Compare x [.IsNot] [.Constant .none _ _] _ => chkE a S x
    | _ => false
  | .of e, S, ex => plainT ex && chkE e S ex
def chkTo : To → Sx → List Expr → Bool
  | .no, _, ex => match ex with
    | [] => true
    | _ => false
  | .of t, S, ex => match ex with
    | [x] => chkT t S x
    | _ => false
def chkEs : Es → Sx → List Expr → Bool
  | .nil, _, ex => match ex with
    | [] => true
    | _ => false
  | .cons e r, S, ex => match ex with
    | x :: xs => notStar x && chkE e S x && chkEs r S xs
    | _ => false
def chkEo : Eo → Sx → Option Expr → Bool
  | .no, _, ex => match ex with
    | none => true
    | _ => false
  | .of e, S, ex => match ex with
    | some x => chkE e S x
    | _ => false
def chkSrc : Src → Sx → Expr → Expr → Bool
  | .of e, S, _, ex => chkE e S ex
  | .rng1 a, S, _, ex => match ex with
    | .Call (.Name f _) [x] [] _ => decide (f = "range") && bltB Tt S f && notStar x && chkE a S x
    | _ => false
  | .rng2 a b, S, _, ex => match ex with
    | .Call (.Name f _) [x, y] [] _ => decide (f = "range") && bltB Tt S f && notStar x && notStar y && chkE a S x && chkE b S y
    | _ => false
  | .rng3 a b c, S, _, ex => match ex with
    | .Call (.Name f _) [x, y, z] [] _ => decide (f = "range") && bltB Tt S f && notStar x && notStar y && notStar z && chkE a S x && chkE b S y && chkE c S z
    | _ => false
  | .enum a, S, tg, ex => match tg, ex with
    | .Tuple _ _ _, .Call (.Name f _) [x] [] _ => decide (f = "enumerate") && bltB Tt S f && notStar x && chkE a S x
    | _, _ => false
  | .zip a b, S, tg, ex => match tg, ex with
    | .Tuple _ _ _, .Call (.Name f _) [x, y] [] _ => decide (f = "zip") && bltB Tt S f && notStar x && notStar y && chkE a S x && chkE b S y
    | _, _ => false
end
end
/-! ### what stands around -/
structure Facts (G : Gam) (Tt : Tab) : Prop where
  fns : ∀ f x ps, Tt.fns f = some (x, ps) → G.fP f = ps ∧ (∀ z, x = some z → G.mg z = some (.ref (G.fA f))) ∧ PySem.W.keepIn G.K (.ref (G.fA f)) = true ∧ Binds G.K (G.fD f) (G.fP f) []
  blt : ∀ x ∈ Tt.blt, G.mg x = none
  exn : ∀ c x, Tt.exs c = some x → G.mg x = some (.ref (G.xA c))
  exr : ∀ c ∈ Tt.exr, PySem.W.keepIn G.K (.ref (G.xA c)) = true ∧ (∀ X : Cx, X.K = G.K → Raises X (.ref (G.xA c))) ∧ ∃ bmB B newId initId, ExcBaseFacts B newId initId bmB ∧ PySem.W.excIn G.K (G.xA c) bmB newId = true
  exm : ∀ c h x, Tt.exs h = some x → PySem.W.exmOne G.K (.ref (G.xA c)) (.ref (G.xA h)) = some (subX c h)
  cls : 0 < Tt.cls.length → ∀ C, Cls G.K (G.cA C) ∧ ∀ x ∈ FLDS, NoAttr G.K (G.cA C) x
  mkr : ∀ C f x, Tt.cls[C]? = some x → Tt.mth f = some (C, ("__init__" : Str)) → Mk G.K (G.cA C) (G.fA f) ∧ G.mg x = some (.ref (G.cA C))
  mth : ∀ C f m, Tt.mth f = some (C, m) → f ∉ Tt.pro → Meth G.K (G.cA C) m (G.fA f)
  pro : ∀ C f m, Tt.mth f = some (C, m) → f ∈ Tt.pro → ∃ p, PropOf G.K (G.cA C) m p (G.fA f)
  glb : ∀ p ∈ Tt.glb, ∃ v u, G.mg p.2.1 = some u ∧ RelV v u ∧ ∀ μ n H, Rep G μ n H p.2.2 v
structure GdE (G : Gam) (Tt : Tab) (cl : Call) (k : Nat) (W : WX) (S : Sx) (X : Cx) : Prop where
  fx : Facts G Tt
  hK : X.K = G.K
  hw : X.w = G.w
  hmg : X.mg = G.mg
  nd : X.N.Nodup
  calm : X.calm = true
  tk : Takes X W
  room : Room (k + 1) X.A
  fns : ∀ f, (Tt.fns f).isSome = true → FnOk X.prog X.w X.K X.mg X.base (L2.CX X.prog X.w) k (G.fA f) (G.fD f) (G.fP f) (spI G cl f)
  sc : X.env.scope = S.sc
  fn : ∀ x, S.fn x = true → X.fn x = true
  N : X.N = S.N
abbrev W0 : WX := fun _ _ _ _ => False
section
variable {G : Gam} {Tt : Tab} {cl : Call} {k : Nat} {W : WX} {S : Sx} {X : Cx}
theorem GdE.blk (g : GdE G Tt cl k W S X) (s : Shared) (H : Hp) (C : Addr) (c : List (Str × Addr)) (fp : List Addr) (scope : Scope) :
    GdE G Tt cl k W0 (blkS S scope) (X.blk s H scope (compEnvC scope c C X.env) fp) :=
  ⟨g.fx, g.hK, g.hw, g.hmg, g.nd, g.calm, takes0, g.room, g.fns, by show relabel scope X.env = relab S.sc scope; rw [← g.sc]; rfl, fun x h => h, g.N⟩
theorem GdE.hu (g : GdE G Tt cl k W S X) : X.A.units + 65 < cLine := by have := g.room.un; omega
theorem visB_ok (g : GdE G Tt cl k W S X) {i : Nat} {x : Str} (h : visB S i x = true) : X.N[i]? = some x ∧ Vis X.env.scope x ∧ (x == ("__debug__" : Str)) = false ∧ (x == ("__classdict__" : Str)) = false := by
  unfold visB at h
  simp only [Bool.and_eq_true, Bool.or_eq_true, Bool.not_eq_true', decide_eq_true_eq] at h
  obtain ⟨⟨⟨h1, h2⟩, h3⟩, h4⟩ := h
  refine ⟨by rw [g.N]; exact h1, ?_, h3, h4⟩
  rw [g.sc]
  rcases h2 with (h2 | h2) | h2
  · exact .inl h2
  · exact .inr (.inl h2)
  · exact .inr (.inr h2)
theorem locB_ok (g : GdE G Tt cl k W S X) {i : Nat} {x : Str} (h : locB S i x = true) : X.N[i]? = some x ∧ L2.Loc X.env.scope x ∧ (X.fn x = true ∨ X.env.scope.names.lookup x = some .local) := by
  unfold locB at h
  simp only [Bool.and_eq_true, Bool.or_eq_true, decide_eq_true_eq] at h
  obtain ⟨h1, h2⟩ := h
  refine ⟨by rw [g.N]; exact h1, ?_⟩
  rw [g.sc]
  rcases h2 with h2 | ⟨h2, h3⟩
  · exact ⟨.inl h2, .inr h2⟩
  · exact ⟨.inr h2, .inl (g.fn x h3)⟩
theorem glB_ok (g : GdE G Tt cl k W S X) {x : Str} (h : glB S x = true) : Gl X x ∧ (x == ("__debug__" : Str)) = false ∧ x ≠ "__name__" := by
  unfold glB at h
  simp only [Bool.and_eq_true, Bool.not_eq_true', decide_eq_true_eq] at h
  obtain ⟨⟨h1, h2⟩, h3⟩ := h
  refine ⟨?_, h2, fun e => by rw [e] at h3; exact absurd h3 (by decide)⟩
  show X.env.scope.names.lookup x = _
  rw [g.sc]; exact h1
theorem bltB_ok (g : GdE G Tt cl k W S X) {x : Str} (h : bltB Tt S x = true) : Gl X x ∧ (x == ("__debug__" : Str)) = false ∧ x ≠ "__name__" ∧ X.mg x = none := by
  unfold bltB at h
  rw [Bool.and_eq_true, decide_eq_true_eq] at h
  obtain ⟨h1, h2, h3⟩ := glB_ok g h.1
  exact ⟨h1, h2, h3, by rw [g.hmg]; exact g.fx.blt x h.2⟩
theorem isNilE_eq {es : Es} (h : isNilE es = true) : es = .nil := by
  cases es <;> first | rfl | cases h
theorem arB_ok (g : GdE G Tt cl k W S X) {f n : Nat} (h : arB Tt f n = true) : ((Tt.fns f).isSome = true) ∧ (G.fP f).length = n ∧ Binds X.K (G.fD f) (G.fP f) [] := by
  unfold arB at h
  split at h
  · rename_i x ps hf
    obtain ⟨h1, h2, h3, h4⟩ := g.fx.fns _ _ _ hf
    exact ⟨by rw [hf]; rfl, by rw [h1]; exact of_decide_eq_true h, by rw [g.hK]; exact h4⟩
  · cases h
theorem methB_ok (g : GdE G Tt cl k W S X) {C f : Nat} {m : Str} (h : methB Tt C f m = true) : Cls G.K (G.cA C) ∧ Meth G.K (G.cA C) m (G.fA f) ∧ m ∉ FLDS := by
  unfold methB at h
  simp only [Bool.and_eq_true, Bool.not_eq_true', decide_eq_true_eq, decide_eq_false_iff_not] at h
  obtain ⟨⟨⟨h1, h2⟩, h3⟩, h4⟩ := h
  exact ⟨(g.fx.cls h4 C).1, g.fx.mth _ _ _ h1 h2, h3⟩
mutual
theorem sTg (g : GdE G Tt cl k W S X) : ∀ (t : Tg) (e : Expr), chkTg S t e = true → PG X e (gT G.K t)
  | .name i, e, h => by
    cases e with
    | Name x p =>
      obtain ⟨h1, h2, h3⟩ := locB_ok g (show locB S i x = true from h)
      exact pg_name g.nd h1 h2 h3
    | _ => simp [chkTg] at h
  | .tup ts, e, h => by
    cases e with
    | Tuple es kk p =>
      have h' : chkTgs S ts es = true := h
      rw [← g.hK]
      have z := sTgs g ts es h'
      rw [g.hK]
      rw [← g.hK] at z ⊢
      exact pg_tup g.calm z.1 z.2.1 z.2.2
    | _ => simp [chkTg] at h
theorem sTgs (g : GdE G Tt cl k W S X) : ∀ (ts : Tgs) (es : List Expr), chkTgs S ts es = true → PGs X es (gTs G.K ts) ∧ (assignEach es X.env).length = tlen ts ∧ (assignEach es X.env).findIdx? (·.1) = none
  | .nil, es, h => by
    cases es with
    | nil => exact ⟨pgs_nil, rfl, rfl⟩
    | cons _ _ => simp [chkTgs] at h
  | .cons t r, es, h => by
    cases es with
    | nil => simp [chkTgs] at h
    | cons e es =>
      have h' : (notStar e && chkTg S t e && chkTgs S r es) = true := h
      simp only [Bool.and_eq_true] at h'
      obtain ⟨z1, z2, z3⟩ := sTgs g r es h'.2
      have a1 : assignEach (e :: es) X.env = (false, PySem.assign e X.env) :: assignEach es X.env := by
        have h0 := h'.1.1
        cases e <;> first | rfl | (cases h0)
      refine ⟨pgs_cons (sTg g t e h'.1.2) z1 (by rw [a1]; rfl), by rw [a1, List.length_cons, z2]; rfl, ?_⟩
      rw [a1, List.findIdx?_cons]
      simp [z3]
end
end
end Ws
end
end

section
set_option Elab.async false
set_option linter.all false
set_option maxRecDepth 100000
set_option maxHeartbeats 4000000
/-! WsK: checked expressions do what the interpreter says. -/
noncomputable section
namespace Ws
open PySem PySem.Spec PyProof.Rows L2
section
variable {G : Gam} {Tt : Tab} {cl : Call} {k : Nat}
theorem evEs_len : ∀ (es : Es) {env : Env} {st : AS} {ds : List D} {st' : AS}, evEs cl es env st = .ok ds st' → ds.length = esLen es
  | .nil, env, st, ds, st', h => by
    simp only [evEs, Res.ok.injEq] at h
    rw [← h.1]; rfl
  | .cons e r, env, st, ds, st', h => by
    simp only [evEs] at h
    cases h1 : evE cl e env st with
    | ok d s1 =>
      rw [h1] at h
      simp only [bind_ok] at h
      cases h2 : evEs cl r env s1 with
      | ok d2 s2 =>
        rw [h2] at h
        simp only [bind_ok, Res.ok.injEq] at h
        rw [← h.1, List.length_cons, evEs_len r h2]; rfl
      | exn c p s2 => rw [h2] at h; cases h
      | bad => rw [h2] at h; cases h
    | exn c p s1 => rw [h1] at h; cases h
    | bad => rw [h1] at h; cases h
theorem chkEs_star : ∀ (es : Es) {S : Sx} {xs : List Expr}, chkEs Tt es S xs = true → xs.all notStar = true
  | .nil, S, [], _ => rfl
  | .nil, S, _ :: _, h => by simp [chkEs] at h
  | .cons e r, S, [], h => by simp [chkEs] at h
  | .cons e r, S, x :: xs, h => by
    simp only [chkEs, Bool.and_eq_true] at h
    rw [List.all_cons, h.1.1, chkEs_star r h.2]; rfl
theorem szOk {n : Nat} (h : n ≤ 1000) : n ≤ szMax := Nat.le_trans h (by unfold szMax; omega)
theorem constB_ok {X : Cx} {W : WX} {d : D} {c : Const} {j : Nat} {p : Pos} (h : constB d c = true) : PE X (.Constant c j p) (tV G W fun _ st => .ok d st) := by
  unfold constB at h
  split at h
  · exact w_const pe_non fun _ _ _ => rfl
  · rw [eq_of_beq h]; exact w_const pe_bl fun _ _ _ => rfl
  · rw [of_decide_eq_true h]; exact w_const pe_int fun _ _ _ => rfl
  · rw [of_decide_eq_true h]; exact w_const pe_str fun _ _ _ => rfl
  · cases h
theorem isi_boot {t : String} (h : t ∈ isiT) : bootBuiltins (Str.ofString t) = some (.type t) := by
  unfold isiT at h
  simp only [List.mem_cons, List.not_mem_nil, or_false] at h
  rcases h with rfl | rfl | rfl | rfl | rfl <;> rfl
theorem lastMarks2 {o o' : CmpOp} {y z : Expr} : lastMarks [o, o'] [y, z] = behindInMarks o' z := by
  cases z <;> rfl
mutual
theorem sE : ∀ (e : E) {W : WX} {S : Sx} {X : Cx}, GdE G Tt cl k W S X → ∀ (ex : Expr), chkE Tt e S ex = true → PE X ex (tV G W (evE cl e))
  | .bad, W, S, X, g, ex, h => ⟨fun pins s σ H Q I ⟨μ, env, st, R, e, p⟩ => p.elim⟩
  | .var i, W, S, X, g, ex, h => by
    unfold chkE at h
    split at h
    · obtain ⟨h1, h2, h3, h4⟩ := visB_ok g h
      exact w_var h1 h2 h3 h4
    · cases h
  | .lit d, W, S, X, g, ex, h => by
    unfold chkE at h
    split at h
    · exact constB_ok h
    · cases h
  | .glo q d, W, S, X, g, ex, h => by
    unfold chkE at h
    split at h
    · simp only [Bool.and_eq_true, decide_eq_true_eq, List.any_eq_true] at h
      obtain ⟨h2, p, hp, ⟨h3, rfl⟩, h4⟩ := h
      obtain ⟨h5, h6, h7⟩ := glB_ok g h2
      obtain ⟨v, u, h8, h9, h10⟩ := g.fx.glb p hp
      rw [← eqB_eq h4]
      exact w_const (pe_glob h5 (by rw [g.hmg]; exact h8) h9 h6) h10
    · cases h
  | .tup es, W, S, X, g, ex, h => by
    unfold chkE at h
    split at h
    · simp only [Bool.and_eq_true, decide_eq_true_eq] at h
      exact w_tup (sEs es g _ h.1) fun env st ds st' e => by rw [evEs_len es e]; exact szOk h.2
    · cases h
  | .lst es, W, S, X, g, ex, h => by
    unfold chkE at h
    split at h
    · simp only [Bool.and_eq_true, decide_eq_true_eq] at h
      exact w_lst (sEs es g _ h.1) fun env st ds st' e => by rw [evEs_len es e]; exact szOk h.2
    · cases h
  | .dic0, W, S, X, g, ex, h => by
    unfold chkE at h
    split at h
    · exact w_dic0
    · cases h
  | .dic1 a b, W, S, X, g, ex, h => by
    unfold chkE at h
    split at h
    · rw [Bool.and_eq_true] at h
      exact w_dic1 (sE a g _ h.1) (sE b g _ h.2)
    · cases h
  | .bin op a b, W, S, X, g, ex, h => by
    unfold chkE at h
    split at h
    · simp only [Bool.and_eq_true, decide_eq_true_eq] at h
      obtain ⟨⟨rfl, h1⟩, h2⟩ := h
      exact w_op (opBin op) (by rw [g.hK]; exact rcBin op) (sE a g _ h1) (sE b g _ h2)
    · cases h
  | .neg a, W, S, X, g, ex, h => by
    unfold chkE at h
    split at h
    · exact w_neg (sE a g _ h)
    · cases h
  | .nt a, W, S, X, g, ex, h => by
    unfold chkE at h
    split at h
    · exact w_ntV (sE a g _ h)
    · cases h
  | .and a b, W, S, X, g, ex, h => by
    unfold chkE at h
    split at h
    · rw [Bool.and_eq_true] at h
      exact w_andV (sE a g _ h.1) (pe_one (sE b g _ h.2))
    · rw [Bool.and_eq_true] at h
      exact w_andV (sE a g _ h.1) (sE b g _ h.2)
    · cases h
  | .or a b, W, S, X, g, ex, h => by
    unfold chkE at h
    split at h
    · rw [Bool.and_eq_true] at h
      exact w_orV (sE a g _ h.1) (pe_one (sE b g _ h.2))
    · rw [Bool.and_eq_true] at h
      exact w_orV (sE a g _ h.1) (sE b g _ h.2)
    · cases h
  | .cmp op a b, W, S, X, g, ex, h => by
    unfold chkE at h
    split at h
    · simp only [Bool.and_eq_true, decide_eq_true_eq, Bool.not_eq_true'] at h
      obtain ⟨⟨⟨rfl, h1⟩, h2⟩, h3⟩ := h
      exact w_cmp (opCmp g.hu op) (by rw [g.hK]; exact rcCmp op) (sE a g _ h2) (sE b g _ h3) h1
    · cases h
  | .chain p q a b c, W, S, X, g, ex, h => by
    unfold chkE at h
    split at h
    · simp only [Bool.and_eq_true, decide_eq_true_eq, Bool.not_eq_true'] at h
      obtain ⟨⟨⟨⟨⟨rfl, rfl⟩, h1⟩, h2⟩, h3⟩, h4⟩ := h
      exact w_chain (opCmp g.hu p) (opCmp g.hu q) (by rw [g.hK]; exact rcCmp p) (by rw [g.hK]; exact rcCmp q) (sE a g _ h2) (sE b g _ h3) (sE c g _ h4) h1
    · cases h
  | .isN a, W, S, X, g, ex, h => by
    unfold chkE at h
    split at h
    · exact w_isN (sE a g _ h)
    · cases h
  | .notN a, W, S, X, g, ex, h => by
    unfold chkE at h
    split at h
    · exact w_notN (sE a g _ h)
    · cases h
  | .ite t a b, W, S, X, g, ex, h => by
    unfold chkE at h
    split at h
    · simp only [Bool.and_eq_true] at h
      exact w_ite (sT t g _ h.1.1).1 (sE a g _ h.1.2) (sE b g _ h.2)
    · cases h
  | .call f es, W, S, X, g, ex, h => by
    unfold chkE at h
    split at h
    · simp only [Bool.and_eq_true] at h
      obtain ⟨⟨h1, h2⟩, h3⟩ := h
      split at h2
      · rename_i z ps hf
        simp only [Bool.and_eq_true, decide_eq_true_eq] at h2
        obtain ⟨rfl, h4⟩ := h2
        obtain ⟨f1, f2, f3, f4⟩ := g.fx.fns _ _ _ hf
        obtain ⟨g1, g2, g3⟩ := glB_ok g h1
        have hst := chkEs_star es h3
        rw [List.all_cons, Bool.and_eq_true] at hst
        exact w_call (g.fns f (by rw [hf]; rfl)) (g.room.mono (Nat.le_succ k)) g1 (by rw [g.hmg]; exact f2 _ rfl) (by rw [g.hK]; exact f3) (by rw [g.hK]; exact f4) g.tk (sEs es g _ h3)
          (fun env st ds st' e => by rw [evEs_len es e, h4, f1]) g2 (star_one hst.1) (back_any hst.2)
      · cases h2
    · cases h
  | .make C f es, W, S, X, g, ex, h => by
    unfold chkE at h
    split at h
    · simp only [Bool.and_eq_true, decide_eq_true_eq] at h
      obtain ⟨⟨⟨⟨h1, h2⟩, h3⟩, h4⟩, h5⟩ := h
      obtain ⟨g1, g2, g3⟩ := glB_ok g h1
      obtain ⟨a1, a2, a3⟩ := arB_ok g h4
      obtain ⟨m1, m2⟩ := g.fx.mkr _ _ _ h2 h3
      have hst := chkEs_star es h5
      rw [List.all_cons, Bool.and_eq_true] at hst
      exact w_make g.hK m1 (g.fns f a1) g.room g1 (by rw [g.hmg]; exact m2) a3 g.tk (sEs es g _ h5) (fun env st ds st' e => by rw [evEs_len es e, a2]) g2 (star_one hst.1) (back_any hst.2)
    · cases h
  | .meth C f o es, W, S, X, g, ex, h => by
    unfold chkE at h
    split at h
    · simp only [Bool.and_eq_true] at h
      obtain ⟨⟨⟨⟨⟨h1, h2⟩, h3⟩, h4⟩, h5⟩, h6⟩ := h
      have e0 := isNilE_eq h1
      subst e0
      obtain ⟨c1, c2, c3⟩ := methB_ok g h2
      obtain ⟨a1, a2, a3⟩ := arB_ok g h3
      exact w_meth0 g.hK c1 c2 c3 (g.fns f a1) (g.room.mono (Nat.le_succ k)) a3 g.tk (sE o g _ h6) a2.symm (meth_form h4 (form_ok (args := []) rfl (by decide)) h5)
    · simp only [Bool.and_eq_true, decide_eq_true_eq] at h
      obtain ⟨⟨⟨⟨⟨⟨h2, h3⟩, h4⟩, h5⟩, h7⟩, h6⟩, h8⟩ := h
      obtain ⟨c1, c2, c3⟩ := methB_ok g h2
      obtain ⟨a1, a2, a3⟩ := arB_ok g h3
      have hst := chkEs_star es h8
      have hal := hst
      rw [List.all_cons, Bool.and_eq_true] at hst
      exact w_meth g.hK c1 c2 c3 (g.fns f a1) (g.room.mono (Nat.le_succ k)) a3 g.tk (sE o g _ h6) (sEs es g _ h8) (fun env st ds st' e => by rw [evEs_len es e, a2]) (star_one hst.1) (back_any hst.2)
        (meth_form h4 (form_ok (back_any hal) (by have z : ([] : List Keyword).length = 0 := rfl; rw [z]; omega)) h5)
    · cases h
  | .prop C f o, W, S, X, g, ex, h => by
    unfold chkE at h
    split at h
    · simp only [Bool.and_eq_true, decide_eq_true_eq] at h
      obtain ⟨⟨⟨⟨⟨h1, h2⟩, h3⟩, h4⟩, h5⟩, h6⟩ := h
      obtain ⟨a1, a2, a3⟩ := arB_ok g h4
      obtain ⟨p, hp⟩ := g.fx.pro _ _ _ h1 h2
      exact w_prop g.hK (g.fx.cls h3 C).1 hp (g.fns f a1) g.room a3 (sE o g _ h6) a2.symm (attrBase_ok h5)
    · cases h
  | .bi b es, W, S, X, g, ex, h => by
    unfold chkE at h
    split at h
    · simp only [Bool.and_eq_true, decide_eq_true_eq] at h
      obtain ⟨⟨rfl, h1⟩, h2⟩ := h
      obtain ⟨g1, g2, g3, g4⟩ := bltB_ok g h1
      have hst := chkEs_star es h2
      rw [List.all_cons, Bool.and_eq_true] at hst
      cases b with
      | len => exact w_bi (id := "len") rfl g.hK g.hw g.calm g1 g4 (by rfl) (sEs es g _ h2) g3 g2 (star_one hst.1) (back_any hst.2)
      | all => exact w_bi (id := "all") rfl g.hK g.hw g.calm g1 g4 (by rfl) (sEs es g _ h2) g3 g2 (star_one hst.1) (back_any hst.2)
      | any => exact w_bi (id := "any") rfl g.hK g.hw g.calm g1 g4 (by rfl) (sEs es g _ h2) g3 g2 (star_one hst.1) (back_any hst.2)
      | sum => exact w_bi (id := "sum") rfl g.hK g.hw g.calm g1 g4 (by rfl) (sEs es g _ h2) g3 g2 (star_one hst.1) (back_any hst.2)
      | min => exact w_bi (id := "min") rfl g.hK g.hw g.calm g1 g4 (by rfl) (sEs es g _ h2) g3 g2 (star_one hst.1) (back_any hst.2)
      | max => exact w_bi (id := "max") rfl g.hK g.hw g.calm g1 g4 (by rfl) (sEs es g _ h2) g3 g2 (star_one hst.1) (back_any hst.2)
      | sorted => exact w_bi (id := "sorted") rfl g.hK g.hw g.calm g1 g4 (by rfl) (sEs es g _ h2) g3 g2 (star_one hst.1) (back_any hst.2)
      | set => exact w_biTy (T := "set") rfl g.hK g.hw g.calm g1 g4 (by rfl) (sEs es g _ h2) g3 g2 (star_one hst.1) (back_any hst.2)
      | list => exact w_biTy (T := "list") rfl g.hK g.hw g.calm g1 g4 (by rfl) (sEs es g _ h2) g3 g2 (star_one hst.1) (back_any hst.2)
      | tuple => exact w_biTy (T := "tuple") rfl g.hK g.hw g.calm g1 g4 (by rfl) (sEs es g _ h2) g3 g2 (star_one hst.1) (back_any hst.2)
      | int => exact w_biTy (T := "int") rfl g.hK g.hw g.calm g1 g4 (by rfl) (sEs es g _ h2) g3 g2 (star_one hst.1) (back_any hst.2)
      | str => exact w_biTy (T := "str") rfl g.hK g.hw g.calm g1 g4 (by rfl) (sEs es g _ h2) g3 g2 (star_one hst.1) (back_any hst.2)
    · cases h
  | .isi t e, W, S, X, g, ex, h => by
    unfold chkE at h
    split at h
    · simp only [Bool.and_eq_true, decide_eq_true_eq] at h
      obtain ⟨⟨⟨⟨⟨⟨rfl, rfl⟩, h1⟩, h2⟩, h3⟩, h4⟩, h5⟩ := h
      obtain ⟨g1, g2, g3, g4⟩ := bltB_ok g h2
      obtain ⟨k1, k2, k3, k4⟩ := bltB_ok g h3
      exact w_isi h1 g.hK g1 g4 k1 k4 (isi_boot h1) k3 k2 (sE e g _ h5) (star_one h4) rfl
    · cases h
  | .bm m o es, W, S, X, g, ex, h => by
    unfold chkE at h
    split at h
    · simp only [Bool.and_eq_true, decide_eq_true_eq] at h
      obtain ⟨⟨⟨⟨⟨h1, rfl⟩, rfl⟩, h4⟩, h5⟩, h6⟩ := h
      have e0 := isNilE_eq h1
      subst e0
      exact w_bmR0 (m := .pop) g.hK PySem.F.plainAttrs_list PySem.F.slot_list_pop PySem.F.type_list_pop mt_pop (ty_lst (.inr (.inl rfl))) c_pop0 (sE o g _ h6) h4 h5
    · simp only [Bool.and_eq_true, Bool.or_eq_true, decide_eq_true_eq] at h
      obtain ⟨⟨⟨⟨⟨⟨h1, h2⟩, h4⟩, h5⟩, h7⟩, h6⟩, h8⟩ := h
      have hst := chkEs_star es h8
      rw [List.all_cons, Bool.and_eq_true] at hst
      rcases h2 with (rfl | rfl) | ⟨rfl, h9⟩
      · subst h1
        exact w_bmR (m := .append) g.hK PySem.F.plainAttrs_list PySem.F.slot_list_append PySem.F.type_list_append mt_append (ty_lst (.inl rfl)) c_append (sE o g _ h6) (sEs es g _ h8) h4 h7 h5 (star_one hst.1) (back_any hst.2)
      · subst h1
        exact w_bmR (m := .insert) g.hK PySem.F.plainAttrs_list PySem.F.slot_list_insert PySem.F.type_list_insert mt_insert (ty_lst (.inr (.inr rfl))) c_insert (sE o g _ h6) (sEs es g _ h8) h4 h7 h5 (star_one hst.1) (back_any hst.2)
      · subst h1
        exact w_bmR (m := .pop) g.hK PySem.F.plainAttrs_list PySem.F.slot_list_pop PySem.F.type_list_pop (MtR.or mt_pop mt_popAt) (ty_lst (.inr (.inl rfl))) c_popA (sE o g _ h6) (sEs es g _ h8) h4 h7 h5 (star_one hst.1) (back_any hst.2)
    · cases h
  | .fld x o, W, S, X, g, ex, h => by
    unfold chkE at h
    split at h
    · simp only [Bool.and_eq_true, decide_eq_true_eq] at h
      obtain ⟨⟨⟨⟨rfl, h2⟩, h3⟩, h4⟩, h5⟩ := h
      exact w_fld g.hK (fun C => (g.fx.cls h3 C).1) (fun C => (g.fx.cls h3 C).2 _ h2) (sE o g _ h5) (attrBase_ok h4)
    · cases h
  | .ix a b, W, S, X, g, ex, h => by
    unfold chkE at h
    split at h
    · simp only [Bool.and_eq_true] at h
      obtain ⟨⟨h1, h2⟩, h3⟩ := h
      exact w_ix ix_seq (by rw [g.hK]; exact rcIx) (sE a g _ h2) (sE b g _ h3) (plainIx_ok h1)
    · cases h
  | .ixd a b, W, S, X, g, ex, h => by
    unfold chkE at h
    split at h
    · simp only [Bool.and_eq_true] at h
      obtain ⟨⟨h1, h2⟩, h3⟩ := h
      exact w_ixd (by have := g.hu; omega) (sE a g _ h2) (sE b g _ h3) (noSl_ok h1)
    · cases h
  | .sl a lo hi, W, S, X, g, ex, h => by
    unfold chkE at h
    split at h
    · simp only [Bool.and_eq_true] at h
      exact w_sl g.hK (sE a g _ h.1.1) (sEo lo g _ h.1.2) (sEo hi g _ h.2)
    · cases h
  | .slr a, W, S, X, g, ex, h => by
    unfold chkE at h
    split at h
    · simp only [Bool.and_eq_true, decide_eq_true_eq] at h
      obtain ⟨rfl, h2⟩ := h
      exact w_slr (sE a g _ h2)
    · cases h
  | .ginD _ _ _ _, W, S, X, g, ex, h => by simp [chkE] at h
  | .gixD _ _ _, W, S, X, g, ex, h => by simp [chkE] at h
  | .lc own elt tg src c, W, S, X, g, ex, h => by
    unfold chkE at h
    split at h
    · rename_i x q scope p
      obtain ⟨tg', iter, ifs, isa⟩ := q
      simp only [Bool.and_eq_true, decide_eq_true_eq, List.all_eq_true] at h
      obtain ⟨⟨⟨⟨⟨⟨⟨rfl, h1⟩, h2⟩, h3⟩, h4⟩, h5⟩, h6⟩, h7⟩ := h
      refine (pe_lc g.calm g.nd (sSrc src g _ _ h5) (blkOk_by (own := own) (by rw [g.N, g.sc]; exact h2)) (fun s H C c fp => sTg (g.blk s H C c fp scope) tg _ h4) (fun s H C c' fp => sTo c (g.blk s H C c' fp scope) _ h6)
        (fun s H C c' fp => sE elt (g.blk s H C c' fp scope) _ h7) (notSet_ok h1)).imp fun σ H Q h => lc_ok h3 h
    · cases h
  | .lcd _ _ _ _ _, W, S, X, g, ex, h => by simp [chkE] at h
  | .lc2 _ _ _ _ _ _ _, W, S, X, g, ex, h => by simp [chkE] at h
  | .dc2 _ _ _ _ _ _ _, W, S, X, g, ex, h => by simp [chkE] at h
  | .fstr _, W, S, X, g, ex, h => by simp [chkE] at h
  | .lzip _ _, W, S, X, g, ex, h => by simp [chkE] at h
  | .lrng1 a, W, S, X, g, ex, h => by
    unfold chkE at h
    split at h
    · simp only [Bool.and_eq_true, decide_eq_true_eq] at h
      obtain ⟨⟨⟨⟨⟨rfl, rfl⟩, h1⟩, h2⟩, h3⟩, h4⟩ := h
      obtain ⟨g1, g2, g3, g4⟩ := bltB_ok g h1
      obtain ⟨k1, k2, k3, k4⟩ := bltB_ok g h2
      exact w_lrng1 g.calm g1 g4 k1 k4 (sE a g _ h4) (star_one h3)
    · cases h
  | .lrng3 a b c, W, S, X, g, ex, h => by
    unfold chkE at h
    split at h
    · simp only [Bool.and_eq_true, decide_eq_true_eq] at h
      obtain ⟨⟨⟨⟨⟨⟨⟨⟨⟨rfl, rfl⟩, h1⟩, h2⟩, h3⟩, h4⟩, h5⟩, h6⟩, h7⟩, h8⟩ := h
      obtain ⟨g1, g2, g3, g4⟩ := bltB_ok g h1
      obtain ⟨k1, k2, k3, k4⟩ := bltB_ok g h2
      exact w_lrng3 g.calm g1 g4 k1 k4 (sE a g _ h6) (sE b g _ h7) (sE c g _ h8) (star_one h3) (star_one h4) (star_one h5) (back_any (by simp [h4, h5]))
    · cases h
  | .clo _ _, W, S, X, g, ex, h => by simp [chkE] at h
  | .callc _ _, W, S, X, g, ex, h => by simp [chkE] at h
  | .lenI C f o, W, S, X, g, ex, h => by
    unfold chkE at h
    split at h
    · simp only [Bool.and_eq_true, decide_eq_true_eq] at h
      obtain ⟨⟨⟨⟨⟨rfl, h2⟩, h3⟩, h4⟩, h5⟩, h6⟩ := h
      obtain ⟨g1, g2, g3, g4⟩ := bltB_ok g h2
      obtain ⟨c1, c2, c3⟩ := methB_ok g h3
      obtain ⟨a1, a2, a3⟩ := arB_ok g h4
      exact w_lenI g.hK c2 (g.fns f a1) g.room a3 g1 g4 (sE o g _ h6) a2.symm (star_one h5)
    · cases h
theorem sT : ∀ (t : T) {W : WX} {S : Sx} {X : Cx}, GdE G Tt cl k W S X → ∀ (ex : Expr), chkT Tt t S ex = true → PT X ex (tT G W (evT cl t)) ∧ ∀ op vs pos, ex = .BoolOp op vs pos → PW X ex (tT G W (evT cl t))
  | .bad, W, S, X, g, ex, h => ⟨⟨fun pins s σ H Q I ⟨μ, env, st, R, e, p⟩ => p.elim⟩, fun _ _ _ _ => ⟨fun wh pins s σ H Q I ⟨μ, env, st, R, e, p⟩ => p.elim⟩⟩
  | .ginD _ _ _ _, W, S, X, g, ex, h => by simp [chkT] at h
  | .nt a, W, S, X, g, ex, h => by
    unfold chkT at h
    split at h
    · exact ⟨w_nt (sT a g _ h).1, fun _ _ _ e => by cases e⟩
    · cases h
  | .and a b, W, S, X, g, ex, h => by
    unfold chkT at h
    split at h
    · rename_i x y p
      rw [Bool.and_eq_true] at h
      have z : PW X (.BoolOp .And [x, y] p) (tT G W (evT cl (.and a b))) := (pw_and (sT a g _ h.1).1 (pw_and1 (sT b g _ h.2).1)).imp fun σ H Q h => and_ok h
      exact ⟨z.pt, fun _ _ _ _ => z⟩
    · rename_i x y q r p
      rw [Bool.and_eq_true] at h
      have z : PW X (.BoolOp .And (x :: y :: q :: r) p) (tT G W (evT cl (.and a b))) := (pw_and (sT a g _ h.1).1 ((sT b g _ h.2).2 _ _ _ rfl)).imp fun σ H Q h => and_ok h
      exact ⟨z.pt, fun _ _ _ _ => z⟩
    · cases h
  | .or a b, W, S, X, g, ex, h => by
    unfold chkT at h
    split at h
    · rename_i x y p
      rw [Bool.and_eq_true] at h
      have z : PW X (.BoolOp .Or [x, y] p) (tT G W (evT cl (.or a b))) := (pw_or (sT a g _ h.1).1 (pw_or1 (sT b g _ h.2).1)).imp fun σ H Q h => or_ok h
      exact ⟨z.pt, fun _ _ _ _ => z⟩
    · rename_i x y q r p
      rw [Bool.and_eq_true] at h
      have z : PW X (.BoolOp .Or (x :: y :: q :: r) p) (tT G W (evT cl (.or a b))) := (pw_or (sT a g _ h.1).1 ((sT b g _ h.2).2 _ _ _ rfl)).imp fun σ H Q h => or_ok h
      exact ⟨z.pt, fun _ _ _ _ => z⟩
    · cases h
  | .cmp op a b, W, S, X, g, ex, h => by
    unfold chkT at h
    split at h
    · simp only [Bool.and_eq_true, decide_eq_true_eq, Bool.not_eq_true'] at h
      obtain ⟨⟨⟨rfl, h1⟩, h2⟩, h3⟩ := h
      exact ⟨w_cmpT (opCmp g.hu op) (by rw [g.hK]; exact rcCmp op) (sE a g _ h2) (sE b g _ h3) h1, fun _ _ _ e => by cases e⟩
    · cases h
  | .chain p q a b c, W, S, X, g, ex, h => by
    unfold chkT at h
    split at h
    · simp only [Bool.and_eq_true, decide_eq_true_eq, Bool.not_eq_true'] at h
      obtain ⟨⟨⟨⟨⟨rfl, rfl⟩, h1⟩, h2⟩, h3⟩, h4⟩ := h
      exact ⟨w_chainT (opCmp g.hu p) (opCmp g.hu q) (by rw [g.hK]; exact rcCmp p) (by rw [g.hK]; exact rcCmp q) (sE a g _ h2) (sE b g _ h3) (sE c g _ h4) h1, fun _ _ _ e => by cases e⟩
    · cases h
  | .isN a, W, S, X, g, ex, h => by
    unfold chkT at h
    split at h
    · exact ⟨w_isNT (sE a g _ h), fun _ _ _ e => by cases e⟩
    · cases h
  | .notN a, W, S, X, g, ex, h => by
    unfold chkT at h
    split at h
    · exact ⟨w_notNT (sE a g _ h), fun _ _ _ e => by cases e⟩
    · cases h
  | .of e, W, S, X, g, ex, h => by
    unfold chkT at h
    rw [Bool.and_eq_true] at h
    exact ⟨w_truth g.hK (sE e g _ h.2) (plainT_ok h.1), fun _ _ _ q => by subst q; cases h.1⟩
theorem sTo : ∀ (t : To) {W : WX} {S : Sx} {X : Cx}, GdE G Tt cl k W S X → ∀ (ex : List Expr), chkTo Tt t S ex = true → PTs X ex (tT G W (evC cl t))
  | .no, W, S, X, g, ex, h => by
    unfold chkTo at h
    split at h
    · refine ⟨fun pins s σ H Q I hw => pts_nil.run pins s σ H Q I ?_⟩
      obtain ⟨μ, env, st, R, e, p⟩ := hw
      exact PostR.here (P := PB Q) p R
    · cases h
  | .of t, W, S, X, g, ex, h => by
    unfold chkTo at h
    split at h
    · exact pts_one (sT t g _ h).1
    · cases h
theorem sEs : ∀ (es : Es) {W : WX} {S : Sx} {X : Cx}, GdE G Tt cl k W S X → ∀ (ex : List Expr), chkEs Tt es S ex = true → PA X ex (tAs G W (evEs cl es))
  | .nil, W, S, X, g, ex, h => by
    unfold chkEs at h
    split at h
    · exact w_aNil
    · cases h
  | .cons e r, W, S, X, g, ex, h => by
    unfold chkEs at h
    split at h
    · simp only [Bool.and_eq_true] at h
      exact w_aCons (sE e g _ h.1.2) (sEs r g _ h.2) (star_one h.1.1)
    · cases h
theorem sEo : ∀ (eo : Eo) {W : WX} {S : Sx} {X : Cx}, GdE G Tt cl k W S X → ∀ (ex : Option Expr), chkEo Tt eo S ex = true → PO X ex (tO G W (evEo cl eo))
  | .no, W, S, X, g, ex, h => by
    unfold chkEo at h
    split at h
    · exact w_oNo
    · cases h
  | .of e, W, S, X, g, ex, h => by
    unfold chkEo at h
    split at h
    · exact w_oOf (sE e g _ h)
    · cases h
theorem sSrc : ∀ (sr : Src) {W : WX} {S : Sx} {X : Cx}, GdE G Tt cl k W S X → ∀ (tg ex : Expr), chkSrc Tt sr S tg ex = true → PI X tg ex (tI G W (evSrc cl sr))
  | .of e, W, S, X, g, tg, ex, h => by
    unfold chkSrc at h
    exact w_sOf g.hK (sE e g _ h)
  | .rng1 a, W, S, X, g, tg, ex, h => by
    unfold chkSrc at h
    split at h
    · simp only [Bool.and_eq_true, decide_eq_true_eq] at h
      obtain ⟨⟨⟨rfl, h1⟩, h2⟩, h3⟩ := h
      obtain ⟨g1, g2, g3, g4⟩ := bltB_ok g h1
      exact w_sRng1 g1 g4 (sE a g _ h3) (star_one h2)
    · cases h
  | .rng2 a b, W, S, X, g, tg, ex, h => by
    unfold chkSrc at h
    split at h
    · simp only [Bool.and_eq_true, decide_eq_true_eq] at h
      obtain ⟨⟨⟨⟨⟨rfl, h1⟩, h2⟩, h3⟩, h4⟩, h5⟩ := h
      obtain ⟨g1, g2, g3, g4⟩ := bltB_ok g h1
      exact w_sRng2 g1 g4 (sE a g _ h4) (sE b g _ h5) (star_one h2) (star_one h3)
    · cases h
  | .rng3 a b c, W, S, X, g, tg, ex, h => by
    unfold chkSrc at h
    split at h
    · simp only [Bool.and_eq_true, decide_eq_true_eq] at h
      obtain ⟨⟨⟨⟨⟨⟨⟨rfl, h1⟩, h2⟩, h3⟩, h3'⟩, h4⟩, h5⟩, h6⟩ := h
      obtain ⟨g1, g2, g3, g4⟩ := bltB_ok g h1
      exact w_sRng3 g1 g4 (sE a g _ h4) (sE b g _ h5) (sE c g _ h6) (star_one h2) (star_one h3) (star_one h3') (back_any (by rw [List.all_cons, h3, List.all_cons, h3']; rfl))
    · cases h
  | .enum a, W, S, X, g, tg, ex, h => by
    unfold chkSrc at h
    split at h
    · simp only [Bool.and_eq_true, decide_eq_true_eq] at h
      obtain ⟨⟨⟨rfl, h1⟩, h2⟩, h3⟩ := h
      obtain ⟨g1, g2, g3, g4⟩ := bltB_ok g h1
      exact w_sEnum g.hK g1 g4 (sE a g _ h3) (star_one h2)
    · cases h
  | .zip a b, W, S, X, g, tg, ex, h => by
    unfold chkSrc at h
    split at h
    · simp only [Bool.and_eq_true, decide_eq_true_eq] at h
      obtain ⟨⟨⟨⟨⟨rfl, h1⟩, h2⟩, h3⟩, h4⟩, h5⟩ := h
      obtain ⟨g1, g2, g3, g4⟩ := bltB_ok g h1
      exact w_sZip g.hK g1 g4 (sE a g _ h4) (sE b g _ h5) (star_one h2) (star_one h3) (back_any (by rw [List.all_cons, h3]; rfl))
    · cases h
end
end
end Ws
end
end

section
set_option Elab.async false
set_option linter.all false
set_option maxRecDepth 100000
set_option maxHeartbeats 4000000
/-! WsL: the checker of statements, and what it is good for. -/
noncomputable section
namespace Ws
open PySem PySem.Spec PyProof.Rows L2
/-! ### except suites -/
def chkH1 (S : Sx) : List H1 → List Stmt → Bool
  | [], [] => true
  | .lit i d :: r, s :: ss => (match s with
    | .Assign [.Name x _] (.Constant c _ _) _ => locB S i x && constB d c
    | _ => false) && chkH1 S r ss
  | .sub i k d :: r, s :: ss => (match s with
    | .Assign [.Subscript (.Name x _) (.Constant (.int j) _ _) _] (.Constant c _ _) _ => visB S i x && decide (j = k) && constB d c
    | _ => false) && chkH1 S r ss
  | _, _ => false
def tH (G : Gam) (h : List H1) : TS := fun E σ H => ∃ μ env st c p, Rl G μ st H ∧ ER G μ st.length H env σ ∧ PostS G W0 E μ st.length H (runH c h p env st)
structure Fit (S : Sx) (X : Cx) : Prop where
  nd : X.N.Nodup
  sc : X.env.scope = S.sc
  fn : ∀ x, S.fn x = true → X.fn x = true
  N : X.N = S.N
theorem visB_fit {S : Sx} {X : Cx} (g : Fit S X) {i : Nat} {x : Str} (h : visB S i x = true) : X.N[i]? = some x ∧ Vis X.env.scope x ∧ (x == ("__debug__" : Str)) = false ∧ (x == ("__classdict__" : Str)) = false := by
  unfold visB at h
  simp only [Bool.and_eq_true, Bool.or_eq_true, Bool.not_eq_true', decide_eq_true_eq] at h
  obtain ⟨⟨⟨h1, h2⟩, h3⟩, h4⟩ := h
  refine ⟨by rw [g.N]; exact h1, ?_, h3, h4⟩
  rw [g.sc]
  rcases h2 with (h2 | h2) | h2
  · exact .inl h2
  · exact .inr (.inl h2)
  · exact .inr (.inr h2)
theorem locB_fit {S : Sx} {X : Cx} (g : Fit S X) {i : Nat} {x : Str} (h : locB S i x = true) : X.N[i]? = some x ∧ L2.Loc X.env.scope x ∧ (X.fn x = true ∨ X.env.scope.names.lookup x = some .local) := by
  unfold locB at h
  simp only [Bool.and_eq_true, Bool.or_eq_true, decide_eq_true_eq] at h
  obtain ⟨h1, h2⟩ := h
  refine ⟨by rw [g.N]; exact h1, ?_⟩
  rw [g.sc]
  rcases h2 with h2 | ⟨h2, h3⟩
  · exact ⟨.inl h2, .inr h2⟩
  · exact ⟨.inr h2, .inl (g.fn x h3)⟩
theorem constB_pe {d : D} {c : Const} (h : constB d c = true) : ∃ v, (∀ (X : Cx) (j : Nat) (p : Pos), PE X (.Constant c j p) (tC v)) ∧ ∀ G μ n H, Rep G μ n H d v := by
  unfold constB at h
  split at h
  · exact ⟨.non, fun X j p => pe_non, fun _ _ _ _ => rfl⟩
  · rw [eq_of_beq h]; exact ⟨.bl _, fun X j p => pe_bl, fun _ _ _ _ => rfl⟩
  · rw [of_decide_eq_true h]; exact ⟨.int _, fun X j p => pe_int, fun _ _ _ _ => rfl⟩
  · rw [of_decide_eq_true h]; exact ⟨.str _, fun X j p => pe_str, fun _ _ _ _ => rfl⟩
  · cases h
theorem sH1 {G : Gam} {S : Sx} {X : Cx} (g : Fit S X) (hu : X.A.units + 1 < cLine) : ∀ (h : List H1) (ss : List Stmt), chkH1 S h ss = true → PSs X ss (tH G h)
  | [], [], _ => pss_nil.imp fun E σ H ⟨μ, env, st, c, p, R, e, q⟩ => q.next R e
  | [], _ :: _, h => by simp [chkH1] at h
  | _ :: _, [], h => by rename_i a b; cases a <;> simp [chkH1] at h
  | .lit i d :: r, s :: ss, h => by
    simp only [chkH1, Bool.and_eq_true] at h
    obtain ⟨h1, h2⟩ := h
    split at h1
    · rw [Bool.and_eq_true] at h1
      obtain ⟨l1, l2, l3⟩ := locB_fit g h1.1
      obtain ⟨v, hv, hr⟩ := constB_pe h1.2
      refine (pss_cons (ps_set g.nd l1 l2 (hv X _ _) rfl l3) (sH1 (G := G) g hu r ss h2)).imp fun E σ H ⟨μ, env, st, cc, p, R, e, q⟩ => ?_
      exact ⟨μ, _, st, cc, p, R, e.set (hr G μ _ H), q⟩
    · cases h1
  | .sub i k d :: r, s :: ss, h => by
    simp only [chkH1, Bool.and_eq_true] at h
    obtain ⟨h1, h2⟩ := h
    split at h1
    · simp only [Bool.and_eq_true, decide_eq_true_eq] at h1
      obtain ⟨⟨h3, rfl⟩, h4⟩ := h1
      obtain ⟨l1, l2, l3, l4⟩ := visB_fit g h3
      obtain ⟨v, hv, hr⟩ := constB_pe h4
      refine (pss_cons (ps_asg (hv X _ _) (pg_sub (pe_var l1 l2 l3 l4) pe_int set_list) rfl rfl rfl) (sH1 (G := G) g hu r ss h2)).imp fun E σ H ⟨μ, env, st, cc, p, R, e, q⟩ => ?_
      unfold runH at q
      split at q
      · rename_i l hl
        split at q
        · rename_i xs hx
          split at q
          · rename_i j hj
            obtain ⟨w, e1, e2⟩ := e.val i _ hl
            obtain ⟨hlt, rfl⟩ := e2
            obtain ⟨hz, vs, h5, rs⟩ := R.lst hx
            have nx := nx_write R (ho := .lst (vs.set j v)) hlt (k := (st.set l (.lst (xs.set j d))).length) (by simp)
            have R2 : Rl G μ (st.set l (.lst (xs.set j d))) (upd H (μ l) (.lst (vs.set j v))) := R.write hlt ⟨by rw [List.length_set]; exact hz, _, upd_same, by
              have z := Reps.mono nx.toNx0 _ _ (rs.set j (hr G μ _ H))
              rw [List.length_set] at z
              exact z⟩
            exact ⟨_, e1, _, vs, _, j, rfl, rfl, h5, ixN_set rs.length hj, μ, env, _, cc, p, R2, e.mono nx.toNx0, PostS.trans nx q⟩
          · exact q.no
        · exact q.no
      · exact q.no
    · cases h1
  | .pay _ _ :: r, s :: ss, h => by simp [chkH1] at h
  | .payT _ _ _ :: r, s :: ss, h => by simp [chkH1] at h
def chkHs (Tt : Tab) (S : Sx) : List (Nat × List H1) → List ExceptHandler → Bool
  | [], [] => true
  | (c, h) :: r, e :: es => (match e with
    | .ExceptHandler (some (.Name x _)) none (b :: suite) _ => decide (Tt.exs c = some x) && glB S x && chkH1 S h (b :: suite)
    | _ => false) && chkHs Tt S r es
  | _, _ => false
/-! ### statements -/
def parB (S : Sx) (i j : Nat) (x y : Str) (px py : Pos) (a b : Expr) : Bool :=
  decide (S.N[i]? = some x) && decide (S.N[j]? = some y) && decide (i ≠ j) && decide (x ≠ y) && decide (S.sc.names.lookup x = some .local) && decide (S.sc.names.lookup y = some .local) && decide (py.line = px.line) && notStar a && notStar b &&
    !(foldedForSure 8 a && foldedForSure 8 b) && !(constantsAlone 8 a && constantsAlone 8 b)
/-- the swap of a comprehension with the store -/
def swapB (S : Sx) (t : Str) (p : Pos) (v : Expr) (scope : Scope) : Bool := S.sc.names.lookup t == some .local && p.line == v.pos.line && !(scope.names.any fun (n, k) => n == t && (k == .local || k == .cell))
def asgB (S : Sx) (tg : Expr) (v : Expr) : Bool := match tg with
  | .Name t p => (match v with
    | .ListComp _ _ s _ => !swapB S t p v s
    | .SetComp _ _ _ _ => false
    | .DictComp _ _ _ _ _ => false
    | _ => true)
  | .Tuple _ _ _ => notComp v && (match v with
    | .Tuple _ _ _ => false
    | _ => true)
  | _ => false
section
variable (Tt : Tab)
mutual
def chkS : S → Sx → Stmt → Bool
  | .bad, _, _ => true
  | .asg tg e, X, s => match s with
    | .Assign [t] v _ => chkTg X tg t && chkE Tt e X v && notStar t && (asgB X t v || (match tg, e, t, v with
      | .name _, .lc _ _ _ _ _, .Name x p, .ListComp _ _ sc _ => swapB X x p v sc
      | _, _, _, _ => false))
    | _ => false
  | .par i j a b, X, s => match s with
    | .Assign [.Tuple [.Name x px, .Name y py] _ _] (.Tuple [u, v] _ _) _ => parB X i j x y px py u v && chkE Tt a X u && chkE Tt b X v
    | _ => false
  | .setIx o i e, X, s => match s with
    | .Assign [.Subscript x y _] v _ => notSlice y && chkE Tt o X x && chkE Tt i X y && chkE Tt e X v
    | _ => false
  | .setFld x o e, X, s => match s with
    | .Assign [.Attribute u y _] v _ => decide (x = y) && decide (x ∈ FLDS) && decide (0 < Tt.cls.length) && notComp v && chkE Tt o X u && chkE Tt e X v
    | _ => false
  | .aug i op e, X, s => match s with
    | .AugAssign (.Name x _) o v _ => locB X i x && decide (bOp op = o) && (decide (op = .add) || decide (op = .sub)) && chkE Tt e X v
    | _ => false
  | .expr e, X, s => match s with
    | .Expr v _ => notComp v && chkE Tt e X v
    | _ => false
  | .pass, _, s => match s with
    | .Pass _ => true
    | .Expr (.Constant (.str _) _ _) _ => true
    | _ => false
  | .ite t a b, X, s => match s with
    | .If c u v _ => chkT Tt t X c && chkSs a X u && chkSs b X v
    | _ => false
  | .forr tg src tmp body, X, s => match s with
    | .For t it b [] _ => chkTg X tg t && notSetE it && chkSrc Tt src X t it && chkSs body X b
    | _ => false
  | .whil t tmp body, X, s => match s with
    | .While c b [] _ => chkT Tt t X c && chkSs body X b
    | _ => false
  | .ret e, X, s => match s with
    | .Return (some v) _ => chkE Tt e X v
    | _ => false
  | .retN, _, s => match s with
    | .Return none _ => true
    | _ => false
  | .raise c f e, X, s => match f, e, s with
    | none, .no, .Raise (some (.Call (.Name x _) [] [] _)) none _ => decide (Tt.exs c = some x) && decide (c ∈ Tt.exr) && glB X x
    | _, _, _ => false
  | .tryx body hs, X, s => match s with
    | .Try b (h :: t) [] [] _ => chkSs body X b && chkHs Tt X hs (h :: t)
    | _ => false
  | .tryAs _ _ _ _, _, _ => false
def chkSs : Ss → Sx → List Stmt → Bool
  | .nil, _, s => match s with
    | [] => true
    | _ => false
  | .cons a r, X, s => match s with
    | b :: t => chkS a X b && chkSs r X t
    | _ => false
end
end
structure GdS (G : Gam) (Tt : Tab) (cl : Call) (k : Nat) (W : WX) (S : Sx) (X : Cx) : Prop extends GdE G Tt cl k W S X where
  hp : PassesOwn (model X.prog X.w) X.A X.env X.xe
  hs : X.stack = X.env :: X.outer
  hf : X.env.frame = some X.env.locals
  kind : S.sc.kind = .function
section
variable {G : Gam} {Tt : Tab} {cl : Call} {k : Nat} {W : WX} {S : Sx} {X : Cx}
theorem GdE.fit (g : GdE G Tt cl k W S X) : Fit S X := ⟨g.nd, g.sc, g.fn, g.N⟩
theorem GdS.bk (g : GdS G Tt cl k W S X) : X.env.blockKind = .function := by
  unfold Env.blockKind
  rw [g.sc, g.kind]; rfl
theorem swap_eq (g : GdS G Tt cl k W S X) {elt : Expr} {gs : List Comprehension} {scope : Scope} {pos p : Pos} {l : Nat} {t : Str} :
    swapsWith (.ListComp elt gs scope pos) (some (.Name t p)) l X.env = pure (swapB S t p (.ListComp elt gs scope pos) scope) := by
  unfold swapsWith swapB Env.kindOf
  rw [g.bk, g.sc]
  rfl
theorem asgB_ok (g : GdS G Tt cl k W S X) {tg v : Expr} {l : Nat} (h : asgB S tg v = true) : swapsWithSole [tg] v l X.env = pure false ∧ swappedStores [tg] v X.env = pure none := by
  cases tg with
  | Name t p =>
    refine ⟨?_, rfl⟩
    show swapsWith v (some (.Name t p)) l X.env = pure false
    cases v with
    | ListComp e gs s q =>
      rw [swap_eq g]
      have h' : (!swapB S t p (.ListComp e gs s q) s) = true := h
      rw [Bool.not_eq_true'] at h'
      rw [h']
    | SetComp _ _ _ _ => cases h
    | DictComp _ _ _ _ _ => cases h
    | _ => rfl
  | Tuple es kk p =>
    unfold asgB at h
    rw [Bool.and_eq_true] at h
    refine ⟨(swaps_no h.1 : swapsWith v (some (.Tuple es kk p)) l X.env = pure false), ?_⟩
    have h2 := h.2
    cases v <;> first | rfl | cases h2
  | _ => cases h
theorem star_f : ∀ {e : Expr}, notStar e = true → (match e with
    | .Starred .. => true
    | _ => false) = false := by
  intro e h
  cases e <;> first | rfl | cases h
theorem parB_ok (g : GdS G Tt cl k W S X) {i j : Nat} {x y : Str} {px py pt pt2 : Pos} {kt k2 : Nat} {a b : Expr} (h : parB S i j x y px py a b = true) :
    X.N[i]? = some x ∧ X.N[j]? = some y ∧ i ≠ j ∧ X.env.scope.names.lookup x = some .local ∧ X.env.scope.names.lookup y = some .local ∧ notStar a = true ∧ notStar b = true ∧
      swappedStores [.Tuple [.Name x px, .Name y py] kt pt] (.Tuple [a, b] k2 pt2) X.env = pure (some [x, y]) := by
  unfold parB at h
  simp only [Bool.and_eq_true, decide_eq_true_eq, Bool.not_eq_true', Bool.and_eq_false_iff] at h
  obtain ⟨⟨⟨⟨⟨⟨⟨⟨⟨⟨h1, h2⟩, h3⟩, h4⟩, h5⟩, h6⟩, h7⟩, h8⟩, h9⟩, h10⟩, h11⟩ := h
  refine ⟨by rw [g.N]; exact h1, by rw [g.N]; exact h2, h3, by rw [g.sc]; exact h5, by rw [g.sc]; exact h6, h8, h9, ?_⟩
  have hkx : X.env.kindOf x = some .local := by unfold Env.kindOf; rw [g.sc]; exact h5
  have hky : X.env.kindOf y = some .local := by unfold Env.kindOf; rw [g.sc]; exact h6
  have hf : [a, b].all (foldedForSure 8) = false := by
    show (foldedForSure 8 a && (foldedForSure 8 b && true)) = false
    rcases h10 with h | h <;> rw [h] <;> simp
  have hc : [a, b].all (constantsAlone 8) = false := by
    show (constantsAlone 8 a && (constantsAlone 8 b && true)) = false
    rcases h11 with h | h <;> rw [h] <;> simp
  have hn : ([Expr.Name x px, Expr.Name y py].filterMap fun
    | .Name id pos => if X.env.kindOf id == some .local && pos.line == (Expr.Name x px).pos.line then some id else none
    | _ => none) = [x, y] := by
    simp [hkx, hky, h7, Expr.pos]
  have he : [x, y].eraseDups = [x, y] := by
    simp [List.eraseDups_cons, h4, Ne.symm h4]
  unfold swappedStores
  dsimp only
  rw [g.bk]
  simp only [List.length_cons, List.length_nil, List.head?_cons, Option.map_some, Option.getD_some]
  refine (if_neg (by decide)).trans ?_
  refine (if_neg ?_).trans ?_
  · refine Bool.eq_false_iff.mp ?_
    show (_ || (_ || false)) = false
    exact Bool.or_eq_false_iff.mpr ⟨star_f h8, Bool.or_eq_false_iff.mpr ⟨star_f h9, rfl⟩⟩
  refine (if_neg ?_).trans ?_
  · erw [hn]
    rw [he]
    simp
  refine (if_neg (by rw [hf]; decide)).trans ?_
  refine (if_neg (by rw [hc]; decide)).trans ?_
  erw [hn]
def hL (G : Gam) (hs : List (Nat × List H1)) : List (Value × (Addr → Value → Option Addr → TS)) := hs.map fun q => (.ref (G.xA q.1), fun _ _ _ => tH G q.2)
theorem runH_next (c : Nat) : ∀ (h : List H1) (p : D) (env : Env) (st : AS), (∃ e s, runH c h p env st = .next e s) ∨ runH c h p env st = .bad
  | [], p, env, st => .inl ⟨env, st, rfl⟩
  | .lit i d :: r, p, env, st => by unfold runH; exact runH_next c r p _ st
  | .pay i f :: r, p, env, st => by
    unfold runH
    split
    · exact runH_next c r p _ st
    · exact .inr rfl
  | .payT i d f :: r, p, env, st => by
    unfold runH
    split
    · exact runH_next c r p _ st
    · exact .inr rfl
  | .sub i k d :: r, p, env, st => by
    unfold runH
    split
    · split
      · split
        · exact runH_next c r p env _
        · exact .inr rfl
      · exact .inr rfl
    · exact .inr rfl
theorem sHd (g : GdS G Tt cl k W S X) : ∀ (hs : List (Nat × List H1)) (es : List ExceptHandler), chkHs Tt S hs es = true → HdsOk X es (hL G hs)
  | [], [], _ => .nil
  | [], _ :: _, h => by simp [chkHs] at h
  | (c, a) :: r, [], h => by simp [chkHs] at h
  | (c0, a) :: r, e :: es, h => by
    simp only [chkHs, Bool.and_eq_true] at h
    obtain ⟨h1, h2⟩ := h
    split at h1
    · simp only [Bool.and_eq_true, decide_eq_true_eq] at h1
      obtain ⟨⟨e1, e2⟩, e3⟩ := h1
      obtain ⟨g1, g2, g3⟩ := glB_ok g.toGdE e2
      refine .cons ⟨g1, g2, .inl (by rw [g.hmg]; exact g.fx.exn _ _ e1)⟩ (fun ad oe cls d pn _ _ => sH1 (X := X.suite ad ((ad, oe) :: pn)) ⟨g.nd, g.sc, g.fn, g.N⟩ ?_ a _ e3) (sHd g r es h2)
      have := g.hu
      show X.A.units + 1 < cLine
      omega
    · cases h1
theorem sHw (g : GdS G Tt cl k W S X) {E : Ends} {c : Nat} {p : D} {env : Env} {st : AS} {μ : Nat → Addr} {n : Nat} {H : Hp} : ∀ (hs : List (Nat × List H1)) (es : List ExceptHandler), chkHs Tt S hs es = true →
    PostS G W E μ n H (match pickH c hs with
      | some h => runH c h p env st
      | none => .exn c p env st) → ∀ μ' dx H' σ', Nx μ n H μ' st.length H' → Rl G μ' st H' → ER G μ' st.length H' env σ' → Pay G μ' st.length H' c p dx → wMany X.K W E (hL G hs) (.ref (G.xA c)) dx σ' H'
  | [], [], _, h, μ', dx, H', σ', x, R, e, py => h μ' dx H' σ' x R e py
  | [], _ :: _, h, _, _, _, _, _, _, _, _, _ => by simp [chkHs] at h
  | (_, a) :: r, [], h, _, _, _, _, _, _, _, _, _ => by simp [chkHs] at h
  | (c0, a) :: r, e :: es, h, hp, μ', dx, H', σ', nx, R, er, py => by
    simp only [chkHs, Bool.and_eq_true] at h
    obtain ⟨h1, h2⟩ := h
    split at h1
    · simp only [Bool.and_eq_true, decide_eq_true_eq] at h1
      obtain ⟨⟨e1, e2⟩, e3⟩ := h1
      refine ⟨subX c c0, by rw [g.hK]; exact g.fx.exm c c0 _ e1, fun hs a' ha => ?_, fun hs => ?_⟩
      · unfold pickH at hp
        rw [if_pos hs] at hp
        refine ⟨μ', env, st, c, p, R, er, ?_⟩
        have q : PostS G W E μ' st.length H' (runH c a p env st) := PostS.trans nx hp
        rcases runH_next c a p env st with ⟨e, s, hr⟩ | hr
        · rw [hr] at q ⊢
          exact q
        · rw [hr] at q
          exact q.no
      · unfold pickH at hp
        rw [if_neg (by rw [hs]; exact Bool.false_ne_true)] at hp
        exact sHw g r es h2 hp μ' dx H' σ' nx R er py
    · cases h1
theorem GdS.tr (g : GdS G Tt cl k W S X) {W' : WX} {pn : List (Addr × Obj)} {xe : Value → Shared → Prop} (tk : Takes (X.tr pn xe) W') (hp : PassesOwn (model X.prog X.w) X.A X.env xe) : GdS G Tt cl k W' S (X.tr pn xe) :=
  ⟨⟨g.fx, g.hK, g.hw, g.hmg, g.nd, g.calm, tk, g.room, g.fns, g.sc, g.fn, g.N⟩, hp, g.hs, g.hf, g.kind⟩
mutual
theorem sS : ∀ (s : Ws.S) {W : WX} {S : Sx} {X : Cx}, GdS G Tt cl k W S X → ∀ (st : Stmt), chkS Tt s S st = true → PS X st (tS G W (exS cl s))
  | .bad, W, S, X, g, st, h => ⟨fun pins s σ H D I ⟨μ, env, st, R, e, p⟩ => p.no⟩
  | .asg tg e, W, S, X, g, st, h => by
    unfold chkS at h
    split at h
    · rename_i t v pos
      simp only [Bool.and_eq_true, Bool.or_eq_true] at h
      obtain ⟨⟨⟨h1, h2⟩, h3⟩, h4⟩ := h
      rcases h4 with h4 | h4
      · obtain ⟨w1, w2⟩ := asgB_ok (l := pos.line) g h4
        exact w_asg (sE e g.toGdE _ h2) (sTg g.toGdE tg _ h1) w1 w2 (by cases t <;> first | rfl | cases h3)
      · split at h4
        · rename_i i own elt tg2 src c x px x0 gens sc p0
          unfold chkE at h2
          split at h2
          · rename_i x1 q scope p1 heq
            cases heq
            obtain ⟨tg', iter, ifs, isa⟩ := q
            simp only [Bool.and_eq_true, decide_eq_true_eq, List.all_eq_true] at h2
            obtain ⟨⟨⟨⟨⟨⟨⟨rfl, k1⟩, k2⟩, k3⟩, k4⟩, k5⟩, k6⟩, k7⟩ := h2
            obtain ⟨l1, l2, l3⟩ := locB_ok g.toGdE (show locB S i x = true from h1)
            have hl : X.env.scope.names.lookup x = some .local := by
              unfold swapB at h4
              simp only [Bool.and_eq_true, beq_iff_eq] at h4
              rw [g.sc]
              exact h4.1.1
            refine (ps_setLc g.calm g.nd l1 hl (by rw [swap_eq g, h4]) (sSrc src g.toGdE _ _ k5) (blkOk_by (own := own) (by rw [g.N, g.sc]; exact k2)) (fun s H C c fp => sTg (g.blk s H C c fp sc) tg2 _ k4) (fun s H C c' fp => sTo c (g.blk s H C c' fp sc) _ k6)
              (fun s H C c' fp => sE elt (g.blk s H C c' fp sc) _ k7) (notSet_ok k1)).imp fun E σ H h => lc_ok k3 (asg_ok (t := .name i) h)
          · cases h2
        · cases h4
    · cases h
  | .par i j a b, W, S, X, g, st, h => by
    unfold chkS at h
    split at h
    · simp only [Bool.and_eq_true] at h
      obtain ⟨⟨h1, h2⟩, h3⟩ := h
      obtain ⟨p1, p2, p3, p4, p5, p6, p7, p8⟩ := parB_ok g h1
      exact w_par g.calm g.nd p1 p2 p3 p4 p5 (sE a g.toGdE _ h2) (sE b g.toGdE _ h3) (star_one p6) (star_one p7) p8
    · cases h
  | .setIx o i e, W, S, X, g, st, h => by
    unfold chkS at h
    split at h
    · simp only [Bool.and_eq_true] at h
      obtain ⟨⟨⟨h1, h2⟩, h3⟩, h4⟩ := h
      rename_i x y p v0 pos
      refine w_setIx (by have := g.hu; omega) (sE o g.toGdE _ h2) (sE i g.toGdE _ h3) (sE e g.toGdE _ h4) (fun v => ?_) (show swapsWith v0 (some (.Subscript x y p)) pos.line X.env = pure false from swaps_sub)
      cases y <;> first | rfl | cases h1
    · cases h
  | .setFld x o e, W, S, X, g, st, h => by
    unfold chkS at h
    split at h
    · simp only [Bool.and_eq_true, decide_eq_true_eq] at h
      obtain ⟨⟨⟨⟨⟨rfl, h2⟩, h3⟩, h4⟩, h5⟩, h6⟩ := h
      exact w_setFld g.hK (fun C => (g.fx.cls h3 C).1) (fun C => (g.fx.cls h3 C).2 _ h2) h2 (sE o g.toGdE _ h5) (sE e g.toGdE _ h6) (swaps_no h4)
    · cases h
  | .aug i op e, W, S, X, g, st, h => by
    unfold chkS at h
    split at h
    · simp only [Bool.and_eq_true, Bool.or_eq_true, decide_eq_true_eq] at h
      obtain ⟨⟨⟨h1, rfl⟩, h3⟩, h4⟩ := h
      obtain ⟨l1, l2, l3⟩ := locB_ok g.toGdE h1
      exact w_aug g.nd l1 l2 (sE e g.toGdE _ h4) h3 l3
    · cases h
  | .expr e, W, S, X, g, st, h => by
    unfold chkS at h
    split at h
    · rw [Bool.and_eq_true] at h
      exact w_expr (sE e g.toGdE _ h.2) (swaps_no h.1)
    · cases h
  | .pass, W, S, X, g, st, h => by
    unfold chkS at h
    split at h
    · exact w_pass
    · exact ps_doc.imp fun E σ H ⟨μ, env, st, R, e, p⟩ => p.next R e
    · cases h
  | .ite t a b, W, S, X, g, st, h => by
    unfold chkS at h
    split at h
    · simp only [Bool.and_eq_true] at h
      exact w_if (sT t g.toGdE _ h.1.1).1 (sSs a g _ h.1.2) (sSs b g _ h.2)
    · cases h
  | .forr tg src tmp body, W, S, X, g, st, h => by
    unfold chkS at h
    split at h
    · simp only [Bool.and_eq_true] at h
      obtain ⟨⟨⟨h1, h2⟩, h3⟩, h4⟩ := h
      exact w_for g.hp g.calm (sSrc src g.toGdE _ _ h3) (sTg g.toGdE tg _ h1) (sSs body g _ h4) (notSet_ok h2)
    · cases h
  | .whil t tmp body, W, S, X, g, st, h => by
    unfold chkS at h
    split at h
    · rw [Bool.and_eq_true] at h
      exact w_while g.hp (sT t g.toGdE _ h.1).1 (sSs body g _ h.2)
    · cases h
  | .ret e, W, S, X, g, st, h => by
    unfold chkS at h
    split at h
    · exact w_ret (sE e g.toGdE _ h)
    · cases h
  | .retN, W, S, X, g, st, h => by
    unfold chkS at h
    split at h
    · exact w_retN
    · cases h
  | .raise c f e, W, S, X, g, st, h => by
    unfold chkS at h
    split at h
    · simp only [Bool.and_eq_true, decide_eq_true_eq] at h
      obtain ⟨⟨h1, h2⟩, h3⟩ := h
      obtain ⟨k1, k2, bmB, B, n1, n2, F, q⟩ := g.fx.exr c h2
      obtain ⟨g1, g2, g3⟩ := glB_ok g.toGdE h3
      exact w_raise g.calm g.tk (pmk_own0 F (by rw [g.hK]; exact q) (by rw [g.hmg]; exact g.fx.exn c _ h1) (by rw [g.hK]; exact k1) (k2 X g.hK) g1 g2)
    · cases h
  | .tryx body hs, W, S, X, g, st, h => by
    unfold chkS at h
    split at h
    · rename_i b hd tl pos
      simp only [Bool.and_eq_true] at h
      obtain ⟨h1, h2⟩ := h
      refine (ps_try_many (tb := fun W => tS G W (exSs cl body)) g.hs g.hf g.tk (fun W' pn xe tk hp => sSs body (g.tr tk hp) _ h1) (sHd g hs _ h2)).imp fun E σ H ⟨μ, env, st, R, e, q⟩ => ⟨μ, env, st, R, e, ?_⟩
      unfold exS at q
      generalize exSs cl body env st = r at q
      cases r with
      | exn c p e s => exact sHw g hs _ h2 q
      | next e s => exact q
      | ret d s => exact q
      | brk e s => exact q
      | cont e s => exact q
      | bad => exact q
    · cases h
  | .tryAs _ _ _ _, W, S, X, g, st, h => by simp [chkS] at h
theorem sSs : ∀ (s : Ss) {W : WX} {S : Sx} {X : Cx}, GdS G Tt cl k W S X → ∀ (st : List Stmt), chkSs Tt s S st = true → PSs X st (tS G W (exSs cl s))
  | .nil, W, S, X, g, st, h => by
    unfold chkSs at h
    split at h
    · exact w_nil
    · cases h
  | .cons a r, W, S, X, g, st, h => by
    unfold chkSs at h
    split at h
    · rw [Bool.and_eq_true] at h
      exact w_cons (sS a g _ h.1) (sSs r g _ h.2)
    · cases h
end
end
end Ws
end
end

section
set_option Elab.async false
set_option linter.all false
set_option maxRecDepth 100000
set_option maxHeartbeats 4000000
/-! WsM: all defs of a text; the law's end. -/
noncomputable section
namespace Ws
open PySem PySem.Spec PyProof.Rows L2
theorem fn_ruleD {G : Gam} {base : Heap} {Pg : Program} {P : Nat → Option FDef} {n k f : Nat} {x qual : Str} {params : Arguments} {body : List Stmt} {scope : Scope} {dvs : List V} {kws : List (Str × V)} {N : List Str} {fd : FDef}
    (F : FunD G.K x qual params body scope dvs kws (G.fA f) (G.fD f)) (S : FnScope N (G.fP f) scope)
    (hP : P f = some fd) (np : fd.np = (G.fP f).length) (ns : fd.ns = N.length)
    (hbody : ∀ (cdv : Value) (A : Around) (outer : List PySem.Env) (s : Shared) (H : Hp) (E : XK), Room k (A.deeper (envOfC qual scope s.heap.objs.size (G.fA f) cdv)) →
      PSs (cxOf (L2.CX Pg G.w) Pg G.w G.K G.mg base N qual scope (G.fA f) cdv A outer s H E) body (tS G (fun c d _ H => E c d H) fun env st => exSs (callF P n) fd.body env st)) :
    FnOk Pg G.w G.K G.mg base (L2.CX Pg G.w) (k + 1) (G.fA f) (G.fD f) (G.fP f) (spI G (callF P (n + 1)) f) := by
  refine F.ok S (fun vs H Q E h => h.1) fun cdv A outer s H vs Q E hr hsp => ⟨_, hbody cdv A outer s H E hr, ?_⟩
  obtain ⟨hl, μ, st0, ds, R, rs, p⟩ := hsp
  refine ⟨μ, startE fd.ns ds, st0, R, rs.entry ns, ?_⟩
  unfold callF at p
  rw [hP] at p
  dsimp only at p
  rw [if_pos (by rw [np, rs.length, hl])] at p
  exact res_ok (gc_ok R p)
/-! ### a text -/
/-- a def of the text, its slots, its parameters, what it is in the small syntax -/
structure Df where
  d : He.DefD
  N : List Str
  ps : List Str
  fd : FDef
  pr : Bool := false
def Df.sx (d : Df) : Sx := ⟨d.d.scope, fun _ => true, d.N⟩
def scB (N P : List Str) (sc : Scope) : Bool :=
  decide (sc.kind = .function) && !sc.isCoroutine && !sc.isGenerator && decide N.Nodup && decide (N.take P.length = P) && P.all (fun x => decide (sc.names.lookup x = some .local) || decide (sc.names.lookup x = some .cell)) && sc.names.all (fun y => !decide (y.2 = .free))
theorem scB_ok {N P : List Str} {sc : Scope} (h : scB N P sc = true) : FnScope N P sc := by
  unfold scB at h
  simp only [Bool.and_eq_true, Bool.not_eq_true', decide_eq_true_eq, List.all_eq_true, Bool.or_eq_true, decide_eq_false_iff_not] at h
  obtain ⟨⟨⟨⟨⟨⟨h1, h2⟩, h3⟩, h4⟩, h5⟩, h6⟩, h7⟩ := h
  exact ⟨h1, h2, h3, h4, h5, h6, h7⟩
def Df.okB (Tt : Tab) (d : Df) : Bool := scB d.N d.ps d.d.scope && chkSs Tt d.fd.body d.sx d.d.body && decide (d.fd.np = d.ps.length) && decide (d.fd.ns = d.N.length)
def PF (ds : List (Option Df)) (f : Nat) : Option FDef := ((ds[f]?).getD none).map (·.fd)
structure Text (G : Gam) (Tt : Tab) (ds : List (Option Df)) : Prop where
  fx : Facts G Tt
  fns : ∀ f, (Tt.fns f).isSome = true → ∃ d, ds[f]? = some (some d) ∧ d.okB Tt = true ∧ G.fP f = d.ps ∧ FunD G.K d.d.name d.d.qual d.d.params d.d.body d.d.scope [] [] (G.fA f) (G.fD f)
theorem fns_ok {G : Gam} {Tt : Tab} {ds : List (Option Df)} (X : Text G Tt ds) {base : Heap} {Pg : Program} : ∀ (n f : Nat), (Tt.fns f).isSome = true →
    FnOk Pg G.w G.K G.mg base (L2.CX Pg G.w) (2 * n) (G.fA f) (G.fD f) (G.fP f) (spI G (callF (PF ds) n) f)
  | 0, f, hf => ⟨fun vs H Q E h => h.1, fun A outer s H args us vs Q E hr e0 hb r hsp => by
    obtain ⟨hl, μ, st0, d, R, rs, p⟩ := hsp
    exact p.elim⟩
  | n + 1, f, hf => by
    obtain ⟨d, hd, ok, hp, F⟩ := X.fns f hf
    unfold Df.okB at ok
    simp only [Bool.and_eq_true, decide_eq_true_eq] at ok
    obtain ⟨⟨⟨k1, k2⟩, k3⟩, k4⟩ := ok
    have S := scB_ok k1
    rw [← hp] at S k3
    refine (fn_ruleD (k := 2 * n + 1) F S (fd := d.fd) (by unfold PF; rw [hd]; rfl) k3 k4 fun cdv A outer s H E hr => sSs (Tt := Tt) (k := 2 * n) d.fd.body (S := d.sx) ⟨⟨X.fx, rfl, rfl, rfl, S.nd, rfl, takes_of rfl rfl rfl rfl, hr, fun g hg => fns_ok X n g hg, rfl, fun _ _ => rfl, rfl⟩, passes_of rfl, rfl, rfl, S.kind⟩ _ k2)
/-! ### the law's end -/
/-- the script: a list that stays -/
def Scr (st : AS) (d : D) (ns : List Int) : Prop := listD st d = some (ns.map D.int) ∧ ((∃ l, d = .ref l ∧ st = [.frz (ns.map D.int)] ∧ l = 0) ∨ (d = .kls (ns.map D.int) ∧ st = []))
theorem law_end {G : Gam} {cl : Call} {f : Nat} {x : Str} (hp : G.fP f = [x]) (hl : ∀ (ns : List Int) (st : AS) (d : D), ns.length ≤ 63 → Scr st d ns → ∃ st', cl f [d] st = .ok (.bl true) st')
    (H : Hp) (a : Addr) (ns : List Int) (hz : ns.length ≤ 63) (hO : Only H) (hS : SqL G.K H a (ns.map V.int)) : spI G cl f [.ref a] H (fun v _ => v = .bl true) fun _ _ _ => False := by
  have sz : (ns.map D.int).length ≤ szMax := by rw [List.length_map]; exact Nat.le_trans hz (by unfold szMax; omega)
  refine ⟨by rw [hp]; rfl, ?_⟩
  have fin : ∀ {st : AS} {d : D} {μ : Nat → Addr}, Rl G μ st H → Rep G μ st.length H d (.ref a) → Scr st d ns → ∃ μ st ds, Rl G μ st H ∧ Reps G μ st.length H ds [.ref a] ∧ PostR G (fun _ _ _ _ => False) [] μ st.length H (PV G fun v _ => v = .bl true) (cl f ds st) := fun {st d μ} R r s => by
    obtain ⟨st', e⟩ := hl ns st d hz s
    refine ⟨μ, st, [d], R, .one r, ?_⟩
    rw [e]
    exact fun μ' H' _ _ v rv => rv
  rcases hS with hS | ⟨o, its, n, h1, h2, h3, h4, h5, h6⟩
  · have hS' : ∃ ob, H a = some (.frz ob (.lst (ns.map V.int))) := by
      rcases hS with h | ⟨ob, h⟩
      · rcases hO a with z | ⟨o, xs, z⟩ <;> (rw [h] at z; cases z)
      · exact ⟨ob, h⟩
    obtain ⟨ob, hS'⟩ := hS'
    have R : Rl G (fun _ => a) [.frz (ns.map D.int)] H := by
      refine ⟨fun i j hi hj _ => ?_, fun i o e => ?_⟩
      · simp only [List.length_singleton] at hi hj; omega
      · have hi := (List.getElem?_eq_some_iff.mp e).1
        simp only [List.length_singleton] at hi
        have e0 : i = 0 := by omega
        subst e0
        simp only [List.getElem?_cons_zero, Option.some.injEq] at e
        subst e
        exact ⟨sz, ob, _, hS', Reps.ofInts ns⟩
    exact fin (d := .ref 0) R ⟨by simp, rfl⟩ ⟨rfl, .inl ⟨0, rfl, rfl, rfl⟩⟩
  · have R : Rl G (fun _ => a) [] H := ⟨fun i j hi => absurd hi (Nat.not_lt_zero _), fun i o e => by simp at e⟩
    exact fin (d := .kls (ns.map D.int)) R ⟨sz, a, _, rfl, ⟨o, its, n, h1, h2, h3, h4, h5, h6⟩, Reps.ofInts ns⟩ ⟨rfl, .inr ⟨rfl, rfl⟩⟩
theorem noCX {P : Program} {w : World} (H : Hp) (s : Shared) (e : Value) (s' : Shared) (h : L2.CX P w [] H s (fun _ _ _ => False) e s') : False := by
  obtain ⟨_, _, _, _, _, _, _, _, _, _, _, _, z⟩ := h
  exact z
end Ws
end
end

section
set_option Elab.async false
set_option linter.all false
set_option maxRecDepth 100000
set_option maxHeartbeats 4000000
/-! WsN: from the head's facts to a text. -/
noncomputable section
namespace Ws
open PySem PySem.Spec PyProof.Rows L2
theorem walk_ofX {l : PySem.W.OpenLaw} {n k : Nat} {q : Program} {loose : List Str} {XP : (Str → Option Value) → Heap → Prop} {YP : World → Heap → Prop} {d : DefRec} {x : Str}
    (hn : l.most = some n) (hn2 : n ≤ sizeLine) (hdf : d.params.defaults = []) (hr : Room k callerA)
    (F : ∀ (w : World) (mg : Str → Option Value) (fa : Addr) (h : Heap), YP w h → h.Ns mainGlobals mg → mg d.name = some (.ref fa) →
      ∃ (K : PySem.W.Frag) (fd : FuncData) (sp : Sp), K.In h ∧ (∀ (s : Shared) (u : Value), BindsTo s fd ⟨[u], []⟩ [(x, u)]) ∧
        (∀ (H : Hp) (a : Addr) (ns : List Int), ns.length ≤ n → Only H → SqL K H a (ns.map V.int) → sp [.ref a] H (fun v _ => v = .bl true) fun _ _ _ => False) ∧
        ∀ base : Heap, K.In base → base.Ns mainGlobals mg → FnOk l.prog w K mg base (L2.CX l.prog w) k fa fd [x] sp) :
    PySem.W.WalkO q loose XP YP l.row.toRowW d [] (fun f vs => PySem.call f vs) := by
  refine Att.attach_callB hn hdf fun w s₀ s₁ mg mb fa o pm cd doc a vs ns G Y ho hd hcd hmg hobj hints hlen hbits hg => ?_
  obtain ⟨K, fd, sp, KX, hb, hsp, hF⟩ := F w mg fa _ Y G.T.g hmg
  exact law_call KX G.T.g G.T.b G.T.builtins G.T.nolimit hg hobj hints (Nat.le_trans hlen hn2) hr hF hb (fun H hO hS => hsp H a ns hlen hO hS) fun H e s' h => noCX H s₁ e s' h
/-! ### the module's constants -/
def dvD : D → Option He.Dv
  | .non => some .non
  | .bl b => some (.bl b)
  | .int i => some (.int i)
  | .str x => some (.str x)
  | _ => none
def dvDs : List D → Option (List He.Dv)
  | [] => some []
  | d :: r => match dvD d, dvDs r with
    | some a, some b => some (a :: b)
    | _, _ => none
theorem dvD_rep {K : PySem.W.Frag} {d : D} {v : He.Dv} (h : dvD d = some v) (G : Gam) (μ : Nat → Addr) (n : Nat) (H : Hp) : Rep G μ n H d (He.Dv.v K v) := by
  cases d <;> simp only [dvD, Option.some.injEq, reduceCtorEq] at h <;> subst h <;> rfl
theorem dvDs_rep {K : PySem.W.Frag} : ∀ {ds : List D} {vs : List He.Dv}, dvDs ds = some vs → ∀ (G : Gam) (μ : Nat → Addr) (n : Nat) (H : Hp), Reps G μ n H ds (vs.map (He.Dv.v K))
  | [], vs, h, G, μ, n, H => by simp only [dvDs, Option.some.injEq] at h; subst h; rfl
  | d :: r, vs, h, G, μ, n, H => by
    unfold dvDs at h
    split at h
    · rename_i a b h1 h2
      cases h
      exact .cons (dvD_rep h1 G μ n H) (dvDs_rep h2 G μ n H)
    · cases h
def glbB (K : PySem.W.Frag) (p : Str × D) : Bool := match p.2 with
  | .int i => He.Fa.ok K (.int p.1 i)
  | .str z => He.Fa.ok K (.str p.1 z)
  | .tup ds => He.Fa.ok K (.glo p.1) && decide (ds.length ≤ 1000) && (match dvDs ds with
    | some vs => He.tupB K p.1 vs
    | none => false)
  | _ => false
theorem glbB_ok {K : PySem.W.Frag} {h : Heap} {mg : Str → Option Value} (X : K.In h) (Gn : h.Ns mainGlobals mg) {p : Str × D} (c : glbB K p = true) (G : Gam) (hG : G.K = K) :
    ∃ v u, mg p.1 = some u ∧ RelV v u ∧ ∀ μ n H, Rep G μ n H p.2 v := by
  obtain ⟨x, d⟩ := p
  cases d with
  | int i =>
    obtain ⟨t, e⟩ := He.int_ok X Gn (show (He.Fa.int x i).ok K = true from c)
    exact ⟨.int i, _, e, ⟨t, rfl⟩, fun _ _ _ => rfl⟩
  | str z =>
    obtain ⟨t, e⟩ := He.str_ok X Gn (show (He.Fa.str x z).ok K = true from c)
    exact ⟨.str z, _, e, ⟨t, rfl⟩, fun _ _ _ => rfl⟩
  | tup ds =>
    unfold glbB at c
    simp only [Bool.and_eq_true, decide_eq_true_eq] at c
    obtain ⟨⟨c1, c2⟩, c3⟩ := c
    split at c3
    · rename_i vs hv
      have q := He.tupB_ok c3 (fun _ => none)
      rcases q with q | q
      · rcases q with q | ⟨o, q⟩ <;> cases q
      · refine ⟨.ref (He.ga K x), _, He.glo_ok X Gn c1, (rfl : _ = _), fun μ n H => ⟨szOk c2, _, _, rfl, .inr ?_, dvDs_rep (K := K) hv G μ n H⟩⟩
        rw [hG]
        exact q
    · cases c3
  | _ => cases c
/-! ### a property's def -/
/-- the property of the class, its getter -/
def prP (K : PySem.W.Frag) (p : Str × Option Str) : Addr × Addr := match PySem.W.findIn K (.ref (He.ga K p.1)) (p.2.getD "") with
  | some (some (.ref a)) => (a, match PySem.W.recIn K a "property" with
    | some (.ref g :: _) => g
    | _ => 0)
  | _ => (0, 0)
def prB (K : PySem.W.Frag) (p : Str × Option Str) : Bool := He.eqO (PySem.W.findIn K (.ref (He.ga K p.1)) (p.2.getD "")) (some (some (.ref (prP K p).1))) && (He.eqO (PySem.W.specialIn K (.ref (prP K p).1) "__get__") (some (some (.builtin "property.__get__"))) &&
  (decide (PySem.W.takesIn K (.ref (prP K p).1) = some true) && (match PySem.W.recIn K (prP K p).1 "property" with
    | some (.ref g :: _) => decide (g = (prP K p).2)
    | _ => false)))
theorem prB_ok {K : PySem.W.Frag} {p : Str × Option Str} (h : prB K p = true) : PropOf K (He.ga K p.1) (p.2.getD "") (prP K p).1 (prP K p).2 := by
  unfold prB at h
  obtain ⟨h1, h⟩ := He.ba h
  obtain ⟨h2, h⟩ := He.ba h
  obtain ⟨h3, h4⟩ := He.ba h
  refine ⟨He.eqO_ok h1, He.eqO_ok h2, of_decide_eq_true h3, ?_⟩
  split at h4
  · rename_i g r hr
    exact ⟨r, by rw [hr, of_decide_eq_true h4]⟩
  · cases h4
def fnA (K : PySem.W.Frag) (a : Addr) : He.FnW := match K.lookup a with
  | some ⟨_, _, .func fd, _⟩ => some (fd.name, fd.qualname, fd.params, fd.body, fd.scope, fd.globals, fd.closure, fd.builtins)
  | _ => none
def okA (K : PySem.W.Frag) (a : Addr) (q : Str) : Bool := PySem.W.keepIn K (.ref a) && (match K.lookup a with
  | some ⟨_, _, .func fd, _⟩ => PySem.W.codeIn K fd.code q && (He.dflB K fd.defaults [] && He.kwdB K fd.kwdefaults [])
  | _ => false)
theorem funA {K : PySem.W.Frag} {a : Addr} {d : He.DefD} (e : fnA K a = d.val) (c : okA K a d.qual = true) : ∃ fd, FunD K d.name d.qual d.params d.body d.scope [] [] a fd := by
  obtain ⟨kp, c2⟩ := He.ba c
  unfold fnA at e
  cases q : K.lookup a with
  | none => rw [q] at c2; cases c2
  | some o =>
    obtain ⟨oc, od, dt, osl⟩ := o
    rw [q] at c2 e
    cases dt with
    | func fd =>
      obtain ⟨n1, n2, n3, n4, n5, n6, n7, n8, n9, n10, n11, n12, n13, n14, n15⟩ := fd
      have e2 : (some (n1, n2, n3, n4, n5, n6, n7, n15) : He.FnW) = some (d.name, d.qual, d.params, .stmts d.body, d.scope, mainGlobals, [], builtinsNs) := e
      simp only [Option.some.injEq, Prod.mk.injEq] at e2
      obtain ⟨h1, h2, h3, h4, h5, h6, h7, h8⟩ := e2
      subst h1 h2 h3 h4 h5 h6 h7 h8
      have c3 : (PySem.W.codeIn K n13 d.qual && (He.dflB K n8 [] && He.kwdB K n9 [])) = true := c2
      obtain ⟨k1, k2⟩ := He.ba c3
      obtain ⟨k3, k4⟩ := He.ba k2
      exact ⟨_, ⟨oc, od, n8, n9, n10, n11, n12, n13, n14, osl, rfl, q, k1, He.dflB_ok k3, He.kwdB_ok k4⟩, kp⟩
    | _ => cases c2
/-! ### a law's text -/
structure LawT where
  ds : List (Option Df)
  exs : List (Option Str)
  exr : List Nat
  blt : List Str
  glb : List (Nat × Str × D)
  cls : List Str := []
def gn (d : Df) : Option Str := match d.d.at_.2 with
  | none => some d.d.at_.1
  | some _ => none
def atO {α : Type} (l : List (Option α)) (i : Nat) : Option α := (l[i]?).getD none
theorem atO_some {α : Type} {l : List (Option α)} {i : Nat} {a : α} (h : atO l i = some a) : l[i]? = some (some a) := by
  unfold atO at h
  cases e : l[i]? with
  | none => rw [e] at h; cases h
  | some o => rw [e] at h; rw [show o = some a from h]
def LawT.dl (l : LawT) : List Df := l.ds.filterMap id
/-- the class and the method of a def -/
def mthOf (cls : List Str) (d : Df) : Option (Nat × Str) := match d.d.at_.2 with
  | some m => if d.d.at_.1 ∈ cls then some (cls.idxOf d.d.at_.1, m) else none
  | none => none
def LawT.pros (l : LawT) : List Nat := l.ds.zipIdx.filterMap fun p => match p.1 with
  | some d => if d.pr = true then some p.2 else none
  | none => none
def LawT.tab (l : LawT) : Tab := ⟨fun f => (atO l.ds f).map fun d => (gn d, d.ps), atO l.exs, l.exr, l.blt, l.glb, l.cls, fun f => (atO l.ds f).bind (mthOf l.cls), l.pros⟩
def LawT.exl (l : LawT) : List (Str × Nat) := l.exs.zipIdx.filterMap fun p => p.1.map fun x => (x, p.2)
def LawT.exNames (l : LawT) : List Str := l.exr.filterMap (atO l.exs)
def LawT.exPairs (l : LawT) : List He.Fa := l.exl.flatMap fun p => l.exl.map fun q => .exm p.1 q.1 (subX p.2 q.2)
def LawT.fn0 (l : LawT) : List Df := l.dl.filter fun d => !d.pr
def LawT.fn1 (l : LawT) : List Df := l.dl.filter fun d => d.pr
/-- the facts of the classes -/
def LawT.faC (l : LawT) : List He.Fa := l.cls.flatMap fun x => .glo x :: .cls x :: FLDS.map (.noat x)
def LawT.faM (l : LawT) : List He.Fa := l.fn0.flatMap fun d => match d.d.at_.2 with
  | some m => if d.d.at_.1 ∈ l.cls then .meth d.d.at_.1 m :: (if m = "__init__" then [.mkr d.d.at_.1] else []) else []
  | none => []
def LawT.fa (l : LawT) : List He.Fa := (l.dl.filterMap gn).map .glo ++ (l.blt.map .free ++ (l.exl.map (fun p => .glo p.1) ++ (l.exNames.map .exc ++ (l.exPairs ++ (l.faC ++ l.faM)))))
def LawT.fn (l : LawT) : List He.DefD := l.fn0.map (·.d)
def LawT.ex (l : LawT) (K : PySem.W.Frag) : Bool := (l.glb.all fun p => glbB K p.2) && l.fn1.all fun d => prB K d.d.at_ && okA K (prP K d.d.at_).2 d.d.qual
def LawT.okB (l : LawT) : Bool := (l.dl.all fun d => d.okB l.tab && d.d.dfl.isEmpty && d.d.kwd.isEmpty && (!d.pr || (decide (d.d.at_.1 ∈ l.cls) && d.d.at_.2.isSome && !decide (d.d.at_.2 = some "__init__")))) && (l.exr.all fun c => (atO l.exs c).isSome) && decide (l.exs[0]? = some (some ("WeekError" : Str)))
/-- the head's look -/
abbrev AlY : Type := He.AlX × List He.FnW
def LawT.fnP (l : LawT) (K : PySem.W.Frag) : List He.FnW := l.fn1.map fun d => fnA K (prP K d.d.at_).2
def LawT.valP (l : LawT) : List He.FnW := l.fn1.map fun d => d.d.val
def LawT.obs (l : LawT) (n : Nat) (g : Addr → Option Obj) : AlY := (He.obsX n l.fa l.fn [] [] l.ex g, l.fnP (He.frT g (He.asD g n)))
def LawT.hook (l : LawT) (n : Nat) : PySem.W.Hook where
  α := AlY
  obs := fun s => l.obs n s.heap.get?
  val := fun w => (He.valX l.fn [] w, l.valP)
  says := fun w h => ∃ K : PySem.W.Frag, K.In h ∧ He.SaysX l.fa l.fn [] [] l.ex w h K ∧ l.fnP K = l.valP
  of := fun _ _ e => ⟨_, He.frT_in, He.saysX_of (congrArg (fun z : AlY => z.1) e), congrArg (fun z : AlY => z.2) e⟩
  keeps := fun _ _ _ ⟨K, hK, c, e⟩ k => ⟨K, PySem.W.Frag.In.keeps hK k, ⟨c.t, c.more, c.hd, c.out, fun p hp => k _ _ (c.empty p hp)⟩, e⟩
theorem LawT.obs_eq (l : LawT) {n : Nat} {g : Addr → Option Obj} {s : Shared} (h : ∀ a, g a = s.heap.get? a) : l.obs n g = (l.hook n).obs s := by
  have e : g = s.heap.get? := funext h
  rw [e] <;> rfl
def BindOk (d : Df) : Prop := ∀ (kV doc pm : Value) (an : Option Addr) (cdv ct : Value) (us : List Value), us.length = d.ps.length → bindArgs (PySem.W.fnOf d.d.name d.d.qual d.d.params d.d.body d.d.scope .none kV doc pm an cdv ct) ⟨us, []⟩ = pure (d.ps.zip us)
/-- where a def stands -/
def adr (K : PySem.W.Frag) (d : Df) : Addr := if d.pr = true then (prP K d.d.at_).2 else He.fAd K d.d.at_
def LawT.gam (l : LawT) (K : PySem.W.Frag) (w : World) (mg : Str → Option Value) (fD : Nat → FuncData) : Gam where
  K := K
  w := w
  mg := mg
  cA := fun C => He.ga K ((l.cls[C]?).getD ((l.cls[0]?).getD ""))
  xA := fun c => He.ga K ((atO l.exs c).getD "WeekError")
  fA := fun f => match atO l.ds f with
    | some d => adr K d
    | none => 0
  fD := fD
  fP := fun f => match atO l.ds f with
    | some d => d.ps
    | none => []
theorem LawT.mem_dl (l : LawT) {f : Nat} {d : Df} (h : atO l.ds f = some d) : d ∈ l.dl := List.mem_filterMap.mpr ⟨some d, List.mem_of_getElem? (atO_some h), rfl⟩
theorem LawT.mem_exl (l : LawT) {c : Nat} {x : Str} (h : atO l.exs c = some x) : (x, c) ∈ l.exl := List.mem_filterMap.mpr ⟨(some x, c), List.mem_zipIdx_iff_getElem?.mpr (atO_some h), rfl⟩
theorem LawT.mem_pros (l : LawT) {f : Nat} {d : Df} (h : atO l.ds f = some d) : f ∈ l.pros ↔ d.pr = true := by
  unfold LawT.pros
  rw [List.mem_filterMap]
  constructor
  · rintro ⟨⟨o, i⟩, hp, e⟩
    have hp' := List.mem_zipIdx_iff_getElem?.mp hp
    dsimp only at e hp'
    cases o with
    | none => cases e
    | some d' =>
      dsimp only at e
      split at e
      · rename_i hd
        cases e
        rw [atO_some h] at hp'
        cases hp'
        exact hd
      · cases e
  · intro hd
    exact ⟨(some d, f), List.mem_zipIdx_iff_getElem?.mpr (atO_some h), by simp [hd]⟩
theorem subX_absent {c h : Nat} (hn : c ≠ h) : subX c h = subX 0 h := by
  unfold subX
  have e1 : (c == h) = false := by simpa using hn
  rw [e1]
  by_cases e : h = 0
  · subst e; rfl
  · have e2 : (h == 0) = false := by simpa using e
    have e3 : (0 == h) = false := by simpa using Ne.symm e
    rw [e2, e3]
theorem mthOf_some {cls : List Str} {d : Df} {C : Nat} {m : Str} (h : mthOf cls d = some (C, m)) : d.d.at_.2 = some m ∧ d.d.at_.1 ∈ cls ∧ cls[C]? = some d.d.at_.1 := by
  unfold mthOf at h
  split at h
  · rename_i m' hm
    split at h
    · rename_i hc
      cases h
      have hl := List.idxOf_lt_length_of_mem hc
      exact ⟨hm, hc, by rw [List.getElem?_eq_getElem hl, List.getElem_idxOf hl]⟩
    · cases h
  · cases h
theorem LawT.text (l : LawT) {K : PySem.W.Frag} {h : Heap} {w w' : World} {mg : Str → Option Value} (X : K.In h) (Gn : h.Ns mainGlobals mg) (c : He.SaysX l.fa l.fn [] [] l.ex w' h K) (cp : l.fnP K = l.valP) (ok : l.okB = true) (bo : ∀ d ∈ l.dl, BindOk d) :
    ∃ fD, Text (l.gam K w mg fD) l.tab l.ds := by
  classical
  have cd : He.SaysD l.fa l.fn K := c.t.d
  unfold LawT.okB at ok
  simp only [Bool.and_eq_true, List.all_eq_true, decide_eq_true_eq] at ok
  obtain ⟨⟨okd, okx⟩, ok0⟩ := ok
  obtain ⟨cx1, cx2⟩ := He.ba (show ((l.glb.all fun p => glbB K p.2) && l.fn1.all fun d => prB K d.d.at_ && okA K (prP K d.d.at_).2 d.d.qual) = true from c.more)
  have fdE : ∀ (f : Nat) (d : Df), atO l.ds f = some d → ∃ fd, FunD K d.d.name d.d.qual d.d.params d.d.body d.d.scope [] [] (adr K d) fd := fun f d hd => by
    have hm : d ∈ l.dl := l.mem_dl hd
    obtain ⟨⟨⟨_, h2⟩, h3⟩, _⟩ := okd d hm
    by_cases hp : d.pr = true
    · have hm1 : d ∈ l.fn1 := List.mem_filter.mpr ⟨hm, hp⟩
      obtain ⟨q1, q2⟩ := He.ba (List.all_eq_true.mp cx2 d hm1)
      unfold adr
      rw [if_pos hp]
      refine funA ?_ q2
      have e : l.fn1.map (fun d => fnA K (prP K d.d.at_).2) = l.fn1.map fun d => d.d.val := cp
      exact List.map_inj_left.mp e d hm1
    · have hm0 : d ∈ l.fn0 := List.mem_filter.mpr ⟨hm, by simpa using hp⟩
      obtain ⟨fd, F⟩ := cd.defs (d := d.d) (List.mem_map.mpr ⟨d, hm0, rfl⟩)
      have e2 : d.d.dfl = [] := List.isEmpty_iff.mp h2
      have e3 : d.d.kwd = [] := List.isEmpty_iff.mp h3
      unfold He.DefD.dvs He.DefD.kws at F
      rw [e2, e3] at F
      unfold adr
      rw [if_neg hp]
      exact ⟨fd, F⟩
  have exfd : ∃ fD : Nat → FuncData, ∀ (f : Nat) (d : Df), atO l.ds f = some d → FunD K d.d.name d.d.qual d.d.params d.d.body d.d.scope [] [] (adr K d) (fD f) := by
    refine ⟨fun f => if hf : ∃ d, atO l.ds f = some d then Classical.choose (fdE f _ (Classical.choose_spec hf)) else default, fun f d hd => ?_⟩
    have hf : ∃ d, atO l.ds f = some d := ⟨d, hd⟩
    dsimp only
    rw [dif_pos hf]
    have e1 : Classical.choose hf = d := by
      exact Option.some.inj ((Classical.choose_spec hf).symm.trans hd)
    have q := Classical.choose_spec (fdE f _ (Classical.choose_spec hf))
    simp only [e1] at q ⊢
    exact q
  obtain ⟨fD, hfD⟩ := exfd
  have fact : ∀ f, f ∈ l.fa → f.ok K = true := fun f hf => cd.facts hf
  have fact6 : ∀ f, f ∈ l.faC ++ l.faM → f.ok K = true := fun f hf => fact f (List.mem_append_right _ (List.mem_append_right _ (List.mem_append_right _ (List.mem_append_right _ (List.mem_append_right _ hf)))))
  have gA : ∀ (f : Nat) (d : Df), atO l.ds f = some d → (l.gam K w mg fD).fA f = adr K d ∧ (l.gam K w mg fD).fP f = d.ps := fun f d hd => by
    unfold LawT.gam
    dsimp only
    rw [hd]
    exact ⟨rfl, rfl⟩
  have xA : ∀ (c : Nat) (x : Str), atO l.exs c = some x → (l.gam K w mg fD).xA c = He.ga K x := fun c x hx => by
    unfold LawT.gam
    dsimp only
    rw [hx]
    rfl
  have xN : ∀ (c : Nat), atO l.exs c = none → (l.gam K w mg fD).xA c = He.ga K "WeekError" := fun c hx => by
    unfold LawT.gam
    dsimp only
    rw [hx]
    rfl
  have cA : ∀ (C : Nat) (x : Str), l.cls[C]? = some x → (l.gam K w mg fD).cA C = He.ga K x := fun C x hx => by
    unfold LawT.gam
    dsimp only
    rw [hx]
    rfl
  have x0 : atO l.exs 0 = some "WeekError" := by unfold atO; rw [ok0]; rfl
  have tf : ∀ (f : Nat) (p : Option Str × List Str), l.tab.fns f = some p → ∃ d, atO l.ds f = some d ∧ p = (gn d, d.ps) := fun f p hp => by
    unfold LawT.tab at hp
    dsimp only at hp
    rw [Option.map_eq_some_iff] at hp
    obtain ⟨d, h1, h2⟩ := hp
    exact ⟨d, h1, h2.symm⟩
  have tm : ∀ (f C : Nat) (m : Str), l.tab.mth f = some (C, m) → ∃ d, atO l.ds f = some d ∧ d.d.at_.2 = some m ∧ d.d.at_.1 ∈ l.cls ∧ l.cls[C]? = some d.d.at_.1 := fun f C m hp => by
    unfold LawT.tab at hp
    dsimp only at hp
    rw [Option.bind_eq_some_iff] at hp
    obtain ⟨d, h1, h2⟩ := hp
    exact ⟨d, h1, mthOf_some h2⟩
  have pairs : ∀ (c h : Nat) (x y : Str), atO l.exs c = some x → atO l.exs h = some y → (He.Fa.exm x y (subX c h)).ok K = true := fun c h x y hx hy => by
    refine fact _ (List.mem_append_right _ (List.mem_append_right _ (List.mem_append_right _ (List.mem_append_right _ (List.mem_append_left _ ?_)))))
    exact List.mem_flatMap.mpr ⟨(x, c), l.mem_exl hx, List.mem_map.mpr ⟨(y, h), l.mem_exl hy, rfl⟩⟩
  have cfact : ∀ x ∈ l.cls, mg x = some (.ref (He.ga K x)) ∧ Cls K (He.ga K x) ∧ ∀ y ∈ FLDS, NoAttr K (He.ga K x) y := fun x hx => by
    have k : ∀ z, z ∈ (He.Fa.glo x :: .cls x :: FLDS.map (.noat x)) → z.ok K = true := fun z hz => fact6 z (List.mem_append_left _ (List.mem_flatMap.mpr ⟨x, hx, hz⟩))
    exact ⟨He.glo_ok X Gn (k _ List.mem_cons_self), He.cls_ok (k _ (List.mem_cons_of_mem _ List.mem_cons_self)), fun y hy => He.noat_ok (k (.noat x y) (List.mem_cons_of_mem _ (List.mem_cons_of_mem _ (List.mem_map.mpr ⟨y, hy, rfl⟩))))⟩
  have mfact : ∀ (f C : Nat) (m : Str) (d : Df), atO l.ds f = some d → d.pr = false → d.d.at_.2 = some m → d.d.at_.1 ∈ l.cls → (He.Fa.meth d.d.at_.1 m).ok K = true ∧ (m = "__init__" → (He.Fa.mkr d.d.at_.1).ok K = true) := fun f C m d hd hp hm hc => by
    have hm0 : d ∈ l.fn0 := List.mem_filter.mpr ⟨l.mem_dl hd, by simp [hp]⟩
    have k : ∀ z, z ∈ (match d.d.at_.2 with
      | some m => if d.d.at_.1 ∈ l.cls then He.Fa.meth d.d.at_.1 m :: (if m = "__init__" then [He.Fa.mkr d.d.at_.1] else []) else []
      | none => ([] : List He.Fa)) → z.ok K = true := fun z hz => fact6 z (List.mem_append_right _ (List.mem_flatMap.mpr ⟨d, hm0, hz⟩))
    rw [hm] at k
    dsimp only at k
    rw [if_pos hc] at k
    exact ⟨k _ List.mem_cons_self, fun e => k _ (List.mem_cons_of_mem _ (by rw [if_pos e]; exact List.mem_cons_self))⟩
  refine ⟨fD, ⟨⟨fun f x ps hf => ?_, fun x hx => ?_, fun c x hx => ?_, fun c hc => ?_, fun c h y hh => ?_, fun hcl C => ?_, fun C f x hC hf => ?_, fun C f m hf hnp => ?_, fun C f m hf hp => ?_, fun p hp => ?_⟩, fun f hf => ?_⟩⟩
  · obtain ⟨d, hd, e⟩ := tf f _ hf
    cases e
    obtain ⟨e1, e2⟩ := gA f d hd
    have F := hfD f d hd
    refine ⟨e2, fun z hz => ?_, by rw [e1]; exact F.kp, by rw [e2]; exact F.bindsN (bo d (l.mem_dl hd))⟩
    have m := fact (.glo z) (List.mem_append_left _ (List.mem_map.mpr ⟨z, List.mem_filterMap.mpr ⟨d, l.mem_dl hd, hz⟩, rfl⟩))
    have q := He.glo_ok X Gn m
    rw [e1]
    have e3 : adr K d = He.ga K z := by
      unfold gn at hz
      split at hz
      · rename_i e
        cases hz
        have hnp : ¬ d.pr = true := fun hp => by
          obtain ⟨_, h4⟩ := okd d (l.mem_dl hd)
          rw [hp, e] at h4
          simp at h4
        unfold adr He.fAd
        rw [if_neg hnp, e]
      · cases hz
    rw [e3]
    exact q
  · exact He.free_ok X Gn (fact (.free x) (List.mem_append_right _ (List.mem_append_left _ (List.mem_map.mpr ⟨x, hx, rfl⟩))))
  · rw [xA c x hx]
    exact He.glo_ok X Gn (fact (.glo x) (List.mem_append_right _ (List.mem_append_right _ (List.mem_append_left _ (List.mem_map.mpr ⟨(x, c), l.mem_exl hx, rfl⟩)))))
  · obtain ⟨x, hx⟩ := Option.isSome_iff_exists.mp (okx c hc)
    rw [xA c _ hx]
    obtain ⟨q1, q2, q3, q4⟩ := He.exc_ok (fact (.exc x) (List.mem_append_right _ (List.mem_append_right _ (List.mem_append_right _ (List.mem_append_left _ (List.mem_map.mpr ⟨_, List.mem_filterMap.mpr ⟨c, hc, hx⟩, rfl⟩))))))
    refine ⟨q2, fun Y hY => raises_own (by rw [hY]; exact q3) (by rw [hY]; exact q4), _, _, _, _, PySem.F.excBase_ValueError, q1⟩
  · have hy : atO l.exs h = some y := hh
    rw [xA h y hy]
    cases e : atO l.exs c with
    | some x =>
      rw [xA c x e]
      exact He.exm_ok (pairs c h x y e hy)
    | none =>
      have hne : c ≠ h := fun z => by rw [z, hy] at e; cases e
      rw [xN c e, subX_absent hne]
      exact He.exm_ok (pairs 0 h _ y x0 hy)
  · have hcl' : 0 < l.cls.length := hcl
    have hx : ∃ x, x ∈ l.cls ∧ (l.gam K w mg fD).cA C = He.ga K x := by
      cases e : l.cls[C]? with
      | some x => exact ⟨x, List.mem_of_getElem? e, cA C x e⟩
      | none =>
        refine ⟨l.cls[0], List.getElem_mem hcl', ?_⟩
        unfold LawT.gam
        dsimp only
        rw [e, List.getElem?_eq_getElem hcl']
        rfl
    obtain ⟨x, h1, h2⟩ := hx
    rw [h2]
    exact (cfact x h1).2
  · obtain ⟨d, hd, hm, hc, hC'⟩ := tm f C _ hf
    have hC2 : l.cls[C]? = some x := hC
    rw [hC'] at hC2
    cases hC2
    have hnp : d.pr = false := by
      cases hp : d.pr with
      | false => rfl
      | true =>
        obtain ⟨_, h4⟩ := okd d (l.mem_dl hd)
        rw [hp, hm] at h4
        simp at h4
    obtain ⟨q1, q2⟩ := mfact f C _ d hd hnp hm hc
    rw [cA C _ hC', (gA f d hd).1]
    have ea : adr K d = He.ma K (He.ga K d.d.at_.1) "__init__" := by
      unfold adr He.fAd
      rw [if_neg (by rw [hnp]; decide), hm]
    rw [ea]
    exact ⟨He.mkr_ok (q2 rfl), (cfact _ hc).1⟩
  · obtain ⟨d, hd, hm, hc, hC'⟩ := tm f C m hf
    have hnp' : d.pr = false := by
      cases hp : d.pr with
      | false => rfl
      | true => exact absurd ((l.mem_pros hd).mpr hp) hnp
    obtain ⟨q1, q2⟩ := mfact f C m d hd hnp' hm hc
    rw [cA C _ hC', (gA f d hd).1]
    have ea : adr K d = He.ma K (He.ga K d.d.at_.1) m := by
      unfold adr He.fAd
      rw [if_neg (by rw [hnp']; decide), hm]
    rw [ea]
    exact He.meth_ok q1
  · obtain ⟨d, hd, hm, hc, hC'⟩ := tm f C m hf
    have hp' : d.pr = true := (l.mem_pros hd).mp hp
    have hm1 : d ∈ l.fn1 := List.mem_filter.mpr ⟨l.mem_dl hd, hp'⟩
    obtain ⟨q1, q2⟩ := He.ba (List.all_eq_true.mp cx2 d hm1)
    rw [cA C _ hC', (gA f d hd).1]
    have z := prB_ok q1
    rw [hm] at z
    refine ⟨(prP K d.d.at_).1, ?_⟩
    unfold adr
    rw [if_pos hp']
    exact z
  · exact glbB_ok X Gn (List.all_eq_true.mp cx1 p hp) _ rfl
  · obtain ⟨p, hp⟩ := Option.isSome_iff_exists.mp hf
    obtain ⟨d, hd, e⟩ := tf f p hp
    obtain ⟨e1, e2⟩ := gA f d hd
    refine ⟨d, atO_some hd, (okd d (l.mem_dl hd)).1.1.1, e2, ?_⟩
    rw [e1]
    exact hfD f d hd
end Ws
end
end

section
set_option Elab.async false
set_option linter.all false
set_option maxRecDepth 100000
/-! The defs of the program and of the laws in the small syntax (printed by gen.py). -/
noncomputable section
namespace Pg
open PySem Ws
/-! 0: BadDeed_init -/
/-- 0=self 1=index -/
def f_BadDeed_init : FDef := ⟨2, 2,
  (.cons (.setFld "index" (.var 0) (.var 1)) .nil)⟩
/-! 1: is_number -/
/-- 0=value 1=least 2=most -/
def f_is_number : FDef := ⟨3, 3,
  (.cons (.ret (.and (.isi "int" (.var 0)) (.and (.nt (.isi "bool" (.var 0))) (.chain .le .le (.var 1) (.var 0) (.var 2))))) .nil)⟩
/-! 2: is_switch -/
/-- 0=value -/
def f_is_switch : FDef := ⟨1, 1,
  (.cons (.ite (.or (.nt (.of (.isi "tuple" (.var 0)))) (.cmp .ne (.bi .len (.cons (.var 0) .nil)) (.lit (.int 2))))
    (.cons (.ret (.lit (.bl false))) .nil)
    .nil)
  (.cons (.ret (.and (.call 1 (.cons (.ix (.var 0) (.lit (.int 0))) (.cons (.lit (.int 0)) (.cons (.bin .sub (.glo 0 (.int 168)) (.lit (.int 1))) .nil)))) (.call 1 (.cons (.ix (.var 0) (.lit (.int 1))) (.cons (.lit (.int 0)) (.cons (.lit (.int 9)) .nil)))))) .nil))⟩
/-! 3: is_plan -/
/-- 0=value 1=one 2=two -/
def f_is_plan : FDef := ⟨1, 3,
  (.cons (.ite (.or (.nt (.of (.isi "tuple" (.var 0)))) (.or (.cmp .gt (.bi .len (.cons (.var 0) .nil)) (.glo 1 (.int 14))) (.nt (.of (.bi .all (.cons (.lc [("one", 1)] (.call 2 (.cons (.var 1) .nil)) (.name 1) (.of (.var 0)) .no) .nil))))))
    (.cons (.ret (.lit (.bl false))) .nil)
    .nil)
  (.cons (.ret (.bi .all (.cons (.lc [("one", 1), ("two", 2)] (.cmp .lt (.ix (.var 1) (.lit (.int 0))) (.ix (.var 2) (.lit (.int 0)))) (.tup (.cons (.name 1) (.cons (.name 2) .nil))) (.zip (.var 0) (.sl (.var 0) (.of (.lit (.int 1))) .no)) .no) .nil))) .nil))⟩
/-! 4: check_plan -/
/-- 0=plan -/
def f_check_plan : FDef := ⟨1, 1,
  (.cons (.ite (.nt (.of (.call 3 (.cons (.var 0) .nil))))
    (.cons (.raise 1 none .no) .nil)
    .nil) .nil)⟩
/-! 5: plan_value -/
/-- 0=plan 1=hour 2=found 3=place 4=value -/
def f_plan_value : FDef := ⟨2, 5,
  (.cons (.ite (.nt (.of (.var 0)))
    (.cons (.ret (.lit .non)) .nil)
    .nil)
  (.cons (.asg (.name 2) (.ix (.ix (.var 0) (.neg (.lit (.int 1)))) (.lit (.int 1))))
  (.cons (.forr (.tup (.cons (.name 3) (.cons (.name 4) .nil))) (.of (.var 0)) [3, 4]
    (.cons (.ite (.cmp .le (.var 3) (.bin .mod (.var 1) (.glo 0 (.int 168))))
      (.cons (.asg (.name 2) (.var 4)) .nil)
      .nil) .nil))
  (.cons (.ret (.var 2)) .nil))))⟩
/-! 6: next_switch -/
/-- 0=plan 1=hour 2=rests 3=place 4=value -/
def f_next_switch : FDef := ⟨2, 5,
  (.cons (.ite (.nt (.of (.var 0)))
    (.cons (.ret (.lit .non)) .nil)
    .nil)
  (.cons (.asg (.name 2) (.lc [("place", 3), ("value", 4)] (.bin .mod (.bin .sub (.var 3) (.var 1)) (.glo 0 (.int 168))) (.tup (.cons (.name 3) (.cons (.name 4) .nil))) (.of (.var 0)) .no))
  (.cons (.ret (.bin .add (.var 1) (.bi .min (.cons (.var 2) .nil)))) .nil)))⟩
/-! 7: fewest -/
/-- 0=plan 1=found 2=at -/
def f_fewest : FDef := ⟨1, 3,
  (.cons (.expr (.call 4 (.cons (.var 0) .nil)))
  (.cons (.asg (.name 1) (.lc [("at", 2)] (.ix (.var 0) (.var 2)) (.name 2) (.rng1 (.bi .len (.cons (.var 0) .nil))) (.of (.cmp .ne (.ix (.ix (.var 0) (.var 2)) (.lit (.int 1))) (.ix (.ix (.var 0) (.bin .sub (.var 2) (.lit (.int 1)))) (.lit (.int 1)))))))
  (.cons (.ret (.ite (.of (.var 1)) (.bi .tuple (.cons (.var 1) .nil)) (.sl (.var 0) .no (.of (.lit (.int 1)))))) .nil)))⟩
/-! 8: check_order -/
/-- 0=order -/
def f_check_order : FDef := ⟨1, 1,
  (.cons (.ite (.or (.nt (.of (.isi "str" (.var 0)))) (.cmp .nin (.var 0) (.glo 3 (.tup [.str "newest", .str "away"]))))
    (.cons (.raise 3 none .no) .nil)
    .nil) .nil)⟩
/-! 9: is_value -/
/-- 0=value -/
def f_is_value : FDef := ⟨1, 1,
  (.cons (.ret (.call 1 (.cons (.var 0) (.cons (.lit (.int 0)) (.cons (.lit (.int 9)) .nil))))) .nil)⟩
/-! 10: is_until -/
/-- 0=value -/
def f_is_until : FDef := ⟨1, 1,
  (.cons (.ite (.or (.nt (.of (.isi "tuple" (.var 0)))) (.or (.nt (.of (.var 0))) (.nt (.of (.isi "str" (.ix (.var 0) (.lit (.int 0))))))))
    (.cons (.ret (.lit (.bl false))) .nil)
    .nil)
  (.cons (.ite (.cmp .eq (.ix (.var 0) (.lit (.int 0))) (.lit (.str "till")))
    (.cons (.ret (.and (.cmp .eq (.bi .len (.cons (.var 0) .nil)) (.lit (.int 2))) (.call 1 (.cons (.ix (.var 0) (.lit (.int 1))) (.cons (.lit (.int 0)) (.cons (.bin .mul (.lit (.int 2)) (.glo 2 (.int 1000000000))) .nil)))))) .nil)
    .nil)
  (.cons (.ret (.and (.cmp .inn (.ix (.var 0) (.lit (.int 0))) (.tup (.cons (.lit (.str "next")) (.cons (.lit (.str "hold")) .nil)))) (.cmp .eq (.bi .len (.cons (.var 0) .nil)) (.lit (.int 1))))) .nil)))⟩
/-! 11: is_stretch -/
/-- 0=begin 1=end -/
def f_is_stretch : FDef := ⟨2, 2,
  (.cons (.ite (.nt (.of (.call 1 (.cons (.var 0) (.cons (.lit (.int 0)) (.cons (.bin .mul (.lit (.int 2)) (.glo 2 (.int 1000000000))) .nil))))))
    (.cons (.ret (.lit (.bl false))) .nil)
    .nil)
  (.cons (.ret (.or (.isN (.var 1)) (.call 1 (.cons (.var 1) (.cons (.bin .add (.var 0) (.lit (.int 1))) (.cons (.bin .mul (.lit (.int 2)) (.glo 2 (.int 1000000000))) .nil)))))) .nil))⟩
/-! 12: hour_of -/
/-- 0=deed -/
def f_hour_of : FDef := ⟨1, 1,
  (.cons (.ret (.ix (.var 0) (.neg (.lit (.int 1))))) .nil)⟩
/-! 13: plan_pieces -/
/-- 0=deeds 1=room 2=found 3=deed -/
def f_plan_pieces : FDef := ⟨2, 4,
  (.cons (.asg (.name 2) (.lst (.cons (.tup (.cons (.lit (.int 0)) (.cons (.tup .nil) .nil))) .nil)))
  (.cons (.forr (.name 3) (.of (.var 0)) [3]
    (.cons (.ite (.and (.cmp .eq (.ix (.var 3) (.lit (.int 0))) (.lit (.str "plan"))) (.cmp .eq (.ix (.var 3) (.lit (.int 1))) (.var 1)))
      (.cons (.ite (.cmp .eq (.ix (.var 3) (.lit (.int 3))) (.ix (.ix (.var 2) (.neg (.lit (.int 1)))) (.lit (.int 0))))
        (.cons (.expr (.bm .pop (.var 2) .nil)) .nil)
        .nil)
      (.cons (.expr (.bm .append (.var 2) (.cons (.tup (.cons (.ix (.var 3) (.lit (.int 3))) (.cons (.ix (.var 3) (.lit (.int 2))) .nil))) .nil))) .nil))
      .nil) .nil))
  (.cons (.ret (.var 2)) .nil)))⟩
/-! 14: end_of_next -/
/-- 0=deeds 1=room 2=hour 3=pieces 4=at 5=begin 6=plan 7=end 8=found -/
def f_end_of_next : FDef := ⟨3, 9,
  (.cons (.asg (.name 3) (.call 13 (.cons (.var 0) (.cons (.var 1) .nil))))
  (.cons (.forr (.tup (.cons (.name 4) (.cons (.tup (.cons (.name 5) (.cons (.name 6) .nil))) .nil))) (.enum (.var 3)) [4, 5, 6, 7, 8]
    (.cons (.asg (.name 7) (.ite (.cmp .lt (.bin .add (.var 4) (.lit (.int 1))) (.bi .len (.cons (.var 3) .nil))) (.ix (.ix (.var 3) (.bin .add (.var 4) (.lit (.int 1)))) (.lit (.int 0))) (.lit .non)))
    (.cons (.asg (.name 8) (.call 6 (.cons (.var 6) (.cons (.bi .max (.cons (.var 5) (.cons (.bin .add (.var 2) (.lit (.int 1))) .nil))) .nil))))
    (.cons (.ite (.and (.notN (.var 8)) (.or (.isN (.var 7)) (.cmp .lt (.var 8) (.var 7))))
      (.cons (.ret (.var 8)) .nil)
      .nil) .nil))))
  (.cons (.ret (.lit .non)) .nil)))⟩
/-! 15: turning_at -/
/-- 0=deeds 1=room 2=hour 3=at 4=deed 5=until 6=end -/
def f_turning_at : FDef := ⟨3, 7,
  (.cons (.forr (.name 3) (.rng3 (.bin .sub (.bi .len (.cons (.var 0) .nil)) (.lit (.int 1))) (.neg (.lit (.int 1))) (.neg (.lit (.int 1)))) [3, 4]
    (.cons (.asg (.name 4) (.ix (.var 0) (.var 3)))
    (.cons (.ite (.and (.cmp .eq (.ix (.var 4) (.lit (.int 0))) (.lit (.str "back"))) (.cmp .eq (.ix (.var 4) (.lit (.int 1))) (.var 1)))
      (.cons (.ret (.lit .non)) .nil)
      .nil)
    (.cons (.ite (.and (.cmp .eq (.ix (.var 4) (.lit (.int 0))) (.lit (.str "turn"))) (.cmp .eq (.ix (.var 4) (.lit (.int 1))) (.var 1)))
      (.cons (.asg (.name 5) (.ix (.var 4) (.lit (.int 3))))
      (.cons (.asg (.name 6) (.ite (.cmp .eq (.ix (.var 5) (.lit (.int 0))) (.lit (.str "till"))) (.ix (.var 5) (.lit (.int 1))) (.lit .non)))
      (.cons (.ite (.cmp .eq (.ix (.var 5) (.lit (.int 0))) (.lit (.str "next")))
        (.cons (.asg (.name 6) (.call 14 (.cons (.var 0) (.cons (.var 1) (.cons (.ix (.var 4) (.lit (.int 4))) .nil))))) .nil)
        .nil)
      (.cons (.ret (.ite (.or (.isN (.var 6)) (.cmp .lt (.var 2) (.var 6))) (.tup (.cons (.var 3) (.cons (.ix (.var 4) (.lit (.int 2))) .nil))) (.lit .non))) .nil))))
      .nil) .nil))))
  (.cons (.ret (.lit .non)) .nil))⟩
/-! 16: away_at -/
/-- 0=deeds 1=hour 2=at 3=deed 4=holds -/
def f_away_at : FDef := ⟨2, 5,
  (.cons (.forr (.name 2) (.rng3 (.bin .sub (.bi .len (.cons (.var 0) .nil)) (.lit (.int 1))) (.neg (.lit (.int 1))) (.neg (.lit (.int 1)))) [2, 3]
    (.cons (.asg (.name 3) (.ix (.var 0) (.var 2)))
    (.cons (.ite (.cmp .eq (.ix (.var 3) (.lit (.int 0))) (.lit (.str "home")))
      (.cons (.ret (.lit .non)) .nil)
      .nil)
    (.cons (.ite (.cmp .eq (.ix (.var 3) (.lit (.int 0))) (.lit (.str "away")))
      (.cons (.asg (.name 4) (.and (.cmp .le (.ix (.var 3) (.lit (.int 1))) (.var 1)) (.or (.isN (.ix (.var 3) (.lit (.int 2)))) (.cmp .lt (.var 1) (.ix (.var 3) (.lit (.int 2)))))))
      (.cons (.ret (.ite (.of (.var 4)) (.tup (.cons (.var 2) (.cons (.ix (.var 3) (.lit (.int 3))) .nil))) (.lit .non))) .nil))
      .nil) .nil))))
  (.cons (.ret (.lit .non)) .nil))⟩
/-! 17: followed_by -/
/-- 0=deeds 1=room 2=deed -/
def f_followed_by : FDef := ⟨2, 3,
  (.cons (.forr (.name 2) (.of (.slr (.var 0))) [2]
    (.cons (.ite (.and (.cmp .eq (.ix (.var 2) (.lit (.int 0))) (.lit (.str "follow"))) (.cmp .eq (.ix (.var 2) (.lit (.int 1))) (.var 1)))
      (.cons (.ret (.ite (.isN (.ix (.var 2) (.lit (.int 2)))) (.lit .non) (.tup (.cons (.ix (.var 2) (.lit (.int 2))) (.cons (.ix (.var 2) (.lit (.int 3))) .nil))))) .nil)
      .nil) .nil))
  (.cons (.ret (.lit .non)) .nil))⟩
/-! 18: shown_by -/
/-- 0=deeds 1=order 2=room 3=hour 4=turning 5=away 6=followed 7=value -/
def f_shown_by : FDef := ⟨4, 8,
  (.cons (.par 4 5 (.call 15 (.cons (.var 0) (.cons (.var 2) (.cons (.var 3) .nil)))) (.call 16 (.cons (.var 0) (.cons (.var 3) .nil))))
  (.cons (.ite (.and (.notN (.var 4)) (.notN (.var 5)))
    (.cons (.ret (.ite (.or (.cmp .eq (.var 1) (.lit (.str "away"))) (.cmp .gt (.ix (.var 5) (.lit (.int 0))) (.ix (.var 4) (.lit (.int 0))))) (.ix (.var 5) (.lit (.int 1))) (.ix (.var 4) (.lit (.int 1))))) .nil)
    .nil)
  (.cons (.ite (.or (.notN (.var 4)) (.notN (.var 5)))
    (.cons (.ret (.ite (.isN (.var 5)) (.ix (.var 4) (.lit (.int 1))) (.ix (.var 5) (.lit (.int 1))))) .nil)
    .nil)
  (.cons (.asg (.name 6) (.call 17 (.cons (.var 0) (.cons (.var 2) .nil))))
  (.cons (.ite (.isN (.var 6))
    (.cons (.ret (.call 5 (.cons (.ix (.ix (.call 13 (.cons (.var 0) (.cons (.var 2) .nil))) (.neg (.lit (.int 1)))) (.lit (.int 1))) (.cons (.var 3) .nil)))) .nil)
    .nil)
  (.cons (.asg (.name 7) (.call 18 (.cons (.var 0) (.cons (.var 1) (.cons (.ix (.var 6) (.lit (.int 0))) (.cons (.var 3) .nil))))))
  (.cons (.ret (.ite (.isN (.var 7)) (.lit .non) (.bi .min (.cons (.bi .max (.cons (.bin .add (.var 7) (.ix (.var 6) (.lit (.int 1)))) (.cons (.lit (.int 0)) .nil))) (.cons (.lit (.int 9)) .nil))))) .nil)))))))⟩
/-! 19: House_init -/
/-- 0=self 1=rooms 2=order -/
def f_House_init : FDef := ⟨3, 3,
  (.cons (.ite (.nt (.of (.call 1 (.cons (.var 1) (.cons (.lit (.int 1)) (.cons (.lit (.int 3)) .nil))))))
    (.cons (.raise 2 none .no) .nil)
    .nil)
  (.cons (.expr (.call 8 (.cons (.var 2) .nil)))
  (.cons (.setFld "rooms" (.var 0) (.var 1))
  (.cons (.setFld "order" (.var 0) (.var 2))
  (.cons (.setFld "deeds" (.var 0) (.lst .nil)) .nil)))))⟩
/-! 20: House_now -/
/-- 0=self -/
def f_House_now : FDef := ⟨1, 1,
  (.cons (.ret (.ite (.of (.fld "deeds" (.var 0))) (.call 12 (.cons (.ix (.fld "deeds" (.var 0)) (.neg (.lit (.int 1)))) .nil)) (.lit (.int 0)))) .nil)⟩
/-! 21: House_check_room -/
/-- 0=self 1=room -/
def f_House_check_room : FDef := ⟨2, 2,
  (.cons (.ite (.nt (.of (.call 1 (.cons (.var 1) (.cons (.lit (.int 0)) (.cons (.bin .sub (.fld "rooms" (.var 0)) (.lit (.int 1))) .nil))))))
    (.cons (.raise 4 none .no) .nil)
    .nil) .nil)⟩
/-! 22: House_check_hour -/
/-- 0=self 1=hour -/
def f_House_check_hour : FDef := ⟨2, 2,
  (.cons (.ite (.nt (.of (.call 1 (.cons (.var 1) (.cons (.prop 0 20 (.var 0)) (.cons (.glo 2 (.int 1000000000)) .nil))))))
    (.cons (.raise 5 none .no) .nil)
    .nil) .nil)⟩
/-! 23: House_plan_room -/
/-- 0=self 1=room 2=plan 3=hour -/
def f_House_plan_room : FDef := ⟨4, 4,
  (.cons (.expr (.meth 0 21 (.var 0) (.cons (.var 1) .nil)))
  (.cons (.expr (.call 4 (.cons (.var 2) .nil)))
  (.cons (.expr (.meth 0 22 (.var 0) (.cons (.var 3) .nil)))
  (.cons (.expr (.bm .append (.fld "deeds" (.var 0)) (.cons (.tup (.cons (.lit (.str "plan")) (.cons (.var 1) (.cons (.var 2) (.cons (.var 3) .nil))))) .nil))) .nil))))⟩
/-! 24: House_turn -/
/-- 0=self 1=room 2=value 3=until 4=hour -/
def f_House_turn : FDef := ⟨5, 5,
  (.cons (.expr (.meth 0 21 (.var 0) (.cons (.var 1) .nil)))
  (.cons (.ite (.nt (.of (.call 9 (.cons (.var 2) .nil))))
    (.cons (.raise 6 none .no) .nil)
    .nil)
  (.cons (.ite (.nt (.of (.call 10 (.cons (.var 3) .nil))))
    (.cons (.raise 7 none .no) .nil)
    .nil)
  (.cons (.expr (.meth 0 22 (.var 0) (.cons (.var 4) .nil)))
  (.cons (.ite (.and (.cmp .eq (.ix (.var 3) (.lit (.int 0))) (.lit (.str "till"))) (.cmp .le (.ix (.var 3) (.lit (.int 1))) (.var 4)))
    (.cons (.raise 7 none .no) .nil)
    .nil)
  (.cons (.expr (.bm .append (.fld "deeds" (.var 0)) (.cons (.tup (.cons (.lit (.str "turn")) (.cons (.var 1) (.cons (.var 2) (.cons (.var 3) (.cons (.var 4) .nil)))))) .nil))) .nil))))))⟩
/-! 25: House_back -/
/-- 0=self 1=room 2=hour -/
def f_House_back : FDef := ⟨3, 3,
  (.cons (.expr (.meth 0 21 (.var 0) (.cons (.var 1) .nil)))
  (.cons (.expr (.meth 0 22 (.var 0) (.cons (.var 2) .nil)))
  (.cons (.expr (.bm .append (.fld "deeds" (.var 0)) (.cons (.tup (.cons (.lit (.str "back")) (.cons (.var 1) (.cons (.var 2) .nil)))) .nil))) .nil)))⟩
/-! 26: House_away -/
/-- 0=self 1=begin 2=end 3=value 4=hour -/
def f_House_away : FDef := ⟨5, 5,
  (.cons (.ite (.nt (.of (.call 9 (.cons (.var 3) .nil))))
    (.cons (.raise 6 none .no) .nil)
    .nil)
  (.cons (.ite (.nt (.of (.call 11 (.cons (.var 1) (.cons (.var 2) .nil)))))
    (.cons (.raise 8 none .no) .nil)
    .nil)
  (.cons (.expr (.meth 0 22 (.var 0) (.cons (.var 4) .nil)))
  (.cons (.ite (.cmp .lt (.var 1) (.var 4))
    (.cons (.raise 8 none .no) .nil)
    .nil)
  (.cons (.expr (.bm .append (.fld "deeds" (.var 0)) (.cons (.tup (.cons (.lit (.str "away")) (.cons (.var 1) (.cons (.var 2) (.cons (.var 3) (.cons (.var 4) .nil)))))) .nil))) .nil)))))⟩
/-! 27: House_home -/
/-- 0=self 1=hour -/
def f_House_home : FDef := ⟨2, 2,
  (.cons (.expr (.meth 0 22 (.var 0) (.cons (.var 1) .nil)))
  (.cons (.expr (.bm .append (.fld "deeds" (.var 0)) (.cons (.tup (.cons (.lit (.str "home")) (.cons (.var 1) .nil))) .nil))) .nil))⟩
/-! 28: House_follow -/
/-- 0=self 1=room 2=other 3=offset 4=hour 5=here 6=followed -/
def f_House_follow : FDef := ⟨5, 7,
  (.cons (.expr (.meth 0 21 (.var 0) (.cons (.var 1) .nil)))
  (.cons (.ite (.notN (.var 2))
    (.cons (.expr (.meth 0 21 (.var 0) (.cons (.var 2) .nil))) .nil)
    .nil)
  (.cons (.ite (.nt (.of (.call 1 (.cons (.var 3) (.cons (.neg (.lit (.int 9))) (.cons (.lit (.int 9)) .nil))))))
    (.cons (.raise 9 none .no) .nil)
    .nil)
  (.cons (.asg (.name 5) (.var 2))
  (.cons (.whil (.notN (.var 5)) [6]
    (.cons (.ite (.cmp .eq (.var 5) (.var 1))
      (.cons (.raise 10 none .no) .nil)
      .nil)
    (.cons (.asg (.name 6) (.call 17 (.cons (.fld "deeds" (.var 0)) (.cons (.var 5) .nil))))
    (.cons (.asg (.name 5) (.ite (.isN (.var 6)) (.lit .non) (.ix (.var 6) (.lit (.int 0))))) .nil))))
  (.cons (.expr (.meth 0 22 (.var 0) (.cons (.var 4) .nil)))
  (.cons (.expr (.bm .append (.fld "deeds" (.var 0)) (.cons (.tup (.cons (.lit (.str "follow")) (.cons (.var 1) (.cons (.var 2) (.cons (.var 3) (.cons (.var 4) .nil)))))) .nil))) .nil)))))))⟩
/-! 29: House_undo -/
/-- 0=self -/
def f_House_undo : FDef := ⟨1, 1,
  (.cons (.expr .bad) .nil)⟩
/-! 30: House_log -/
/-- 0=self -/
def f_House_log : FDef := ⟨1, 1,
  (.cons (.ret (.bi .list (.cons (.fld "deeds" (.var 0)) .nil))) .nil)⟩
/-! 31: House_len -/
/-- 0=self -/
def f_House_len : FDef := ⟨1, 1,
  (.cons (.ret (.bi .len (.cons (.fld "deeds" (.var 0)) .nil))) .nil)⟩
/-! 32: House_value_at -/
/-- 0=self 1=room 2=hour 3=deed -/
def f_House_value_at : FDef := ⟨3, 4,
  (.cons (.ret (.call 18 (.cons (.lc [("deed", 3)] (.var 3) (.name 3) (.of (.fld "deeds" (.var 0))) (.of (.cmp .le (.call 12 (.cons (.var 3) .nil)) (.var 2)))) (.cons (.fld "order" (.var 0)) (.cons (.var 1) (.cons (.var 2) .nil)))))) .nil)⟩
/-! 33: House_shown -/
/-- 0=self 1=room 2=hour -/
def f_House_shown : FDef := ⟨3, 3,
  (.cons (.expr (.meth 0 21 (.var 0) (.cons (.var 1) .nil)))
  (.cons (.ite (.or (.nt (.of (.isi "int" (.var 2)))) (.or (.of (.isi "bool" (.var 2))) (.cmp .lt (.var 2) (.lit (.int 0)))))
    (.cons (.raise 5 none .no) .nil)
    .nil)
  (.cons (.ret (.meth 0 32 (.var 0) (.cons (.var 1) (.cons (.var 2) .nil)))) .nil)))⟩
/-! 34: do_deed -/
/-- 0=house 1=deed 2=word -/
def f_do_deed : FDef := ⟨2, 3,
  (.cons (.asg (.name 2) (.ix (.var 1) (.lit (.int 0))))
  (.cons (.ite (.cmp .eq (.var 2) (.lit (.str "plan")))
    (.cons (.expr (.meth 0 23 (.var 0) (.cons (.ix (.var 1) (.lit (.int 1))) (.cons (.ix (.var 1) (.lit (.int 2))) (.cons (.ix (.var 1) (.lit (.int 3))) .nil))))) .nil)
    (.cons (.ite (.cmp .eq (.var 2) (.lit (.str "turn")))
      (.cons (.expr (.meth 0 24 (.var 0) (.cons (.ix (.var 1) (.lit (.int 1))) (.cons (.ix (.var 1) (.lit (.int 2))) (.cons (.ix (.var 1) (.lit (.int 3))) (.cons (.ix (.var 1) (.lit (.int 4))) .nil)))))) .nil)
      (.cons (.ite (.cmp .eq (.var 2) (.lit (.str "back")))
        (.cons (.expr (.meth 0 25 (.var 0) (.cons (.ix (.var 1) (.lit (.int 1))) (.cons (.ix (.var 1) (.lit (.int 2))) .nil)))) .nil)
        (.cons (.ite (.cmp .eq (.var 2) (.lit (.str "away")))
          (.cons (.expr (.meth 0 26 (.var 0) (.cons (.ix (.var 1) (.lit (.int 1))) (.cons (.ix (.var 1) (.lit (.int 2))) (.cons (.ix (.var 1) (.lit (.int 3))) (.cons (.ix (.var 1) (.lit (.int 4))) .nil)))))) .nil)
          (.cons (.ite (.cmp .eq (.var 2) (.lit (.str "home")))
            (.cons (.expr (.meth 0 27 (.var 0) (.cons (.ix (.var 1) (.lit (.int 1))) .nil))) .nil)
            (.cons (.expr (.meth 0 28 (.var 0) (.cons (.ix (.var 1) (.lit (.int 1))) (.cons (.ix (.var 1) (.lit (.int 2))) (.cons (.ix (.var 1) (.lit (.int 3))) (.cons (.ix (.var 1) (.lit (.int 4))) .nil)))))) .nil)) .nil)) .nil)) .nil)) .nil)) .nil))⟩
/-! 35: replay -/
/-- 0=rooms 1=order 2=log 3=house 4=deed -/
def f_replay : FDef := ⟨3, 5,
  (.cons (.asg (.name 3) (.make 0 19 (.cons (.var 0) (.cons (.var 1) .nil))))
  (.cons (.forr (.name 4) (.of (.var 2)) [4]
    (.cons (.expr (.call 34 (.cons (.var 3) (.cons (.var 4) .nil)))) .nil))
  (.cons (.ret (.var 3)) .nil)))⟩
/-! 36: corners -/
/-- 0=house 1=found 2=deed 3=hour 4=end -/
def f_corners : FDef := ⟨1, 5,
  (.cons (.asg (.name 1) (.dic1 (.lit (.int 0)) (.lit (.bl true))))
  (.cons (.forr (.name 2) (.of (.fld "deeds" (.var 0))) [2]
    (.cons (.setIx (.var 1) (.call 12 (.cons (.var 2) .nil)) (.lit (.bl true)))
    (.cons (.ite (.cmp .eq (.ix (.var 2) (.lit (.int 0))) (.lit (.str "away")))
      (.cons (.forr (.name 3) (.of (.tup (.cons (.ix (.var 2) (.lit (.int 1))) (.cons (.ix (.var 2) (.lit (.int 2))) .nil)))) [3]
        (.cons (.ite (.notN (.var 3))
          (.cons (.setIx (.var 1) (.var 3) (.lit (.bl true))) .nil)
          .nil) .nil)) .nil)
      .nil)
    (.cons (.ite (.and (.cmp .eq (.ix (.var 2) (.lit (.int 0))) (.lit (.str "turn"))) (.cmp .eq (.ix (.ix (.var 2) (.lit (.int 3))) (.lit (.int 0))) (.lit (.str "till"))))
      (.cons (.setIx (.var 1) (.ix (.ix (.var 2) (.lit (.int 3))) (.lit (.int 1))) (.lit (.bl true))) .nil)
      .nil)
    (.cons (.ite (.and (.cmp .eq (.ix (.var 2) (.lit (.int 0))) (.lit (.str "turn"))) (.cmp .eq (.ix (.ix (.var 2) (.lit (.int 3))) (.lit (.int 0))) (.lit (.str "next"))))
      (.cons (.asg (.name 4) (.call 14 (.cons (.fld "deeds" (.var 0)) (.cons (.ix (.var 2) (.lit (.int 1))) (.cons (.ix (.var 2) (.lit (.int 4))) .nil)))))
      (.cons (.ite (.notN (.var 4))
        (.cons (.setIx (.var 1) (.var 4) (.lit (.bl true))) .nil)
        .nil) .nil))
      .nil) .nil)))))
  (.cons (.ret (.bi .sorted (.cons (.var 1) .nil))) .nil)))⟩
/-! 37: spans -/
/-- 0=houses 1=hours 2=house 3=hour -/
def f_spans : FDef := ⟨1, 4,
  (.cons (.asg (.name 1) (.bi .sorted (.cons (.dc2 [("house", 2), ("hour", 3)] (.var 3) (.lit (.bl true)) (.name 2) (.of (.var 0)) (.name 3) (.of (.call 36 (.cons (.var 2) .nil)))) .nil)))
  (.cons (.ret (.lzip (.var 1) (.bin .add (.sl (.var 1) (.of (.lit (.int 1))) .no) (.lst (.cons (.lit .non) .nil))))) .nil))⟩
/-! 38: plans_at -/
/-- 0=house 1=hour 2=deeds 3=deed 4=room -/
def f_plans_at : FDef := ⟨2, 5,
  (.cons (.asg (.name 2) (.lc [("deed", 3)] (.var 3) (.name 3) (.of (.fld "deeds" (.var 0))) (.of (.cmp .le (.call 12 (.cons (.var 3) .nil)) (.var 1)))))
  (.cons (.ret (.lc [("room", 4)] (.ix (.ix (.call 13 (.cons (.var 2) (.cons (.var 4) .nil))) (.neg (.lit (.int 1)))) (.lit (.int 1))) (.name 4) (.rng1 (.fld "rooms" (.var 0))) .no)) .nil))⟩
/-! 39: steps -/
/-- 0=plans 1=begin 2=end 3=found 4=stop 5=plan 6=place 7=value 8=hour -/
def f_steps : FDef := ⟨3, 9,
  (.cons (.asg (.name 3) (.dic1 (.var 1) (.lit (.bl true))))
  (.cons (.asg (.name 4) (.ite (.isN (.var 2)) (.bin .add (.var 1) (.glo 0 (.int 168))) (.bi .min (.cons (.var 2) (.cons (.bin .add (.var 1) (.glo 0 (.int 168))) .nil)))))
  (.cons (.forr (.name 5) (.of (.var 0)) [5, 6, 7]
    (.cons (.forr (.tup (.cons (.name 6) (.cons (.name 7) .nil))) (.of (.var 5)) [6, 7]
      (.cons (.asg (.name 8) (.call 6 (.cons (.tup (.cons (.tup (.cons (.var 6) (.cons (.var 7) .nil))) .nil)) (.cons (.var 1) .nil))))
      (.cons (.ite (.cmp .lt (.var 8) (.var 4))
        (.cons (.setIx (.var 3) (.var 8) (.lit (.bl true))) .nil)
        .nil) .nil))) .nil))
  (.cons (.ret (.bi .sorted (.cons (.lcd [("hour", 8)] (.var 8) (.name 8) (.var 3) (.of (.cmp .lt (.var 8) (.var 4)))) .nil))) .nil))))⟩
/-! 40: house_plans -/
/-- 0=houses 1=hour 2=house 3=plan -/
def f_house_plans : FDef := ⟨2, 4,
  (.cons (.ret (.lc2 [("house", 2), ("plan", 3)] (.var 3) (.name 2) (.of (.var 0)) (.name 3) (.of (.call 38 (.cons (.var 2) (.cons (.var 1) .nil)))) .no)) .nil)⟩
/-! 41: first_hour -/
/-- 0=houses 1=hour 2=is_wanted 3=begin 4=end 5=one -/
def f_first_hour : FDef := ⟨3, 6,
  (.cons (.forr (.tup (.cons (.name 3) (.cons (.name 4) .nil))) (.of (.call 37 (.cons (.var 0) .nil))) [3, 4]
    (.cons (.ite (.or (.isN (.var 4)) (.cmp .gt (.var 4) (.var 1)))
      (.cons (.forr (.name 5) (.of (.call 39 (.cons (.call 40 (.cons (.var 0) (.cons (.var 3) .nil))) (.cons (.bi .max (.cons (.var 3) (.cons (.var 1) .nil))) (.cons (.var 4) .nil))))) [5]
        (.cons (.ite .bad
          (.cons (.ret (.var 5)) .nil)
          .nil) .nil)) .nil)
      .nil) .nil))
  (.cons (.ret (.lit .non)) .nil))⟩
/-! 42: next_change -/
/-- 0=house 1=room 2=hour 3=found 4=begin 5=end 6=first 7=some 8=one 9=changes -/
def f_next_change : FDef := ⟨3, 10,
  (.cons .bad
  (.cons (.asg (.name 3) (.lit .non))
  (.cons (.forr (.tup (.cons (.name 4) (.cons (.name 5) .nil))) (.of (.call 37 (.cons (.lst (.cons (.var 0) .nil)) .nil))) [4, 5]
    (.cons (.ite (.and (.isN (.var 3)) (.or (.isN (.var 5)) (.cmp .gt (.var 5) (.bin .add (.var 2) (.lit (.int 1))))))
      (.cons (.asg (.name 6) (.bi .max (.cons (.var 4) (.cons (.bin .add (.var 2) (.lit (.int 1))) .nil))))
      (.cons (.asg (.name 7) (.call 39 (.cons (.call 40 (.cons (.lst (.cons (.var 0) .nil)) (.cons (.var 4) .nil))) (.cons (.var 6) (.cons (.var 5) .nil)))))
      (.cons (.ite (.or (.isN (.var 5)) (.cmp .gt (.var 5) (.bin .add (.var 6) (.glo 0 (.int 168)))))
        (.cons (.asg (.name 7) (.bin .add (.var 7) (.lst (.cons (.bin .add (.var 6) (.glo 0 (.int 168))) .nil)))) .nil)
        .nil)
      (.cons (.asg (.name 7) (.lc [("one", 8)] (.var 8) (.name 8) (.of (.var 7)) (.of .bad)))
      (.cons (.asg (.name 3) (.ite (.of (.var 7)) (.ix (.var 7) (.lit (.int 0))) (.lit .non))) .nil)))))
      .nil) .nil))
  (.cons (.ret (.var 3)) .nil))))⟩
/-! 43: last_change -/
/-- 0=house 1=room 2=rows 3=begin 4=end 5=one 6=last -/
def f_last_change : FDef := ⟨2, 7,
  (.cons (.asg (.name 2) (.call 37 (.cons (.lst (.cons (.var 0) .nil)) .nil)))
  (.cons (.asg (.tup (.cons (.name 3) (.cons (.name 4) .nil))) (.ix (.var 2) (.neg (.lit (.int 1)))))
  (.cons (.ite (.of (.bi .any (.cons (.lc [("one", 5)] (.cmp .ne (.meth 0 32 (.var 0) (.cons (.var 1) (.cons (.var 5) .nil))) (.meth 0 32 (.var 0) (.cons (.var 1) (.cons (.bin .add (.var 5) (.lit (.int 1))) .nil)))) (.name 5) (.rng2 (.var 3) (.bin .add (.var 3) (.glo 0 (.int 168)))) .no) .nil)))
    (.cons (.ret (.lit (.str "never"))) .nil)
    .nil)
  (.cons (.forr (.tup (.cons (.name 3) (.cons (.name 4) .nil))) (.of (.slr (.var 2))) [6]
    (.cons (.asg (.name 6) (.ite (.isN (.var 4)) (.var 3) (.bin .sub (.var 4) (.lit (.int 1)))))
    (.cons (.forr (.name 5) (.rng3 (.var 6) (.bin .sub (.bi .max (.cons (.var 3) (.cons (.bin .sub (.var 6) (.glo 0 (.int 168))) .nil))) (.lit (.int 1))) (.neg (.lit (.int 1)))) []
      (.cons (.ite (.and (.cmp .gt (.var 5) (.lit (.int 0))) (.cmp .ne (.meth 0 32 (.var 0) (.cons (.var 1) (.cons (.var 5) .nil))) (.meth 0 32 (.var 0) (.cons (.var 1) (.cons (.bin .sub (.var 5) (.lit (.int 1))) .nil)))))
        (.cons (.ret (.var 5)) .nil)
        .nil) .nil))
    (.cons (.ite (.and (.cmp .gt (.var 3) (.lit (.int 0))) (.cmp .ne (.meth 0 32 (.var 0) (.cons (.var 1) (.cons (.var 3) .nil))) (.meth 0 32 (.var 0) (.cons (.var 1) (.cons (.bin .sub (.var 3) (.lit (.int 1))) .nil)))))
      (.cons (.ret (.var 3)) .nil)
      .nil) .nil))))
  (.cons (.ret (.lit .non)) .nil)))))⟩
/-! 44: count_in -/
/-- 0=house 1=room 2=value 3=begin 4=end 5=hours 6=one 7=two -/
def f_count_in : FDef := ⟨5, 8,
  (.cons (.asg (.name 5) (.bin .add (.call 39 (.cons (.call 38 (.cons (.var 0) (.cons (.var 3) .nil))) (.cons (.var 3) (.cons (.var 4) .nil)))) (.lst (.cons (.var 4) .nil))))
  (.cons (.ret (.bi .sum (.cons (.lc [("one", 6), ("two", 7)] (.bin .sub (.var 7) (.var 6)) (.tup (.cons (.name 6) (.cons (.name 7) .nil))) (.zip (.var 5) (.sl (.var 5) (.of (.lit (.int 1))) .no)) (.of (.cmp .eq (.meth 0 32 (.var 0) (.cons (.var 1) (.cons (.var 6) .nil))) (.var 2)))) .nil))) .nil))⟩
/-! 45: hours_of -/
/-- 0=house 1=room 2=value 3=begin 4=end 5=found 6=first 7=last 8=low 9=high 10=weeks 11=rest -/
def f_hours_of : FDef := ⟨5, 12,
  (.cons (.asg (.name 5) (.lit (.int 0)))
  (.cons (.forr (.tup (.cons (.name 6) (.cons (.name 7) .nil))) (.of (.call 37 (.cons (.lst (.cons (.var 0) .nil)) .nil))) [6, 7, 8, 9]
    (.cons (.asg (.name 8) (.bi .max (.cons (.var 6) (.cons (.var 3) .nil))))
    (.cons (.asg (.name 9) (.ite (.isN (.var 7)) (.var 4) (.bi .min (.cons (.var 7) (.cons (.var 4) .nil)))))
    (.cons (.ite (.cmp .lt (.var 8) (.var 9))
      (.cons (.par 10 11 (.bin .fdiv (.bin .sub (.var 9) (.var 8)) (.glo 0 (.int 168))) (.bin .mod (.bin .sub (.var 9) (.var 8)) (.glo 0 (.int 168))))
      (.cons (.ite (.of (.var 10))
        (.cons (.aug 5 .add (.bin .mul (.var 10) (.call 44 (.cons (.var 0) (.cons (.var 1) (.cons (.var 2) (.cons (.var 8) (.cons (.bin .add (.var 8) (.glo 0 (.int 168))) .nil)))))))) .nil)
        .nil)
      (.cons (.ite (.of (.var 11))
        (.cons (.aug 5 .add (.call 44 (.cons (.var 0) (.cons (.var 1) (.cons (.var 2) (.cons (.bin .sub (.var 9) (.var 11)) (.cons (.var 9) .nil))))))) .nil)
        .nil) .nil)))
      .nil) .nil))))
  (.cons (.ret (.var 5)) .nil)))⟩
/-! 46: unlike_room -/
/-- 0=one 1=two 2=hour 3=room -/
def f_unlike_room : FDef := ⟨3, 4,
  (.cons (.forr (.name 3) (.rng1 (.fld "rooms" (.var 0))) [3]
    (.cons (.ite (.cmp .ne (.meth 0 32 (.var 0) (.cons (.var 3) (.cons (.var 2) .nil))) (.meth 0 32 (.var 1) (.cons (.var 3) (.cons (.var 2) .nil))))
      (.cons (.ret (.var 3)) .nil)
      .nil) .nil))
  (.cons (.ret (.lit .non)) .nil))⟩
/-! 47: parting -/
/-- 0=one 1=two 2=hour 3=found -/
def f_parting : FDef := ⟨3, 4,
  (.cons (.ite (.cmp .ne (.fld "rooms" (.var 0)) (.fld "rooms" (.var 1)))
    (.cons (.raise 12 none .no) .nil)
    .nil)
  (.cons (.asg (.name 3) (.call 41 (.cons (.lst (.cons (.var 0) (.cons (.var 1) .nil))) (.cons (.var 2) (.cons .bad .nil)))))
  (.cons (.ret (.ite (.isN (.var 3)) (.lit .non) (.tup (.cons (.var 3) (.cons (.call 46 (.cons (.var 0) (.cons (.var 1) (.cons (.var 3) .nil)))) .nil))))) .nil)))⟩
/-! 48: alike -/
/-- 0=one 1=two -/
def f_alike : FDef := ⟨2, 2,
  (.cons (.ret (.isN (.call 47 (.cons (.var 0) (.cons (.var 1) (.cons (.lit (.int 0)) .nil)))))) .nil)⟩
/-! 49: week_of -/
/-- 0=house 1=room 2=begin 3=end 4=monday 5=hours 6=rows 7=hour -/
def f_week_of : FDef := ⟨2, 8,
  (.cons (.asg (.tup (.cons (.name 2) (.cons (.name 3) .nil))) (.ix (.call 37 (.cons (.lst (.cons (.var 0) .nil)) .nil)) (.neg (.lit (.int 1)))))
  (.cons (.asg (.name 4) (.bin .add (.var 2) (.bin .mod (.bin .sub (.glo 0 (.int 168)) (.var 2)) (.glo 0 (.int 168)))))
  (.cons (.asg (.name 5) (.call 39 (.cons (.call 38 (.cons (.var 0) (.cons (.var 4) .nil))) (.cons (.var 4) (.cons (.lit .non) .nil)))))
  (.cons (.asg (.name 6) (.lc [("hour", 7)] (.tup (.cons (.bin .sub (.var 7) (.var 4)) (.cons (.meth 0 32 (.var 0) (.cons (.var 1) (.cons (.var 7) .nil))) .nil))) (.name 7) (.of (.var 5)) .no))
  (.cons (.ite (.isN (.ix (.ix (.var 6) (.lit (.int 0))) (.lit (.int 1))))
    (.cons (.ret (.tup .nil)) .nil)
    .nil)
  (.cons (.ret (.call 7 (.cons (.call 50 (.cons (.var 6) .nil)) .nil))) .nil))))))⟩
/-! 50: shortened -/
/-- 0=rows 1=found 2=row -/
def f_shortened : FDef := ⟨1, 3,
  (.cons (.asg (.name 1) (.sl (.var 0) .no (.of (.lit (.int 1)))))
  (.cons (.forr (.name 2) (.of (.sl (.var 0) (.of (.lit (.int 1))) .no)) [2]
    (.cons (.ite (.cmp .ne (.ix (.var 2) (.lit (.int 1))) (.ix (.ix (.var 1) (.neg (.lit (.int 1)))) (.lit (.int 1))))
      (.cons (.expr (.bm .append (.var 1) (.cons (.var 2) .nil))) .nil)
      .nil) .nil))
  (.cons (.ite (.and (.cmp .gt (.bi .len (.cons (.var 1) .nil)) (.lit (.int 1))) (.cmp .eq (.ix (.ix (.var 1) (.lit (.int 0))) (.lit (.int 1))) (.ix (.ix (.var 1) (.neg (.lit (.int 1)))) (.lit (.int 1)))))
    (.cons (.asg (.name 1) (.sl (.var 1) (.of (.lit (.int 1))) .no)) .nil)
    .nil)
  (.cons (.ret (.bi .tuple (.cons (.var 1) .nil))) .nil))))⟩
/-! 51: settled -/
/-- 0=house 1=room 2=plan 3=begin 4=end 5=last 6=one -/
def f_settled : FDef := ⟨2, 7,
  (.cons (.asg (.name 2) (.call 49 (.cons (.var 0) (.cons (.var 1) .nil))))
  (.cons (.forr (.tup (.cons (.name 3) (.cons (.name 4) .nil))) (.of (.slr (.call 37 (.cons (.lst (.cons (.var 0) .nil)) .nil)))) [3, 4, 5, 6]
    (.cons (.asg (.name 5) (.ite (.isN (.var 4)) (.bin .sub (.var 3) (.lit (.int 1))) (.bin .sub (.var 4) (.lit (.int 1)))))
    (.cons (.forr (.name 6) (.rng3 (.var 5) (.bin .sub (.bi .max (.cons (.var 3) (.cons (.bin .add (.bin .sub (.var 5) (.glo 0 (.int 168))) (.lit (.int 1))) .nil))) (.lit (.int 1))) (.neg (.lit (.int 1)))) [6]
      (.cons (.ite (.cmp .ne (.meth 0 32 (.var 0) (.cons (.var 1) (.cons (.var 6) .nil))) (.call 5 (.cons (.var 2) (.cons (.var 6) .nil))))
        (.cons (.ret (.bin .add (.var 6) (.lit (.int 1)))) .nil)
        .nil) .nil)) .nil)))
  (.cons (.ret (.lit (.int 0))) .nil)))⟩
/-! 52: without -/
/-- 0=house 1=index 2=made -/
def f_without : FDef := ⟨2, 3,
  (.cons (.asg (.name 2) (.lit .non))
  (.cons (.tryx
    (.cons (.asg (.name 2) (.call 35 (.cons (.fld "rooms" (.var 0)) (.cons (.fld "order" (.var 0)) (.cons (.bin .add (.sl (.fld "deeds" (.var 0)) .no (.of (.var 1))) (.sl (.fld "deeds" (.var 0)) (.of (.bin .add (.var 1) (.lit (.int 1)))) .no)) .nil))))) .nil)
    [(0, [.lit 2 .non])])
  (.cons (.ret (.var 2)) .nil)))⟩
/-! 53: needless -/
/-- 0=house 1=found 2=index 3=other -/
def f_needless : FDef := ⟨1, 4,
  (.cons (.asg (.name 1) (.lst .nil))
  (.cons (.forr (.name 2) (.rng1 (.bi .len (.cons (.fld "deeds" (.var 0)) .nil))) [2, 3]
    (.cons (.asg (.name 3) (.call 52 (.cons (.var 0) (.cons (.var 2) .nil))))
    (.cons (.ite (.and (.notN (.var 3)) (.of (.call 48 (.cons (.var 0) (.cons (.var 3) .nil)))))
      (.cons (.expr (.bm .append (.var 1) (.cons (.var 2) .nil))) .nil)
      .nil) .nil)))
  (.cons (.ret (.var 1)) .nil)))⟩
/-! 54: whole_deed -/
/-- 0=deed -/
def f_whole_deed : FDef := ⟨1, 1,
  (.cons (.ite (.cmp .inn (.ix (.var 0) (.lit (.int 0))) (.tup (.cons (.lit (.str "turn")) (.cons (.lit (.str "back")) .nil))))
    (.cons (.ret (.bin .add (.tup (.cons (.ix (.var 0) (.lit (.int 0))) (.cons (.lit (.int 0)) .nil))) (.sl (.var 0) (.of (.lit (.int 1))) .no))) .nil)
    .nil)
  (.cons (.ret (.var 0)) .nil))⟩
/-! 55: is_near -/
/-- 0=value 1=one -/
def f_is_near : FDef := ⟨1, 2,
  (.cons (.ite (.of (.isi "tuple" (.var 0)))
    (.cons (.ret (.bi .all (.cons (.lc [("one", 1)] (.call 55 (.cons (.var 1) .nil)) (.name 1) (.of (.var 0)) .no) .nil))) .nil)
    .nil)
  (.cons (.ret (.or (.nt (.isi "int" (.var 0))) (.cmp .le (.var 0) (.glo 5 (.int 400))))) .nil))⟩
/-! 56: is_deed -/
/-- 0=value -/
def f_is_deed : FDef := ⟨1, 1,
  (.cons (.ite (.or (.nt (.of (.isi "tuple" (.var 0)))) (.or (.nt (.of (.var 0))) (.or (.nt (.of (.isi "str" (.ix (.var 0) (.lit (.int 0)))))) (.ginD true (.ix (.var 0) (.lit (.int 0))) 7 [("turn", .int 4), ("back", .int 2), ("away", .int 5), ("home", .int 2)]))))
    (.cons (.ret (.lit (.bl false))) .nil)
    .nil)
  (.cons (.ret (.and (.cmp .eq (.bi .len (.cons (.var 0) .nil)) (.gixD 7 [("turn", .int 4), ("back", .int 2), ("away", .int 5), ("home", .int 2)] (.ix (.var 0) (.lit (.int 0))))) (.and (.call 55 (.cons (.var 0) .nil)) (.call 1 (.cons (.ix (.var 0) (.neg (.lit (.int 1)))) (.cons (.lit (.int 0)) (.cons (.glo 5 (.int 400)) .nil))))))) .nil))⟩
/-! 57: can_be_done -/
/-- 0=house 1=deed 2=good -/
def f_can_be_done : FDef := ⟨2, 3,
  (.cons (.asg (.name 2) (.lit (.bl true)))
  (.cons (.tryx
    (.cons (.expr (.call 34 (.cons (.var 0) (.cons (.call 54 (.cons (.var 1) .nil)) .nil)))) .nil)
    [(0, [.lit 2 (.bl false)])])
  (.cons (.ret (.var 2)) .nil)))⟩
/-! 58: Row_init -/
/-- 0=self 1=deeds 2=house 3=index 4=deed -/
def f_Row_init : FDef := ⟨2, 5,
  (.cons (.ite (.cmp .gt (.bi .len (.cons (.var 1) .nil)) (.glo 4 (.int 4)))
    (.cons (.raise 13 (some 0) (.of (.glo 4 (.int 4)))) .nil)
    .nil)
  (.cons (.asg (.name 2) (.make 0 19 (.cons (.lit (.int 1)) (.cons (.lit (.str "newest")) .nil))))
  (.cons (.forr (.tup (.cons (.name 3) (.cons (.name 4) .nil))) (.enum (.var 1)) [3, 4]
    (.cons (.ite (.or (.nt (.of (.call 56 (.cons (.var 4) .nil)))) (.nt (.of (.call 57 (.cons (.var 2) (.cons (.var 4) .nil))))))
      (.cons (.raise 13 (some 0) (.of (.var 3))) .nil)
      .nil) .nil))
  (.cons (.setFld "deeds" (.var 0) (.bi .tuple (.cons (.var 1) .nil))) .nil))))⟩
/-! 59: made_house -/
/-- 0=order 1=plan 2=deeds 3=house 4=deed -/
def f_made_house : FDef := ⟨3, 5,
  (.cons (.asg (.name 3) (.make 0 19 (.cons (.lit (.int 1)) (.cons (.var 0) .nil))))
  (.cons (.expr (.meth 0 23 (.var 3) (.cons (.lit (.int 0)) (.cons (.var 1) (.cons (.lit (.int 0)) .nil)))))
  (.cons (.forr (.name 4) (.of (.var 2)) [4]
    (.cons (.expr (.call 34 (.cons (.var 3) (.cons (.call 54 (.cons (.var 4) .nil)) .nil)))) .nil))
  (.cons (.ret (.var 3)) .nil))))⟩
/-! 60: near_hours -/
/-- 0=rows 1=found 2=deeds 3=hour -/
def f_near_hours : FDef := ⟨1, 4,
  (.cons (.asg (.name 1) (.dic1 (.lit (.int 0)) (.lit (.bl true))))
  (.cons (.forr (.name 2) (.of (.var 0)) [2, 3]
    (.cons (.forr (.name 3) (.of (.call 36 (.cons (.call 59 (.cons (.lit (.str "newest")) (.cons (.tup .nil) (.cons (.var 2) .nil)))) .nil))) [3]
      (.cons (.setIx (.var 1) (.var 3) (.lit (.bl true)))
      (.cons (.setIx (.var 1) (.bin .add (.var 3) (.lit (.int 1))) (.lit (.bl true))) .nil))) .nil))
  (.cons (.ret (.bi .sorted (.cons (.var 1) .nil))) .nil)))⟩
/-! 61: values_in -/
/-- 0=rows 1=found 2=deeds 3=deed -/
def f_values_in : FDef := ⟨1, 4,
  (.cons (.asg (.name 1) (.lc2 [("deeds", 2), ("deed", 3)] (.ix (.var 3) (.lit (.int 1))) (.name 2) (.of (.var 0)) (.name 3) (.of (.var 2)) (.of (.cmp .eq (.ix (.var 3) (.lit (.int 0))) (.lit (.str "turn"))))))
  (.cons (.ret (.bin .add (.var 1) (.lc2 [("deeds", 2), ("deed", 3)] (.ix (.var 3) (.lit (.int 3))) (.name 2) (.of (.var 0)) (.name 3) (.of (.var 2)) (.of (.cmp .eq (.ix (.var 3) (.lit (.int 0))) (.lit (.str "away"))))))) .nil))⟩
/-! 62: trial_plans -/
/-- 0=rows 1=used 2=free 3=value 4=places 5=hour 6=place -/
def f_trial_plans : FDef := ⟨1, 7,
  (.cons (.asg (.name 1) (.call 61 (.cons (.var 0) .nil)))
  (.cons (.asg (.name 2) (.ix (.lc [("value", 3)] (.var 3) (.name 3) (.rng1 (.lit (.int 10))) (.of (.cmp .nin (.var 3) (.var 1)))) (.lit (.int 0))))
  (.cons (.asg (.name 4) .dic0)
  (.cons (.forr (.name 5) (.of (.call 60 (.cons (.var 0) .nil))) [5]
    (.cons (.setIx (.var 4) (.bin .mod (.var 5) (.glo 0 (.int 168))) (.lit (.bl true)))
    (.cons (.setIx (.var 4) (.bin .mod (.bin .add (.var 5) (.lit (.int 1))) (.glo 0 (.int 168))) (.lit (.bl true))) .nil)))
  (.cons (.ret (.bin .add (.lst (.cons (.tup .nil) .nil)) (.lc [("place", 6)] (.tup (.cons (.tup (.cons (.var 6) (.cons (.var 2) .nil))) .nil)) (.name 6) (.of (.bi .sorted (.cons (.var 4) .nil))) .no))) .nil)))))⟩
/-! 63: parted_by -/
/-- 0=order 1=one 2=two 3=pairs 4=plan 5=hour 6=first 7=second -/
def f_parted_by : FDef := ⟨3, 8,
  (.cons (.asg (.name 3) (.lc [("plan", 4)] (.tup (.cons (.call 59 (.cons (.var 0) (.cons (.var 4) (.cons (.var 1) .nil)))) (.cons (.call 59 (.cons (.var 0) (.cons (.var 4) (.cons (.var 2) .nil)))) (.cons (.var 4) .nil)))) (.name 4) (.of (.call 62 (.cons (.lst (.cons (.var 1) (.cons (.var 2) .nil))) .nil))) .no))
  (.cons (.forr (.name 5) (.of (.call 60 (.cons (.lst (.cons (.var 1) (.cons (.var 2) .nil))) .nil))) [5, 6, 7]
    (.cons (.forr (.tup (.cons (.name 6) (.cons (.name 7) (.cons (.name 4) .nil)))) (.of (.var 3)) [6, 7]
      (.cons (.ite (.cmp .ne (.meth 0 32 (.var 6) (.cons (.lit (.int 0)) (.cons (.var 5) .nil))) (.meth 0 32 (.var 7) (.cons (.lit (.int 0)) (.cons (.var 5) .nil))))
        (.cons (.ret (.tup (.cons (.var 5) (.cons (.var 4) .nil)))) .nil)
        .nil) .nil)) .nil))
  (.cons (.ret (.lit .non)) .nil)))⟩
/-! 64: parted -/
/-- 0=order 1=one 2=two -/
def f_parted : FDef := ⟨3, 3,
  (.cons (.expr (.call 8 (.cons (.var 0) .nil)))
  (.cons (.ret (.call 63 (.cons (.var 0) (.cons (.fld "deeds" (.var 1)) (.cons (.fld "deeds" (.var 2)) .nil))))) .nil))⟩
/-! 65: spare -/
/-- 0=order 1=row 2=deeds 3=at -/
def f_spare : FDef := ⟨2, 4,
  (.cons (.expr (.call 8 (.cons (.var 0) .nil)))
  (.cons (.asg (.name 2) (.fld "deeds" (.var 1)))
  (.cons (.ret (.lc [("at", 3)] (.var 3) (.name 3) (.rng1 (.bi .len (.cons (.var 2) .nil))) (.of (.isN (.call 63 (.cons (.var 0) (.cons (.var 2) (.cons (.bin .add (.sl (.var 2) .no (.of (.var 3))) (.sl (.var 2) (.of (.bin .add (.var 3) (.lit (.int 1)))) .no)) .nil)))))))) .nil)))⟩
/-! 66: swaps -/
/-- 0=order 1=row 2=deeds 3=found 4=at 5=other -/
def f_swaps : FDef := ⟨2, 6,
  (.cons (.expr (.call 8 (.cons (.var 0) .nil)))
  (.cons (.asg (.name 2) (.fld "deeds" (.var 1)))
  (.cons (.asg (.name 3) (.lst .nil))
  (.cons (.forr (.name 4) (.rng1 (.bin .sub (.bi .len (.cons (.var 2) .nil)) (.lit (.int 1)))) [4]
    (.cons (.ite (.cmp .eq (.call 12 (.cons (.ix (.var 2) (.var 4)) .nil)) (.call 12 (.cons (.ix (.var 2) (.bin .add (.var 4) (.lit (.int 1)))) .nil)))
      (.cons (.asg (.name 5) (.bin .add (.bin .add (.sl (.var 2) .no (.of (.var 4))) (.tup (.cons (.ix (.var 2) (.bin .add (.var 4) (.lit (.int 1)))) (.cons (.ix (.var 2) (.var 4)) .nil)))) (.sl (.var 2) (.of (.bin .add (.var 4) (.lit (.int 2)))) .no)))
      (.cons (.ite (.isN (.call 63 (.cons (.var 0) (.cons (.var 2) (.cons (.var 5) .nil)))))
        (.cons (.expr (.bm .append (.var 3) (.cons (.var 4) .nil))) .nil)
        .nil) .nil))
      .nil) .nil))
  (.cons (.ret (.var 3)) .nil)))))⟩
/-! 67: plan_text -/
/-- 0=plan 1=place 2=value -/
def f_plan_text : FDef := ⟨1, 3,
  (.cons (.ret (.ite (.of (.var 0)) (.bm .join (.lit (.str ",")) (.cons (.lc [("place", 1), ("value", 2)] (.fstr (.cons (.var 1) (.cons (.lit (.str "=")) (.cons (.var 2) .nil)))) (.tup (.cons (.name 1) (.cons (.name 2) .nil))) (.of (.var 0)) .no) .nil)) (.lit (.str "-")))) .nil)⟩
/-! 68: part_text -/
/-- 0=part 1=form 2=one -/
def f_part_text : FDef := ⟨2, 3,
  (.cons (.ite (.cmp .eq (.var 1) (.lit (.str "p")))
    (.cons (.ret (.call 67 (.cons (.var 0) .nil))) .nil)
    .nil)
  (.cons (.ite (.cmp .eq (.var 1) (.lit (.str "u")))
    (.cons (.ret (.bm .join (.lit (.str " ")) (.cons (.lc [("one", 2)] (.bi .str (.cons (.var 2) .nil)) (.name 2) (.of (.var 0)) .no) .nil))) .nil)
    .nil)
  (.cons (.ret (.ite (.isN (.var 0)) (.lit (.str "-")) (.bi .str (.cons (.var 0) .nil)))) .nil)))⟩
/-! 69: deed_line -/
/-- 0=deed 1=part 2=form -/
def f_deed_line : FDef := ⟨1, 3,
  (.cons (.ret (.bm .join (.lit (.str " ")) (.cons (.bin .add (.lst (.cons (.ix (.var 0) (.lit (.int 0))) .nil)) (.lc [("part", 1), ("form", 2)] (.call 68 (.cons (.var 1) (.cons (.var 2) .nil))) (.tup (.cons (.name 1) (.cons (.name 2) .nil))) (.zip (.sl (.var 0) (.of (.lit (.int 1))) .no) (.gixD 8 [("plan", .str "nph"), ("turn", .str "nnuh"), ("back", .str "nh"), ("away", .str "nonh"), ("home", .str "h"), ("follow", .str "nonh")] (.ix (.var 0) (.lit (.int 0))))) .no)) .nil))) .nil)⟩
/-! 70: write -/
/-- 0=house 1=deed -/
def f_write : FDef := ⟨1, 2,
  (.cons (.ret (.bm .join (.lit (.str "\n")) (.cons (.bin .add (.lst (.cons (.fstr (.cons (.lit (.str "house ")) (.cons (.fld "rooms" (.var 0)) (.cons (.lit (.str " ")) (.cons (.fld "order" (.var 0)) .nil))))) .nil)) (.lc [("deed", 1)] (.call 69 (.cons (.var 1) .nil)) (.name 1) (.of (.fld "deeds" (.var 0))) .no)) .nil))) .nil)⟩
/-! 71: BadLine_init -/
/-- 0=self 1=line -/
def f_BadLine_init : FDef := ⟨2, 2,
  (.cons (.setFld "line" (.var 0) (.var 1)) .nil)⟩
/-! 72: House_undo_2 -/
/-- 0=self -/
def f_House_undo_2 : FDef := ⟨1, 1,
  (.cons (.ite (.nt (.of (.fld "deeds" (.var 0))))
    (.cons (.raise 11 none .no) .nil)
    .nil)
  (.cons (.expr (.bm .pop (.fld "deeds" (.var 0)) .nil)) .nil))⟩
/-! 73: House_log_2 -/
/-- 0=self -/
def f_House_log_2 : FDef := ⟨1, 1,
  (.cons (.expr .bad) .nil)⟩
/-! 74: House_shown_2 -/
/-- 0=self 1=room 2=hour -/
def f_House_shown_2 : FDef := ⟨3, 3,
  (.cons (.expr .bad) .nil)⟩
/-! 75: number_of -/
/-- 0=word 1=figures 2=sign -/
def f_number_of : FDef := ⟨1, 3,
  (.cons (.asg (.name 1) (.ite (.cmp .eq (.sl (.var 0) .no (.of (.lit (.int 1)))) (.lit (.str "-"))) (.sl (.var 0) (.of (.lit (.int 1))) .no) (.var 0)))
  (.cons (.ite (.or (.nt (.chain .le .le (.lit (.int 1)) (.bi .len (.cons (.var 1) .nil)) (.lit (.int 12)))) (.nt (.of (.bi .all (.cons (.lc [("sign", 2)] (.cmp .inn (.var 2) (.glo 6 (.str "0123456789"))) (.name 2) (.of (.var 1)) .no) .nil)))))
    (.cons (.ret (.lit .non)) .nil)
    .nil)
  (.cons (.ret (.ite (.cmp .eq (.bi .str (.cons (.bi .int (.cons (.var 0) .nil)) .nil)) (.var 0)) (.bi .int (.cons (.var 0) .nil)) (.lit .non))) .nil)))⟩
/-! 76: plan_of -/
/-- 0=word 1=found 2=part 3=words 4=one -/
def f_plan_of : FDef := ⟨1, 5,
  (.cons (.ite (.cmp .eq (.var 0) (.lit (.str "-")))
    (.cons (.ret (.tup .nil)) .nil)
    .nil)
  (.cons (.asg (.name 1) (.lst .nil))
  (.cons (.forr (.name 2) (.of (.bm .split (.var 0) (.cons (.lit (.str ",")) .nil))) [2, 3]
    (.cons (.asg (.name 3) (.lc [("one", 4)] (.call 75 (.cons (.var 4) .nil)) (.name 4) (.of (.bm .split (.var 2) (.cons (.lit (.str "=")) .nil))) .no))
    (.cons (.ite (.cmp .inn (.lit .non) (.var 3))
      (.cons (.ret (.lit .non)) .nil)
      .nil)
    (.cons (.expr (.bm .append (.var 1) (.cons (.bi .tuple (.cons (.var 3) .nil)) .nil))) .nil))))
  (.cons (.ret (.bi .tuple (.cons (.var 1) .nil))) .nil))))⟩
/-! 77: until_of -/
/-- 0=words 1=word -/
def f_until_of : FDef := ⟨1, 2,
  (.cons (.ret (.bin .add (.tup (.cons (.ix (.var 0) (.lit (.int 0))) .nil)) (.bi .tuple (.cons (.lc [("word", 1)] (.call 75 (.cons (.var 1) .nil)) (.name 1) (.of (.sl (.var 0) (.of (.lit (.int 1))) .no)) .no) .nil)))) .nil)⟩
/-! 78: deed_of -/
/-- 0=words 1=form 2=found 3=word 4=sign 5=number -/
def f_deed_of : FDef := ⟨1, 6,
  (.cons (.ite (.ginD true (.ix (.var 0) (.lit (.int 0))) 8 [("plan", .str "nph"), ("turn", .str "nnuh"), ("back", .str "nh"), ("away", .str "nonh"), ("home", .str "h"), ("follow", .str "nonh")])
    (.cons (.ret (.lit .non)) .nil)
    .nil)
  (.cons (.asg (.name 1) (.gixD 8 [("plan", .str "nph"), ("turn", .str "nnuh"), ("back", .str "nh"), ("away", .str "nonh"), ("home", .str "h"), ("follow", .str "nonh")] (.ix (.var 0) (.lit (.int 0)))))
  (.cons (.ite (.and (.cmp .eq (.ix (.var 0) (.lit (.int 0))) (.lit (.str "turn"))) (.and (.cmp .gt (.bi .len (.cons (.var 0) .nil)) (.lit (.int 3))) (.cmp .eq (.ix (.var 0) (.lit (.int 3))) (.lit (.str "till")))))
    (.cons (.asg (.name 0) (.bin .add (.bin .add (.sl (.var 0) .no (.of (.lit (.int 3)))) (.lst (.cons (.bm .join (.lit (.str " ")) (.cons (.sl (.var 0) (.of (.lit (.int 3))) (.of (.lit (.int 5)))) .nil)) .nil))) (.sl (.var 0) (.of (.lit (.int 5))) .no))) .nil)
    .nil)
  (.cons (.ite (.cmp .ne (.bi .len (.cons (.var 0) .nil)) (.bin .add (.bi .len (.cons (.var 1) .nil)) (.lit (.int 1))))
    (.cons (.ret (.lit .non)) .nil)
    .nil)
  (.cons (.asg (.name 2) (.lst (.cons (.ix (.var 0) (.lit (.int 0))) .nil)))
  (.cons (.forr (.tup (.cons (.name 3) (.cons (.name 4) .nil))) (.zip (.sl (.var 0) (.of (.lit (.int 1))) .no) (.var 1)) [3, 4]
    (.cons (.ite (.cmp .eq (.var 4) (.lit (.str "p")))
      (.cons (.expr (.bm .append (.var 2) (.cons (.call 76 (.cons (.var 3) .nil)) .nil))) .nil)
      (.cons (.ite (.cmp .eq (.var 4) (.lit (.str "u")))
        (.cons (.expr (.bm .append (.var 2) (.cons (.call 77 (.cons (.bm .split (.var 3) (.cons (.lit (.str " ")) .nil)) .nil)) .nil))) .nil)
        (.cons (.ite (.and (.cmp .eq (.var 4) (.lit (.str "o"))) (.cmp .eq (.var 3) (.lit (.str "-"))))
          (.cons (.expr (.bm .append (.var 2) (.cons (.lit .non) .nil))) .nil)
          (.cons (.asg (.name 5) (.call 75 (.cons (.var 3) .nil)))
          (.cons (.ite (.isN (.var 5))
            (.cons (.ret (.lit .non)) .nil)
            .nil)
          (.cons (.expr (.bm .append (.var 2) (.cons (.var 5) .nil))) .nil)))) .nil)) .nil)) .nil))
  (.cons (.ret (.bi .tuple (.cons (.var 2) .nil))) .nil)))))))⟩
/-! 79: read_house -/
/-- 0=line 1=words 2=number 3=made -/
def f_read_house : FDef := ⟨1, 4,
  (.cons (.asg (.name 1) (.bm .split (.var 0) (.cons (.lit (.str " ")) .nil)))
  (.cons (.asg (.name 2) (.ite (.cmp .eq (.bi .len (.cons (.var 1) .nil)) (.lit (.int 3))) (.call 75 (.cons (.ix (.var 1) (.lit (.int 1))) .nil)) (.lit .non)))
  (.cons (.asg (.name 3) (.lit .non))
  (.cons (.ite (.and (.notN (.var 2)) (.cmp .eq (.ix (.var 1) (.lit (.int 0))) (.lit (.str "house"))))
    (.cons (.tryx
      (.cons (.asg (.name 3) (.make 0 19 (.cons (.var 2) (.cons (.ix (.var 1) (.lit (.int 2))) .nil)))) .nil)
      [(0, [.lit 3 .non])]) .nil)
    .nil)
  (.cons (.ite (.isN (.var 3))
    (.cons (.raise 14 (some 71) (.of (.lit (.int 1)))) .nil)
    .nil)
  (.cons (.ret (.var 3)) .nil))))))⟩
/-! 80: is_done -/
/-- 0=house 1=line 2=deed 3=good -/
def f_is_done : FDef := ⟨2, 4,
  (.cons (.asg (.name 2) (.call 78 (.cons (.bm .split (.var 1) (.cons (.lit (.str " ")) .nil)) .nil)))
  (.cons (.ite (.isN (.var 2))
    (.cons (.ret (.lit (.bl false))) .nil)
    .nil)
  (.cons (.asg (.name 3) (.lit (.bl true)))
  (.cons (.tryx
    (.cons (.expr (.call 34 (.cons (.var 0) (.cons (.var 2) .nil)))) .nil)
    [(0, [.lit 3 (.bl false)])])
  (.cons (.ret (.var 3)) .nil)))))⟩
/-! 81: read -/
/-- 0=text 1=lines 2=house 3=at 4=line -/
def f_read : FDef := ⟨1, 5,
  (.cons (.asg (.name 1) (.bm .split (.var 0) (.cons (.lit (.str "\n")) .nil)))
  (.cons (.asg (.name 2) (.call 79 (.cons (.ix (.var 1) (.lit (.int 0))) .nil)))
  (.cons (.forr (.tup (.cons (.name 3) (.cons (.name 4) .nil))) (.enum (.sl (.var 1) (.of (.lit (.int 1))) .no)) [3, 4]
    (.cons (.ite (.nt (.of (.call 80 (.cons (.var 2) (.cons (.var 4) .nil)))))
      (.cons (.raise 14 (some 71) (.of (.bin .add (.var 3) (.lit (.int 2))))) .nil)
      .nil) .nil))
  (.cons (.ret (.var 2)) .nil))))⟩
/-! 82: House_log_3 -/
/-- 0=self -/
def f_House_log_3 : FDef := ⟨1, 1,
  (.cons (.expr .bad) .nil)⟩
/-! 83: House_shown_3 -/
/-- 0=self 1=room 2=hour -/
def f_House_shown_3 : FDef := ⟨3, 3,
  (.cons (.expr .bad) .nil)⟩
/-! 84: same_for_all -/
/-- 0=order 1=one 2=two -/
def f_same_for_all : FDef := ⟨3, 3,
  (.cons (.ret (.isN (.call 64 (.cons (.var 0) (.cons (.var 1) (.cons (.var 2) .nil)))))) .nil)⟩
/-! 85: meeting -/
/-- 0=house 1=room 2=other 3=hour -/
def f_meeting : FDef := ⟨4, 4,
  (.cons (.ret (.call 41 (.cons (.lst (.cons (.var 0) .nil)) (.cons (.var 3) (.cons .bad .nil))))) .nil)⟩
/-! 86: House_value_at_2 -/
/-- 0=self 1=room 2=hour -/
def f_House_value_at_2 : FDef := ⟨3, 3,
  (.cons (.expr .bad) .nil)⟩
/-! 87: house_of -/
/-- 0=order 1=plan 2=row -/
def f_house_of : FDef := ⟨3, 3,
  (.cons (.expr (.call 8 (.cons (.var 0) .nil)))
  (.cons (.expr (.call 4 (.cons (.var 1) .nil)))
  (.cons (.ret (.call 59 (.cons (.var 0) (.cons (.var 1) (.cons (.fld "deeds" (.var 2)) .nil))))) .nil)))⟩
/-! 88: House_value_at_3 -/
/-- 0=self 1=room 2=hour -/
def f_House_value_at_3 : FDef := ⟨3, 3,
  (.cons (.expr .bad) .nil)⟩
/-! 89: House_shown_4 -/
/-- 0=self 1=room 2=hour -/
def f_House_shown_4 : FDef := ⟨3, 3,
  (.cons (.expr .bad) .nil)⟩
/-! 90: law_begin -/
/-- 0=_law_script -/
def f_law_begin : FDef := ⟨1, 1,
  (.cons (.ret (.lst (.cons (.bi .list (.cons (.var 0) .nil)) (.cons (.lit (.int 0)) (.cons (.lit (.int 0)) (.cons (.lit (.int 7)) .nil)))))) .nil)⟩
/-! 91: law_draw -/
/-- 0=_law_draws 1=_law_many 2=_law_cell 3=_law_found -/
def f_law_draw : FDef := ⟨2, 4,
  (.cons (.ite (.cmp .eq (.ix (.var 0) (.lit (.int 2))) (.lit (.int 0)))
    (.cons (.ite (.cmp .lt (.ix (.var 0) (.lit (.int 1))) (.bi .len (.cons (.ix (.var 0) (.lit (.int 0))) .nil)))
      (.cons (.asg (.name 2) (.ix (.ix (.var 0) (.lit (.int 0))) (.ix (.var 0) (.lit (.int 1)))))
      (.cons (.setIx (.var 0) (.lit (.int 1)) (.bin .add (.ix (.var 0) (.lit (.int 1))) (.lit (.int 1))))
      (.cons (.ite (.cmp .ge (.var 2) (.bin .pow (.lit (.int 10)) (.lit (.int 18))))
        (.cons (.setIx (.var 0) (.lit (.int 2)) (.var 2)) .nil)
        (.cons (.setIx (.var 0) (.lit (.int 3)) (.bin .mod (.bi .int (.cons (.bin .add (.bin .add (.bin .mul (.ix (.var 0) (.lit (.int 3))) (.lit (.int 48271))) (.bin .mul (.var 2) (.lit (.int 69621)))) (.lit (.int 11))) .nil)) (.lit (.int 2147483647)))) .nil)) .nil)))
      (.cons (.setIx (.var 0) (.lit (.int 3)) (.bin .mod (.bi .int (.cons (.bin .add (.bin .mul (.ix (.var 0) (.lit (.int 3))) (.lit (.int 48271))) (.lit (.int 7))) .nil)) (.lit (.int 2147483647)))) .nil)) .nil)
    .nil)
  (.cons (.ite (.cmp .gt (.ix (.var 0) (.lit (.int 2))) (.lit (.int 0)))
    (.cons (.asg (.name 3) (.bin .mod (.bi .int (.cons (.ix (.var 0) (.lit (.int 2))) .nil)) (.var 1)))
    (.cons (.setIx (.var 0) (.lit (.int 2)) (.bin .fdiv (.ix (.var 0) (.lit (.int 2))) (.var 1)))
    (.cons (.ret (.var 3)) .nil)))
    .nil)
  (.cons (.ret (.bin .mod (.bin .mod (.bi .int (.cons (.bin .mul (.ix (.var 0) (.lit (.int 3))) (.lit (.int 16807))) .nil)) (.lit (.int 2147483629))) (.var 1))) .nil)))⟩
/-! 92: law_plan -/
/-- 0=_law_draws 1=_law_places 2=_law_k 3=_law_place -/
def f_law_plan : FDef := ⟨1, 4,
  (.cons (.asg (.name 1) (.bi .sorted (.cons (.bi .set (.cons (.lc [("_law_k", 2)] (.call 91 (.cons (.var 0) (.cons (.lit (.int 168)) .nil))) (.name 2) (.rng1 (.call 91 (.cons (.var 0) (.cons (.lit (.int 5)) .nil)))) .no) .nil)) .nil)))
  (.cons (.ret (.bi .tuple (.cons (.lc [("_law_place", 3)] (.tup (.cons (.var 3) (.cons (.call 91 (.cons (.var 0) (.cons (.lit (.int 10)) .nil))) .nil))) (.name 3) (.of (.var 1)) .no) .nil))) .nil))⟩
/-! 93: law_until -/
/-- 0=_law_draws 1=_law_hour 2=_law_at -/
def f_law_until : FDef := ⟨2, 3,
  (.cons (.asg (.name 2) (.call 91 (.cons (.var 0) (.cons (.lit (.int 4)) .nil))))
  (.cons (.ite (.cmp .le (.var 2) (.lit (.int 1)))
    (.cons (.ret (.tup (.cons (.lit (.str "next")) .nil))) .nil)
    .nil)
  (.cons (.ite (.cmp .eq (.var 2) (.lit (.int 2)))
    (.cons (.ret (.tup (.cons (.lit (.str "hold")) .nil))) .nil)
    .nil)
  (.cons (.ret (.tup (.cons (.lit (.str "till")) (.cons (.bin .add (.bin .add (.var 1) (.lit (.int 1))) (.call 91 (.cons (.var 0) (.cons (.lit (.int 200)) .nil)))) .nil)))) .nil))))⟩
/-! 94: law_away -/
/-- 0=_law_draws 1=_law_hour 2=_law_begin_here 3=_law_end -/
def f_law_away : FDef := ⟨2, 4,
  (.cons (.asg (.name 2) (.bin .add (.var 1) (.call 91 (.cons (.var 0) (.cons (.lit (.int 60)) .nil)))))
  (.cons (.asg (.name 3) (.bin .add (.bin .add (.var 2) (.lit (.int 1))) (.call 91 (.cons (.var 0) (.cons (.lit (.int 150)) .nil)))))
  (.cons (.ite (.cmp .eq (.call 91 (.cons (.var 0) (.cons (.lit (.int 5)) .nil))) (.lit (.int 0)))
    (.cons (.asg (.name 3) (.lit .non)) .nil)
    .nil)
  (.cons (.ret (.tup (.cons (.lit (.str "away")) (.cons (.var 2) (.cons (.var 3) (.cons (.call 91 (.cons (.var 0) (.cons (.lit (.int 10)) .nil))) (.cons (.var 1) .nil))))))) .nil))))⟩
/-! 95: law_int -/
/-- 0=_law_value 1=_law_high -/
def f_law_int : FDef := ⟨2, 2,
  (.cons (.ret (.and (.isi "int" (.var 0)) (.and (.nt (.isi "bool" (.var 0))) (.chain .le .le (.lit (.int 0)) (.var 0) (.var 1))))) .nil)⟩
/-! 96: law_good -/
/-- 0=_law_value 1=_law_one 2=_law_k -/
def f_law_good : FDef := ⟨1, 3,
  (.cons (.ite (.or (.nt (.of (.isi "tuple" (.var 0)))) (.cmp .gt (.bi .len (.cons (.var 0) .nil)) (.lit (.int 14))))
    (.cons (.ret (.lit (.bl false))) .nil)
    .nil)
  (.cons (.forr (.name 1) (.of (.var 0)) [1]
    (.cons (.ite (.or (.nt (.of (.isi "tuple" (.var 1)))) (.cmp .ne (.bi .len (.cons (.var 1) .nil)) (.lit (.int 2))))
      (.cons (.ret (.lit (.bl false))) .nil)
      .nil)
    (.cons (.ite (.or (.nt (.of (.call 95 (.cons (.ix (.var 1) (.lit (.int 0))) (.cons (.lit (.int 167)) .nil))))) (.nt (.of (.call 95 (.cons (.ix (.var 1) (.lit (.int 1))) (.cons (.lit (.int 9)) .nil))))))
      (.cons (.ret (.lit (.bl false))) .nil)
      .nil) .nil)))
  (.cons (.ret (.bi .all (.cons (.lc [("_law_k", 2)] (.cmp .lt (.ix (.ix (.var 0) (.var 2)) (.lit (.int 0))) (.ix (.ix (.var 0) (.bin .add (.var 2) (.lit (.int 1)))) (.lit (.int 0)))) (.name 2) (.rng1 (.bin .sub (.bi .len (.cons (.var 0) .nil)) (.lit (.int 1)))) .no) .nil))) .nil)))⟩
/-! 97: law_shows -/
/-- 0=_law_plan_here 1=_law_hour 2=_law_found 3=_law_place 4=_law_value -/
def f_law_shows : FDef := ⟨2, 5,
  (.cons (.ite (.cmp .eq (.bi .len (.cons (.var 0) .nil)) (.lit (.int 0)))
    (.cons (.ret (.lit .non)) .nil)
    .nil)
  (.cons (.asg (.name 2) (.ix (.ix (.var 0) (.neg (.lit (.int 1)))) (.lit (.int 1))))
  (.cons (.forr (.tup (.cons (.name 3) (.cons (.name 4) .nil))) (.of (.var 0)) [3, 4]
    (.cons (.ite (.cmp .le (.var 3) (.var 1))
      (.cons (.asg (.name 2) (.var 4)) .nil)
      .nil) .nil))
  (.cons (.ret (.var 2)) .nil))))⟩
/-! 98: law_told -/
/-- 0=_law_value 1=_law_told_here -/
def f_law_told : FDef := ⟨1, 2,
  (.cons (.asg (.name 1) (.lit .non))
  (.cons (.tryx
    (.cons (.asg (.name 1) (.call 7 (.cons (.var 0) .nil))) .nil)
    [(1, [.lit 1 (.str "bad")])])
  (.cons (.ret (.var 1)) .nil)))⟩
/-! 99: law_deed -/
/-- 0=_law_draws 1=_law_rooms 2=_law_hour 3=_law_room 4=_law_way 5=_law_other -/
def f_law_deed : FDef := ⟨3, 6,
  (.cons (.asg (.name 3) (.call 91 (.cons (.var 0) (.cons (.var 1) .nil))))
  (.cons (.asg (.name 4) (.call 91 (.cons (.var 0) (.cons (.lit (.int 10)) .nil))))
  (.cons (.ite (.cmp .le (.var 4) (.lit (.int 1)))
    (.cons (.ret (.tup (.cons (.lit (.str "plan")) (.cons (.var 3) (.cons (.call 92 (.cons (.var 0) .nil)) (.cons (.var 2) .nil)))))) .nil)
    .nil)
  (.cons (.ite (.cmp .le (.var 4) (.lit (.int 4)))
    (.cons (.ret (.tup (.cons (.lit (.str "turn")) (.cons (.var 3) (.cons (.call 91 (.cons (.var 0) (.cons (.lit (.int 10)) .nil))) (.cons (.call 93 (.cons (.var 0) (.cons (.var 2) .nil))) (.cons (.var 2) .nil))))))) .nil)
    .nil)
  (.cons (.ite (.cmp .eq (.var 4) (.lit (.int 5)))
    (.cons (.ret (.tup (.cons (.lit (.str "back")) (.cons (.var 3) (.cons (.var 2) .nil))))) .nil)
    .nil)
  (.cons (.ite (.cmp .eq (.var 4) (.lit (.int 6)))
    (.cons (.ret (.call 94 (.cons (.var 0) (.cons (.var 2) .nil)))) .nil)
    .nil)
  (.cons (.ite (.cmp .eq (.var 4) (.lit (.int 7)))
    (.cons (.ret (.tup (.cons (.lit (.str "home")) (.cons (.var 2) .nil)))) .nil)
    .nil)
  (.cons (.asg (.name 5) (.call 91 (.cons (.var 0) (.cons (.bin .add (.var 1) (.lit (.int 1))) .nil))))
  (.cons (.ite (.cmp .eq (.var 5) (.var 1))
    (.cons (.asg (.name 5) (.lit .non)) .nil)
    .nil)
  (.cons (.ret (.tup (.cons (.lit (.str "follow")) (.cons (.var 3) (.cons (.var 5) (.cons (.bin .sub (.call 91 (.cons (.var 0) (.cons (.lit (.int 9)) .nil))) (.lit (.int 4))) (.cons (.var 2) .nil))))))) .nil))))))))))⟩
/-! 100: law_follows -/
/-- 0=_law_log_here 1=_law_room 2=_law_deed_here -/
def f_law_follows : FDef := ⟨2, 3,
  (.cons (.forr (.name 2) (.of (.slr (.var 0))) [2]
    (.cons (.ite (.and (.cmp .eq (.ix (.var 2) (.lit (.int 0))) (.lit (.str "follow"))) (.cmp .eq (.ix (.var 2) (.lit (.int 1))) (.var 1)))
      (.cons (.ite (.isN (.ix (.var 2) (.lit (.int 2))))
        (.cons (.ret (.lit .non)) .nil)
        .nil)
      (.cons (.ret (.tup (.cons (.ix (.var 2) (.lit (.int 2))) (.cons (.ix (.var 2) (.lit (.int 3))) .nil)))) .nil))
      .nil) .nil))
  (.cons (.ret (.lit .non)) .nil))⟩
/-! 101: law_rings -/
/-- 0=_law_log_here 1=_law_deed_here 2=_law_here 3=_law_after -/
def f_law_rings : FDef := ⟨2, 4,
  (.cons (.ite (.cmp .ne (.ix (.var 1) (.lit (.int 0))) (.lit (.str "follow")))
    (.cons (.ret (.lit (.bl false))) .nil)
    .nil)
  (.cons (.asg (.name 2) (.ix (.var 1) (.lit (.int 2))))
  (.cons (.whil (.notN (.var 2)) [3]
    (.cons (.ite (.cmp .eq (.var 2) (.ix (.var 1) (.lit (.int 1))))
      (.cons (.ret (.lit (.bl true))) .nil)
      .nil)
    (.cons (.asg (.name 3) (.call 100 (.cons (.var 0) (.cons (.var 2) .nil))))
    (.cons (.asg (.name 2) (.lit .non))
    (.cons (.ite (.notN (.var 3))
      (.cons (.asg (.name 2) (.ix (.var 3) (.lit (.int 0)))) .nil)
      .nil) .nil)))))
  (.cons (.ret (.lit (.bl false))) .nil))))⟩
/-! 102: law_log -/
/-- 0=_law_draws 1=_law_rooms 2=_law_most 3=_law_log_here 4=_law_hour 5=_law_room 6=_law_k 7=_law_deed_here -/
def f_law_log : FDef := ⟨3, 8,
  (.cons (.asg (.name 3) (.lst .nil))
  (.cons (.asg (.name 4) (.lit (.int 0)))
  (.cons (.forr (.name 5) (.rng1 (.var 1)) [5]
    (.cons (.expr (.bm .append (.var 3) (.cons (.tup (.cons (.lit (.str "plan")) (.cons (.var 5) (.cons (.call 92 (.cons (.var 0) .nil)) (.cons (.lit (.int 0)) .nil))))) .nil))) .nil))
  (.cons (.forr (.name 6) (.rng1 (.call 91 (.cons (.var 0) (.cons (.bin .add (.var 2) (.lit (.int 1))) .nil)))) [6, 7]
    (.cons (.asg (.name 4) (.bin .add (.var 4) (.ix (.lst (.cons (.lit (.int 0)) (.cons (.lit (.int 1)) (.cons (.lit (.int 7)) (.cons (.lit (.int 40)) (.cons (.lit (.int 100)) .nil)))))) (.call 91 (.cons (.var 0) (.cons (.lit (.int 5)) .nil))))))
    (.cons (.asg (.name 7) (.call 99 (.cons (.var 0) (.cons (.var 1) (.cons (.var 4) .nil)))))
    (.cons (.ite (.nt (.of (.call 101 (.cons (.var 3) (.cons (.var 7) .nil)))))
      (.cons (.expr (.bm .append (.var 3) (.cons (.var 7) .nil))) .nil)
      .nil) .nil))))
  (.cons (.ret (.var 3)) .nil)))))⟩
/-! 103: law_int_2 -/
/-- 0=_law_value 1=_law_low 2=_law_high -/
def f_law_int_2 : FDef := ⟨3, 3,
  (.cons (.ret (.and (.isi "int" (.var 0)) (.and (.nt (.isi "bool" (.var 0))) (.chain .le .le (.var 1) (.var 0) (.var 2))))) .nil)⟩
/-! 104: law_do -/
/-- 0=_law_house 1=_law_deed_here -/
def f_law_do : FDef := ⟨2, 2,
  (.cons (.ite (.cmp .eq (.ix (.var 1) (.lit (.int 0))) (.lit (.str "plan")))
    (.cons (.expr (.meth 0 23 (.var 0) (.cons (.ix (.var 1) (.lit (.int 1))) (.cons (.ix (.var 1) (.lit (.int 2))) (.cons (.ix (.var 1) (.lit (.int 3))) .nil))))) .nil)
    .nil)
  (.cons (.ite (.cmp .eq (.ix (.var 1) (.lit (.int 0))) (.lit (.str "turn")))
    (.cons (.expr (.meth 0 24 (.var 0) (.cons (.ix (.var 1) (.lit (.int 1))) (.cons (.ix (.var 1) (.lit (.int 2))) (.cons (.ix (.var 1) (.lit (.int 3))) (.cons (.ix (.var 1) (.lit (.int 4))) .nil)))))) .nil)
    .nil)
  (.cons (.ite (.cmp .eq (.ix (.var 1) (.lit (.int 0))) (.lit (.str "back")))
    (.cons (.expr (.meth 0 25 (.var 0) (.cons (.ix (.var 1) (.lit (.int 1))) (.cons (.ix (.var 1) (.lit (.int 2))) .nil)))) .nil)
    .nil)
  (.cons (.ite (.cmp .eq (.ix (.var 1) (.lit (.int 0))) (.lit (.str "away")))
    (.cons (.expr (.meth 0 26 (.var 0) (.cons (.ix (.var 1) (.lit (.int 1))) (.cons (.ix (.var 1) (.lit (.int 2))) (.cons (.ix (.var 1) (.lit (.int 3))) (.cons (.ix (.var 1) (.lit (.int 4))) .nil)))))) .nil)
    .nil)
  (.cons (.ite (.cmp .eq (.ix (.var 1) (.lit (.int 0))) (.lit (.str "home")))
    (.cons (.expr (.meth 0 27 (.var 0) (.cons (.ix (.var 1) (.lit (.int 1))) .nil))) .nil)
    .nil)
  (.cons (.ite (.cmp .eq (.ix (.var 1) (.lit (.int 0))) (.lit (.str "follow")))
    (.cons (.expr (.meth 0 28 (.var 0) (.cons (.ix (.var 1) (.lit (.int 1))) (.cons (.ix (.var 1) (.lit (.int 2))) (.cons (.ix (.var 1) (.lit (.int 3))) (.cons (.ix (.var 1) (.lit (.int 4))) .nil)))))) .nil)
    .nil) .nil))))))⟩
/-! 105: law_told_2 -/
/-- 0=_law_house 1=_law_deed_here 2=_law_told_here -/
def f_law_told_2 : FDef := ⟨2, 3,
  (.cons (.asg (.name 2) (.lit (.str "good")))
  (.cons (.tryx
    (.cons (.expr (.call 104 (.cons (.var 0) (.cons (.var 1) .nil)))) .nil)
    [(4, [.lit 2 (.str "room")]), (1, [.lit 2 (.str "plan")]), (6, [.lit 2 (.str "value")]), (7, [.lit 2 (.str "until")]), (8, [.lit 2 (.str "stretch")]), (9, [.lit 2 (.str "offset")]), (10, [.lit 2 (.str "ring")]), (5, [.lit 2 (.str "hour")])])
  (.cons (.ret (.var 2)) .nil)))⟩
/-! 106: law_until_good -/
/-- 0=_law_until_here -/
def f_law_until_good : FDef := ⟨1, 1,
  (.cons (.ite (.or (.cmp .eq (.var 0) (.tup (.cons (.lit (.str "next")) .nil))) (.cmp .eq (.var 0) (.tup (.cons (.lit (.str "hold")) .nil))))
    (.cons (.ret (.lit (.bl true))) .nil)
    .nil)
  (.cons (.ite (.or (.nt (.of (.isi "tuple" (.var 0)))) (.or (.cmp .ne (.bi .len (.cons (.var 0) .nil)) (.lit (.int 2))) (.cmp .ne (.ix (.var 0) (.lit (.int 0))) (.lit (.str "till")))))
    (.cons (.ret (.lit (.bl false))) .nil)
    .nil)
  (.cons (.ret (.call 103 (.cons (.ix (.var 0) (.lit (.int 1))) (.cons (.lit (.int 0)) (.cons (.lit (.int 2000000000)) .nil))))) .nil)))⟩
/-! 107: law_turn_due -/
/-- 0=_law_deed_here 1=_law_fits -/
def f_law_turn_due : FDef := ⟨2, 2,
  (.cons (.ite (.nt (.of (.call 103 (.cons (.ix (.var 0) (.lit (.int 2))) (.cons (.lit (.int 0)) (.cons (.lit (.int 9)) .nil))))))
    (.cons (.ret (.lit (.str "value"))) .nil)
    .nil)
  (.cons (.ite (.nt (.of (.call 106 (.cons (.ix (.var 0) (.lit (.int 3))) .nil))))
    (.cons (.ret (.lit (.str "until"))) .nil)
    .nil)
  (.cons (.ite (.nt (.of (.var 1)))
    (.cons (.ret (.lit (.str "hour"))) .nil)
    .nil)
  (.cons (.ret (.ix (.lst (.cons (.lit (.str "good")) (.cons (.lit (.str "until")) .nil))) (.bi .int (.cons (.and (.cmp .eq (.ix (.ix (.var 0) (.lit (.int 3))) (.lit (.int 0))) (.lit (.str "till"))) (.cmp .le (.ix (.ix (.var 0) (.lit (.int 3))) (.lit (.int 1))) (.ix (.var 0) (.lit (.int 4))))) .nil)))) .nil))))⟩
/-! 108: law_away_due -/
/-- 0=_law_deed_here 1=_law_fits -/
def f_law_away_due : FDef := ⟨2, 2,
  (.cons (.ite (.nt (.of (.call 103 (.cons (.ix (.var 0) (.lit (.int 3))) (.cons (.lit (.int 0)) (.cons (.lit (.int 9)) .nil))))))
    (.cons (.ret (.lit (.str "value"))) .nil)
    .nil)
  (.cons (.ite (.nt (.of (.call 103 (.cons (.ix (.var 0) (.lit (.int 1))) (.cons (.lit (.int 0)) (.cons (.lit (.int 2000000000)) .nil))))))
    (.cons (.ret (.lit (.str "stretch"))) .nil)
    .nil)
  (.cons (.ite (.and (.notN (.ix (.var 0) (.lit (.int 2)))) (.nt (.of (.call 103 (.cons (.ix (.var 0) (.lit (.int 2))) (.cons (.bin .add (.ix (.var 0) (.lit (.int 1))) (.lit (.int 1))) (.cons (.lit (.int 2000000000)) .nil)))))))
    (.cons (.ret (.lit (.str "stretch"))) .nil)
    .nil)
  (.cons (.ite (.nt (.of (.var 1)))
    (.cons (.ret (.lit (.str "hour"))) .nil)
    .nil)
  (.cons (.ret (.ix (.lst (.cons (.lit (.str "good")) (.cons (.lit (.str "stretch")) .nil))) (.bi .int (.cons (.cmp .lt (.ix (.var 0) (.lit (.int 1))) (.ix (.var 0) (.lit (.int 4)))) .nil)))) .nil)))))⟩
/-! 109: law_follow_due -/
/-- 0=_law_deed_here 1=_law_rooms 2=_law_log_here 3=_law_fits -/
def f_law_follow_due : FDef := ⟨4, 4,
  (.cons (.ite (.and (.notN (.ix (.var 0) (.lit (.int 2)))) (.nt (.of (.call 103 (.cons (.ix (.var 0) (.lit (.int 2))) (.cons (.lit (.int 0)) (.cons (.bin .sub (.var 1) (.lit (.int 1))) .nil)))))))
    (.cons (.ret (.lit (.str "room"))) .nil)
    .nil)
  (.cons (.ite (.nt (.of (.call 103 (.cons (.ix (.var 0) (.lit (.int 3))) (.cons (.neg (.lit (.int 9))) (.cons (.lit (.int 9)) .nil))))))
    (.cons (.ret (.lit (.str "offset"))) .nil)
    .nil)
  (.cons (.ite (.of (.call 101 (.cons (.var 2) (.cons (.var 0) .nil))))
    (.cons (.ret (.lit (.str "ring"))) .nil)
    .nil)
  (.cons (.ret (.ix (.lst (.cons (.lit (.str "hour")) (.cons (.lit (.str "good")) .nil))) (.bi .int (.cons (.var 3) .nil)))) .nil))))⟩
/-! 110: law_due -/
/-- 0=_law_deed_here 1=_law_rooms 2=_law_log_here 3=_law_now 4=_law_fits -/
def f_law_due : FDef := ⟨4, 5,
  (.cons (.asg (.name 4) (.call 103 (.cons (.ix (.var 0) (.neg (.lit (.int 1)))) (.cons (.var 3) (.cons (.lit (.int 1000000000)) .nil)))))
  (.cons (.ite (.cmp .eq (.ix (.var 0) (.lit (.int 0))) (.lit (.str "home")))
    (.cons (.ret (.ix (.lst (.cons (.lit (.str "hour")) (.cons (.lit (.str "good")) .nil))) (.bi .int (.cons (.var 4) .nil)))) .nil)
    .nil)
  (.cons (.ite (.cmp .eq (.ix (.var 0) (.lit (.int 0))) (.lit (.str "away")))
    (.cons (.ret (.call 108 (.cons (.var 0) (.cons (.var 4) .nil)))) .nil)
    .nil)
  (.cons (.ite (.nt (.of (.call 103 (.cons (.ix (.var 0) (.lit (.int 1))) (.cons (.lit (.int 0)) (.cons (.bin .sub (.var 1) (.lit (.int 1))) .nil))))))
    (.cons (.ret (.lit (.str "room"))) .nil)
    .nil)
  (.cons (.ite (.cmp .eq (.ix (.var 0) (.lit (.int 0))) (.lit (.str "turn")))
    (.cons (.ret (.call 107 (.cons (.var 0) (.cons (.var 4) .nil)))) .nil)
    .nil)
  (.cons (.ite (.cmp .eq (.ix (.var 0) (.lit (.int 0))) (.lit (.str "follow")))
    (.cons (.ret (.call 109 (.cons (.var 0) (.cons (.var 1) (.cons (.var 2) (.cons (.var 4) .nil)))))) .nil)
    .nil)
  (.cons (.ite (.and (.cmp .eq (.ix (.var 0) (.lit (.int 0))) (.lit (.str "plan"))) (.cmp .inn (.ix (.var 0) (.lit (.int 2))) (.lst (.cons (.lit .non) (.cons (.lit (.int 5)) (.cons (.tup (.cons (.tup (.cons (.lit (.int 1)) (.cons (.lit (.int 1)) .nil))) (.cons (.tup (.cons (.lit (.int 0)) (.cons (.lit (.int 2)) .nil))) .nil))) (.cons (.tup (.cons (.tup (.cons (.lit (.int 168)) (.cons (.lit (.int 1)) .nil))) .nil)) .nil)))))))
    (.cons (.ret (.lit (.str "plan"))) .nil)
    .nil)
  (.cons (.ret (.ix (.lst (.cons (.lit (.str "hour")) (.cons (.lit (.str "good")) .nil))) (.bi .int (.cons (.var 4) .nil)))) .nil))))))))⟩
/-! 111: law_odd -/
/-- 0=_law_draws 1=_law_deed_here 2=_law_now 3=_law_row 4=_law_k 5=_law_at 6=_law_odd_here -/
def f_law_odd : FDef := ⟨3, 7,
  (.cons (.asg (.name 3) (.bi .list (.cons (.var 1) .nil)))
  (.cons (.forr (.name 4) (.rng1 (.call 91 (.cons (.var 0) (.cons (.lit (.int 3)) .nil)))) [4, 5, 6]
    (.cons (.asg (.name 5) (.bin .add (.lit (.int 1)) (.call 91 (.cons (.var 0) (.cons (.bin .sub (.bi .len (.cons (.var 3) .nil)) (.lit (.int 1))) .nil)))))
    (.cons (.asg (.name 6) (.lst (.cons (.lit .non) (.cons (.neg (.lit (.int 1))) (.cons (.lit (.int 10)) (.cons (.lit (.bl true)) (.cons (.bin .sub (.var 2) (.lit (.int 1))) (.cons (.lit (.int 3)) (.cons (.var 2) (.cons (.lit (.int 2000000001)) (.cons (.lit (.str "next")) (.cons (.neg (.lit (.int 10))) .nil))))))))))))
    (.cons (.ite (.and (.cmp .eq (.ix (.var 1) (.lit (.int 0))) (.lit (.str "plan"))) (.cmp .eq (.var 5) (.lit (.int 2))))
      (.cons (.asg (.name 6) (.lst (.cons (.lit .non) (.cons (.lit (.int 5)) (.cons (.tup (.cons (.tup (.cons (.lit (.int 1)) (.cons (.lit (.int 1)) .nil))) (.cons (.tup (.cons (.lit (.int 0)) (.cons (.lit (.int 2)) .nil))) .nil))) (.cons (.tup (.cons (.tup (.cons (.lit (.int 168)) (.cons (.lit (.int 1)) .nil))) .nil)) .nil)))))) .nil)
      .nil)
    (.cons (.ite (.and (.cmp .eq (.ix (.var 1) (.lit (.int 0))) (.lit (.str "turn"))) (.cmp .eq (.var 5) (.lit (.int 3))))
      (.cons (.asg (.name 6) (.lst (.cons (.lit .non) (.cons (.tup (.cons (.lit (.str "till")) .nil)) (.cons (.tup (.cons (.lit (.str "till")) (.cons (.var 2) .nil))) (.cons (.tup (.cons (.lit (.str "till")) (.cons (.lit (.bl true)) .nil))) (.cons (.tup (.cons (.lit (.str "late")) .nil)) (.cons (.lst (.cons (.lit (.str "hold")) .nil)) (.cons (.tup (.cons (.lit (.str "next")) (.cons (.lit (.int 1)) .nil))) .nil))))))))) .nil)
      .nil)
    (.cons (.setIx (.var 3) (.var 5) (.ix (.var 6) (.call 91 (.cons (.var 0) (.cons (.bi .len (.cons (.var 6) .nil)) .nil))))) .nil))))))
  (.cons (.ret (.bi .tuple (.cons (.var 3) .nil))) .nil)))⟩
/-! 112: law_made -/
/-- 0=_law_rooms 1=_law_order 2=_law_told_here -/
def f_law_made : FDef := ⟨2, 3,
  (.cons (.asg (.name 2) (.lit (.str "good")))
  (.cons (.tryx
    (.cons (.expr (.make 0 19 (.cons (.var 0) (.cons (.var 1) .nil)))) .nil)
    [(2, [.lit 2 (.str "count")]), (3, [.lit 2 (.str "order")])])
  (.cons (.ret (.var 2)) .nil)))⟩
/-! 113: law_plan_shows -/
/-- 0=_law_plan_here 1=_law_hour 2=_law_found 3=_law_place 4=_law_value -/
def f_law_plan_shows : FDef := ⟨2, 5,
  (.cons (.ite (.cmp .eq (.bi .len (.cons (.var 0) .nil)) (.lit (.int 0)))
    (.cons (.ret (.lit .non)) .nil)
    .nil)
  (.cons (.asg (.name 2) (.ix (.ix (.var 0) (.neg (.lit (.int 1)))) (.lit (.int 1))))
  (.cons (.forr (.tup (.cons (.name 3) (.cons (.name 4) .nil))) (.of (.var 0)) [3, 4]
    (.cons (.ite (.cmp .le (.var 3) (.bin .mod (.var 1) (.lit (.int 168))))
      (.cons (.asg (.name 2) (.var 4)) .nil)
      .nil) .nil))
  (.cons (.ret (.var 2)) .nil))))⟩
/-! 114: law_new -/
/-- 0=_law_rooms 1=_law_state 2=_law_room -/
def f_law_new : FDef := ⟨1, 3,
  (.cons (.asg (.name 1) .dic0)
  (.cons (.setIx (.var 1) (.lit (.str "plans")) (.lc [("_law_room", 2)] (.tup .nil) (.name 2) (.rng1 (.var 0)) .no))
  (.cons (.setIx (.var 1) (.lit (.str "turns")) (.lc [("_law_room", 2)] (.lit .non) (.name 2) (.rng1 (.var 0)) .no))
  (.cons (.setIx (.var 1) (.lit (.str "follows")) (.lc [("_law_room", 2)] (.lit .non) (.name 2) (.rng1 (.var 0)) .no))
  (.cons (.setIx (.var 1) (.lit (.str "away")) (.lit .non))
  (.cons (.ret (.var 1)) .nil))))))⟩
/-! 115: law_take -/
/-- 0=_law_state 1=_law_deed_here 2=_law_number -/
def f_law_take : FDef := ⟨3, 3,
  (.cons (.ite (.cmp .eq (.ix (.var 1) (.lit (.int 0))) (.lit (.str "plan")))
    (.cons (.setIx (.ixd (.var 0) (.lit (.str "plans"))) (.ix (.var 1) (.lit (.int 1))) (.ix (.var 1) (.lit (.int 2)))) .nil)
    (.cons (.ite (.cmp .eq (.ix (.var 1) (.lit (.int 0))) (.lit (.str "turn")))
      (.cons (.setIx (.ixd (.var 0) (.lit (.str "turns"))) (.ix (.var 1) (.lit (.int 1))) (.tup (.cons (.var 2) (.cons (.ix (.var 1) (.lit (.int 2))) (.cons (.ix (.var 1) (.lit (.int 3))) (.cons (.ix (.var 1) (.lit (.int 4))) .nil)))))) .nil)
      (.cons (.ite (.cmp .eq (.ix (.var 1) (.lit (.int 0))) (.lit (.str "back")))
        (.cons (.setIx (.ixd (.var 0) (.lit (.str "turns"))) (.ix (.var 1) (.lit (.int 1))) (.lit .non)) .nil)
        (.cons (.ite (.cmp .eq (.ix (.var 1) (.lit (.int 0))) (.lit (.str "away")))
          (.cons (.setIx (.var 0) (.lit (.str "away")) (.tup (.cons (.var 2) (.cons (.ix (.var 1) (.lit (.int 1))) (.cons (.ix (.var 1) (.lit (.int 2))) (.cons (.ix (.var 1) (.lit (.int 3))) .nil)))))) .nil)
          (.cons (.ite (.cmp .eq (.ix (.var 1) (.lit (.int 0))) (.lit (.str "home")))
            (.cons (.setIx (.var 0) (.lit (.str "away")) (.lit .non)) .nil)
            (.cons (.ite (.isN (.ix (.var 1) (.lit (.int 2))))
              (.cons (.setIx (.ixd (.var 0) (.lit (.str "follows"))) (.ix (.var 1) (.lit (.int 1))) (.lit .non)) .nil)
              (.cons (.setIx (.ixd (.var 0) (.lit (.str "follows"))) (.ix (.var 1) (.lit (.int 1))) (.tup (.cons (.ix (.var 1) (.lit (.int 2))) (.cons (.ix (.var 1) (.lit (.int 3))) .nil)))) .nil)) .nil)) .nil)) .nil)) .nil)) .nil)) .nil)⟩
/-! 116: law_tick -/
/-- 0=_law_state 1=_law_hour 2=_law_room 3=_law_turn 4=_law_over 5=_law_switch -/
def f_law_tick : FDef := ⟨2, 6,
  (.cons (.forr (.name 2) (.rng1 (.bi .len (.cons (.ixd (.var 0) (.lit (.str "plans"))) .nil))) [2, 3]
    (.cons (.asg (.name 3) (.ix (.ixd (.var 0) (.lit (.str "turns"))) (.var 2)))
    (.cons (.ite (.notN (.var 3))
      (.cons (.asg (.name 4) (.and (.cmp .eq (.ix (.ix (.var 3) (.lit (.int 2))) (.lit (.int 0))) (.lit (.str "till"))) (.cmp .ge (.var 1) (.ix (.ix (.var 3) (.lit (.int 2))) (.lit (.int 1))))))
      (.cons (.ite (.and (.cmp .eq (.ix (.ix (.var 3) (.lit (.int 2))) (.lit (.int 0))) (.lit (.str "next"))) (.cmp .gt (.var 1) (.ix (.var 3) (.lit (.int 3)))))
        (.cons (.asg (.name 4) (.bi .any (.cons (.lc [("_law_switch", 5)] (.cmp .eq (.ix (.var 5) (.lit (.int 0))) (.bin .mod (.var 1) (.lit (.int 168)))) (.name 5) (.of (.ix (.ixd (.var 0) (.lit (.str "plans"))) (.var 2))) .no) .nil))) .nil)
        .nil)
      (.cons (.ite (.of (.var 4))
        (.cons (.setIx (.ixd (.var 0) (.lit (.str "turns"))) (.var 2) (.lit .non)) .nil)
        .nil) .nil)))
      .nil) .nil))) .nil)⟩
/-! 117: law_shows_2 -/
/-- 0=_law_state 1=_law_order 2=_law_room 3=_law_hour 4=_law_turn 5=_law_away_here 6=_law_other 7=_law_offset 8=_law_value -/
def f_law_shows_2 : FDef := ⟨4, 9,
  (.cons (.asg (.name 4) (.ix (.ixd (.var 0) (.lit (.str "turns"))) (.var 2)))
  (.cons (.asg (.name 5) (.ixd (.var 0) (.lit (.str "away"))))
  (.cons (.ite (.and (.notN (.var 5)) (.or (.cmp .lt (.var 3) (.ix (.var 5) (.lit (.int 1)))) (.and (.notN (.ix (.var 5) (.lit (.int 2)))) (.cmp .ge (.var 3) (.ix (.var 5) (.lit (.int 2)))))))
    (.cons (.asg (.name 5) (.lit .non)) .nil)
    .nil)
  (.cons (.ite (.and (.notN (.var 4)) (.notN (.var 5)))
    (.cons (.ite (.or (.cmp .eq (.var 1) (.lit (.str "away"))) (.cmp .gt (.ix (.var 5) (.lit (.int 0))) (.ix (.var 4) (.lit (.int 0)))))
      (.cons (.ret (.ix (.var 5) (.lit (.int 3)))) .nil)
      .nil)
    (.cons (.ret (.ix (.var 4) (.lit (.int 1)))) .nil))
    .nil)
  (.cons (.ite (.notN (.var 5))
    (.cons (.ret (.ix (.var 5) (.lit (.int 3)))) .nil)
    .nil)
  (.cons (.ite (.notN (.var 4))
    (.cons (.ret (.ix (.var 4) (.lit (.int 1)))) .nil)
    .nil)
  (.cons (.ite (.isN (.ix (.ixd (.var 0) (.lit (.str "follows"))) (.var 2)))
    (.cons (.ret (.call 113 (.cons (.ix (.ixd (.var 0) (.lit (.str "plans"))) (.var 2)) (.cons (.var 3) .nil)))) .nil)
    .nil)
  (.cons (.asg (.tup (.cons (.name 6) (.cons (.name 7) .nil))) (.ix (.ixd (.var 0) (.lit (.str "follows"))) (.var 2)))
  (.cons (.asg (.name 8) (.call 117 (.cons (.var 0) (.cons (.var 1) (.cons (.var 6) (.cons (.var 3) .nil))))))
  (.cons (.ite (.isN (.var 8))
    (.cons (.ret (.lit .non)) .nil)
    .nil)
  (.cons (.ret (.bi .min (.cons (.bi .max (.cons (.bin .add (.var 8) (.var 7)) (.cons (.lit (.int 0)) .nil))) (.cons (.lit (.int 9)) .nil)))) .nil)))))))))))⟩
/-! 118: law_hours -/
/-- 0=_law_rooms 1=_law_order 2=_law_log_here 3=_law_most 4=_law_state 5=_law_found 6=_law_at 7=_law_hour 8=_law_room -/
def f_law_hours : FDef := ⟨4, 9,
  (.cons (.asg (.name 4) (.call 114 (.cons (.var 0) .nil)))
  (.cons (.asg (.name 5) (.lst .nil))
  (.cons (.asg (.name 6) (.lit (.int 0)))
  (.cons (.forr (.name 7) (.rng1 (.var 3)) [7]
    (.cons (.whil (.and (.cmp .lt (.var 6) (.bi .len (.cons (.var 2) .nil))) (.cmp .eq (.ix (.ix (.var 2) (.var 6)) (.neg (.lit (.int 1)))) (.var 7))) []
      (.cons (.expr (.call 115 (.cons (.var 4) (.cons (.ix (.var 2) (.var 6)) (.cons (.var 6) .nil)))))
      (.cons (.asg (.name 6) (.bin .add (.var 6) (.lit (.int 1)))) .nil)))
    (.cons (.expr (.call 116 (.cons (.var 4) (.cons (.var 7) .nil))))
    (.cons (.expr (.bm .append (.var 5) (.cons (.lc [("_law_room", 8)] (.call 117 (.cons (.var 4) (.cons (.var 1) (.cons (.var 8) (.cons (.var 7) .nil))))) (.name 8) (.rng1 (.var 0)) .no) .nil))) .nil))))
  (.cons (.ret (.var 5)) .nil)))))⟩
/-! 119: law_told_3 -/
/-- 0=_law_house 1=_law_room 2=_law_hour 3=_law_told_here -/
def f_law_told_3 : FDef := ⟨3, 4,
  (.cons (.asg (.name 3) (.lit (.str "good")))
  (.cons (.tryx
    (.cons (.expr (.meth 0 33 (.var 0) (.cons (.var 1) (.cons (.var 2) .nil)))) .nil)
    [(4, [.lit 3 (.str "room")]), (5, [.lit 3 (.str "hour")])])
  (.cons (.ret (.var 3)) .nil)))⟩
/-! 120: law_later -/
/-- 0=_law_log_here 1=_law_rooms 2=_law_weeks 3=_law_found 4=_law_more 5=_law_deed_here 6=_law_until_here 7=_law_end -/
def f_law_later : FDef := ⟨3, 8,
  (.cons (.asg (.name 3) (.bi .list (.cons (.sl (.var 0) .no (.of (.var 1))) .nil)))
  (.cons (.asg (.name 4) (.bin .mul (.lit (.int 168)) (.var 2)))
  (.cons (.forr (.name 5) (.of (.sl (.var 0) (.of (.var 1)) .no)) [5]
    (.cons (.ite (.cmp .eq (.ix (.var 5) (.lit (.int 0))) (.lit (.str "turn")))
      (.cons (.asg (.name 6) (.ix (.var 5) (.lit (.int 3))))
      (.cons (.ite (.cmp .eq (.ix (.var 6) (.lit (.int 0))) (.lit (.str "till")))
        (.cons (.asg (.name 6) (.tup (.cons (.lit (.str "till")) (.cons (.bin .add (.ix (.var 6) (.lit (.int 1))) (.var 4)) .nil)))) .nil)
        .nil)
      (.cons (.expr (.bm .append (.var 3) (.cons (.tup (.cons (.lit (.str "turn")) (.cons (.ix (.var 5) (.lit (.int 1))) (.cons (.ix (.var 5) (.lit (.int 2))) (.cons (.var 6) (.cons (.bin .add (.ix (.var 5) (.lit (.int 4))) (.var 4)) .nil)))))) .nil))) .nil)))
      (.cons (.ite (.cmp .eq (.ix (.var 5) (.lit (.int 0))) (.lit (.str "away")))
        (.cons (.asg (.name 7) (.ix (.var 5) (.lit (.int 2))))
        (.cons (.ite (.notN (.var 7))
          (.cons (.asg (.name 7) (.bin .add (.var 7) (.var 4))) .nil)
          .nil)
        (.cons (.expr (.bm .append (.var 3) (.cons (.tup (.cons (.lit (.str "away")) (.cons (.bin .add (.ix (.var 5) (.lit (.int 1))) (.var 4)) (.cons (.var 7) (.cons (.ix (.var 5) (.lit (.int 3))) (.cons (.bin .add (.ix (.var 5) (.lit (.int 4))) (.var 4)) .nil)))))) .nil))) .nil)))
        (.cons (.expr (.bm .append (.var 3) (.cons (.bin .add (.sl (.var 5) .no (.of (.neg (.lit (.int 1))))) (.tup (.cons (.bin .add (.ix (.var 5) (.neg (.lit (.int 1)))) (.var 4)) .nil))) .nil))) .nil)) .nil)) .nil))
  (.cons (.ret (.var 3)) .nil))))⟩
/-! 121: law_refused -/
/-- 0=_law_one 1=_law_two 2=_law_told -/
def f_law_refused : FDef := ⟨2, 3,
  (.cons (.asg (.name 2) (.lst (.cons (.lit (.bl false)) (.cons (.lit (.bl false)) .nil))))
  (.cons (.tryx
    (.cons (.expr (.call 47 (.cons (.var 0) (.cons (.var 1) (.cons (.lit (.int 0)) .nil))))) .nil)
    [(12, [.sub 2 0 (.bl true)])])
  (.cons (.tryx
    (.cons (.expr (.call 48 (.cons (.var 0) (.cons (.var 1) .nil)))) .nil)
    [(12, [.sub 2 1 (.bl true)])])
  (.cons (.ret (.var 2)) .nil))))⟩
/-! 122: law_like -/
/-- 0=_law_actual 1=_law_due 2=_law_k -/
def f_law_like : FDef := ⟨2, 3,
  (.cons (.ite (.isN (.var 1))
    (.cons (.ret (.isN (.var 0))) .nil)
    .nil)
  (.cons (.ite (.of (.isi "bool" (.var 1)))
    (.cons (.ret (.and (.isi "bool" (.var 0)) (.cmp .eq (.var 0) (.var 1)))) .nil)
    .nil)
  (.cons (.ite (.of (.isi "int" (.var 1)))
    (.cons (.ret (.and (.isi "int" (.var 0)) (.and (.nt (.isi "bool" (.var 0))) (.cmp .eq (.var 0) (.var 1))))) .nil)
    .nil)
  (.cons (.ite (.of (.isi "str" (.var 1)))
    (.cons (.ret (.and (.isi "str" (.var 0)) (.cmp .eq (.var 0) (.var 1)))) .nil)
    .nil)
  (.cons (.ite (.of (.isi "tuple" (.var 1)))
    (.cons (.ite (.or (.nt (.of (.isi "tuple" (.var 0)))) (.cmp .ne (.bi .len (.cons (.var 0) .nil)) (.bi .len (.cons (.var 1) .nil))))
      (.cons (.ret (.lit (.bl false))) .nil)
      .nil) .nil)
    (.cons (.ite (.or (.nt (.of (.isi "list" (.var 0)))) (.cmp .ne (.bi .len (.cons (.var 0) .nil)) (.bi .len (.cons (.var 1) .nil))))
      (.cons (.ret (.lit (.bl false))) .nil)
      .nil) .nil))
  (.cons (.forr (.name 2) (.rng1 (.bi .len (.cons (.var 1) .nil))) [2]
    (.cons (.ite (.nt (.of (.call 122 (.cons (.ix (.var 0) (.var 2)) (.cons (.ix (.var 1) (.var 2)) .nil)))))
      (.cons (.ret (.lit (.bl false))) .nil)
      .nil) .nil))
  (.cons (.ret (.lit (.bl true))) .nil)))))))⟩
/-! 123: law_made_2 -/
/-- 0=_law_rooms 1=_law_order 2=_law_log_here 3=_law_made_here -/
def f_law_made_2 : FDef := ⟨3, 4,
  (.cons (.asg (.name 3) (.lit .non))
  (.cons (.tryx
    (.cons (.asg (.name 3) (.call 35 (.cons (.var 0) (.cons (.var 1) (.cons (.var 2) .nil))))) .nil)
    [(0, [.lit 3 .non])])
  (.cons (.ret (.var 3)) .nil)))⟩
/-! 124: law_undo -/
/-- 0=_law_house 1=_law_told -/
def f_law_undo : FDef := ⟨1, 2,
  (.cons (.asg (.name 1) (.lit (.bl true)))
  (.cons (.tryx
    (.cons (.expr (.meth 0 72 (.var 0) .nil)) .nil)
    [(11, [.lit 1 (.bl false)])])
  (.cons (.ret (.var 1)) .nil)))⟩
/-! 125: law_take_2 -/
/-- 0=_law_state 1=_law_deed 2=_law_number -/
def f_law_take_2 : FDef := ⟨3, 3,
  (.cons (.ite (.cmp .eq (.ix (.var 1) (.lit (.int 0))) (.lit (.str "plan")))
    (.cons (.setIx (.ixd (.var 0) (.lit (.str "plans"))) (.ix (.var 1) (.lit (.int 1))) (.ix (.var 1) (.lit (.int 2)))) .nil)
    (.cons (.ite (.cmp .eq (.ix (.var 1) (.lit (.int 0))) (.lit (.str "turn")))
      (.cons (.setIx (.ixd (.var 0) (.lit (.str "turns"))) (.ix (.var 1) (.lit (.int 1))) (.tup (.cons (.var 2) (.cons (.ix (.var 1) (.lit (.int 2))) (.cons (.ix (.var 1) (.lit (.int 3))) (.cons (.ix (.var 1) (.lit (.int 4))) .nil)))))) .nil)
      (.cons (.ite (.cmp .eq (.ix (.var 1) (.lit (.int 0))) (.lit (.str "back")))
        (.cons (.setIx (.ixd (.var 0) (.lit (.str "turns"))) (.ix (.var 1) (.lit (.int 1))) (.lit .non)) .nil)
        (.cons (.ite (.cmp .eq (.ix (.var 1) (.lit (.int 0))) (.lit (.str "away")))
          (.cons (.setIx (.var 0) (.lit (.str "away")) (.tup (.cons (.var 2) (.cons (.ix (.var 1) (.lit (.int 1))) (.cons (.ix (.var 1) (.lit (.int 2))) (.cons (.ix (.var 1) (.lit (.int 3))) .nil)))))) .nil)
          (.cons (.ite (.cmp .eq (.ix (.var 1) (.lit (.int 0))) (.lit (.str "home")))
            (.cons (.setIx (.var 0) (.lit (.str "away")) (.lit .non)) .nil)
            (.cons (.ite (.isN (.ix (.var 1) (.lit (.int 2))))
              (.cons (.setIx (.ixd (.var 0) (.lit (.str "follows"))) (.ix (.var 1) (.lit (.int 1))) (.lit .non)) .nil)
              (.cons (.setIx (.ixd (.var 0) (.lit (.str "follows"))) (.ix (.var 1) (.lit (.int 1))) (.tup (.cons (.ix (.var 1) (.lit (.int 2))) (.cons (.ix (.var 1) (.lit (.int 3))) .nil)))) .nil)) .nil)) .nil)) .nil)) .nil)) .nil)) .nil)⟩
/-! 126: law_hours_2 -/
/-- 0=_law_rooms 1=_law_order 2=_law_log 3=_law_most 4=_law_state 5=_law_found 6=_law_at 7=_law_hour 8=_law_room -/
def f_law_hours_2 : FDef := ⟨4, 9,
  (.cons (.asg (.name 4) (.call 114 (.cons (.var 0) .nil)))
  (.cons (.asg (.name 5) (.lst .nil))
  (.cons (.asg (.name 6) (.lit (.int 0)))
  (.cons (.forr (.name 7) (.rng1 (.var 3)) [7]
    (.cons (.whil (.and (.cmp .lt (.var 6) (.bi .len (.cons (.var 2) .nil))) (.cmp .eq (.ix (.ix (.var 2) (.var 6)) (.neg (.lit (.int 1)))) (.var 7))) []
      (.cons (.expr (.call 125 (.cons (.var 4) (.cons (.ix (.var 2) (.var 6)) (.cons (.var 6) .nil)))))
      (.cons (.asg (.name 6) (.bin .add (.var 6) (.lit (.int 1)))) .nil)))
    (.cons (.expr (.call 116 (.cons (.var 4) (.cons (.var 7) .nil))))
    (.cons (.expr (.bm .append (.var 5) (.cons (.lc [("_law_room", 8)] (.call 117 (.cons (.var 4) (.cons (.var 1) (.cons (.var 8) (.cons (.var 7) .nil))))) (.name 8) (.rng1 (.var 0)) .no) .nil))) .nil))))
  (.cons (.ret (.var 5)) .nil)))))⟩
/-! 127: law_row_deed -/
/-- 0=_law_draws 1=_law_hour 2=_law_way -/
def f_law_row_deed : FDef := ⟨2, 3,
  (.cons (.asg (.name 2) (.call 91 (.cons (.var 0) (.cons (.lit (.int 8)) .nil))))
  (.cons (.ite (.cmp .le (.var 2) (.lit (.int 3)))
    (.cons (.ret (.tup (.cons (.lit (.str "turn")) (.cons (.call 91 (.cons (.var 0) (.cons (.lit (.int 4)) .nil))) (.cons (.call 93 (.cons (.var 0) (.cons (.var 1) .nil))) (.cons (.var 1) .nil)))))) .nil)
    .nil)
  (.cons (.ite (.cmp .eq (.var 2) (.lit (.int 4)))
    (.cons (.ret (.tup (.cons (.lit (.str "back")) (.cons (.var 1) .nil)))) .nil)
    .nil)
  (.cons (.ite (.cmp .eq (.var 2) (.lit (.int 5)))
    (.cons (.ret (.tup (.cons (.lit (.str "home")) (.cons (.var 1) .nil)))) .nil)
    .nil)
  (.cons (.ret (.call 94 (.cons (.var 0) (.cons (.var 1) .nil)))) .nil)))))⟩
/-! 128: law_row -/
/-- 0=_law_draws 1=_law_most 2=_law_found 3=_law_hour 4=_law_k 5=_law_deed 6=_law_part -/
def f_law_row : FDef := ⟨2, 7,
  (.cons (.asg (.name 2) (.lst .nil))
  (.cons (.asg (.name 3) (.call 91 (.cons (.var 0) (.cons (.lit (.int 20)) .nil))))
  (.cons (.forr (.name 4) (.rng1 (.call 91 (.cons (.var 0) (.cons (.bin .add (.var 1) (.lit (.int 1))) .nil)))) [4, 5]
    (.cons (.asg (.name 5) (.call 127 (.cons (.var 0) (.cons (.var 3) .nil))))
    (.cons (.ite (.and (.nt (.of (.bi .any (.cons (.lc [("_law_part", 6)] (.and (.isi "int" (.var 6)) (.cmp .gt (.var 6) (.lit (.int 400)))) (.name 6) (.of (.var 5)) .no) .nil)))) (.cmp .lt (.var 3) (.lit (.int 180))))
      (.cons (.expr (.bm .append (.var 2) (.cons (.var 5) .nil))) .nil)
      .nil)
    (.cons (.asg (.name 3) (.bin .add (.var 3) (.ix (.lst (.cons (.lit (.int 0)) (.cons (.lit (.int 0)) (.cons (.lit (.int 1)) (.cons (.lit (.int 9)) (.cons (.lit (.int 50)) .nil)))))) (.call 91 (.cons (.var 0) (.cons (.lit (.int 5)) .nil)))))) .nil))))
  (.cons (.ret (.var 2)) .nil))))⟩
/-! 129: law_near -/
/-- 0=_law_draws 1=_law_deeds 2=_law_found 3=_law_way 4=_law_at 5=_law_deed 6=_law_held -/
def f_law_near : FDef := ⟨2, 7,
  (.cons (.asg (.name 2) (.bi .list (.cons (.var 1) .nil)))
  (.cons (.asg (.name 3) (.call 91 (.cons (.var 0) (.cons (.lit (.int 4)) .nil))))
  (.cons (.asg (.name 4) (.call 91 (.cons (.var 0) (.cons (.bin .add (.bi .len (.cons (.var 2) .nil)) (.lit (.int 1))) .nil))))
  (.cons (.ite (.and (.cmp .eq (.var 3) (.lit (.int 0))) (.cmp .lt (.var 4) (.bi .len (.cons (.var 2) .nil))))
    (.cons (.expr (.bm .pop (.var 2) (.cons (.var 4) .nil))) .nil)
    (.cons (.ite (.and (.cmp .eq (.var 3) (.lit (.int 1))) (.cmp .lt (.var 4) (.bi .len (.cons (.var 2) .nil))))
      (.cons (.asg (.name 5) (.ix (.var 2) (.var 4)))
      (.cons (.ite (.cmp .eq (.ix (.var 5) (.lit (.int 0))) (.lit (.str "turn")))
        (.cons (.setIx (.var 2) (.var 4) (.tup (.cons (.lit (.str "turn")) (.cons (.ix (.var 5) (.lit (.int 1))) (.cons (.call 93 (.cons (.var 0) (.cons (.ix (.var 5) (.lit (.int 3))) .nil))) (.cons (.ix (.var 5) (.lit (.int 3))) .nil)))))) .nil)
        .nil) .nil))
      (.cons (.ite (.and (.cmp .eq (.var 3) (.lit (.int 2))) (.and (.cmp .lt (.bin .add (.var 4) (.lit (.int 1))) (.bi .len (.cons (.var 2) .nil))) (.cmp .eq (.ix (.ix (.var 2) (.var 4)) (.neg (.lit (.int 1)))) (.ix (.ix (.var 2) (.bin .add (.var 4) (.lit (.int 1)))) (.neg (.lit (.int 1)))))))
        (.cons (.asg (.name 6) (.bm .pop (.var 2) (.cons (.var 4) .nil)))
        (.cons (.expr (.bm .insert (.var 2) (.cons (.bin .add (.var 4) (.lit (.int 1))) (.cons (.var 6) .nil)))) .nil))
        .nil) .nil)) .nil))
  (.cons (.ret (.var 2)) .nil)))))⟩
/-! 130: law_until_good_2 -/
/-- 0=_law_until_here 1=_law_hour -/
def f_law_until_good_2 : FDef := ⟨2, 2,
  (.cons (.ite (.or (.cmp .eq (.var 0) (.tup (.cons (.lit (.str "next")) .nil))) (.cmp .eq (.var 0) (.tup (.cons (.lit (.str "hold")) .nil))))
    (.cons (.ret (.lit (.bl true))) .nil)
    .nil)
  (.cons (.ite (.or (.nt (.of (.isi "tuple" (.var 0)))) (.or (.cmp .ne (.bi .len (.cons (.var 0) .nil)) (.lit (.int 2))) (.cmp .ne (.ix (.var 0) (.lit (.int 0))) (.lit (.str "till")))))
    (.cons (.ret (.lit (.bl false))) .nil)
    .nil)
  (.cons (.ret (.call 103 (.cons (.ix (.var 0) (.lit (.int 1))) (.cons (.bin .add (.var 1) (.lit (.int 1))) (.cons (.lit (.int 400)) .nil))))) .nil)))⟩
/-! 131: law_good_2 -/
/-- 0=_law_deed 1=_law_now -/
def f_law_good_2 : FDef := ⟨2, 2,
  (.cons (.ite (.or (.nt (.of (.isi "tuple" (.var 0)))) (.or (.cmp .lt (.bi .len (.cons (.var 0) .nil)) (.lit (.int 2))) (.nt (.of (.call 103 (.cons (.ix (.var 0) (.neg (.lit (.int 1)))) (.cons (.var 1) (.cons (.lit (.int 400)) .nil))))))))
    (.cons (.ret (.lit (.bl false))) .nil)
    .nil)
  (.cons (.ite (.cmp .inn (.ix (.var 0) (.lit (.int 0))) (.tup (.cons (.lit (.str "back")) (.cons (.lit (.str "home")) .nil))))
    (.cons (.ret (.cmp .eq (.bi .len (.cons (.var 0) .nil)) (.lit (.int 2)))) .nil)
    .nil)
  (.cons (.ite (.cmp .eq (.ix (.var 0) (.lit (.int 0))) (.lit (.str "turn")))
    (.cons (.ret (.and (.cmp .eq (.bi .len (.cons (.var 0) .nil)) (.lit (.int 4))) (.and (.call 103 (.cons (.ix (.var 0) (.lit (.int 1))) (.cons (.lit (.int 0)) (.cons (.lit (.int 9)) .nil)))) (.call 130 (.cons (.ix (.var 0) (.lit (.int 2))) (.cons (.ix (.var 0) (.lit (.int 3))) .nil)))))) .nil)
    .nil)
  (.cons (.ite (.or (.cmp .ne (.ix (.var 0) (.lit (.int 0))) (.lit (.str "away"))) (.or (.cmp .ne (.bi .len (.cons (.var 0) .nil)) (.lit (.int 5))) (.or (.nt (.of (.call 103 (.cons (.ix (.var 0) (.lit (.int 3))) (.cons (.lit (.int 0)) (.cons (.lit (.int 9)) .nil)))))) (.nt (.of (.call 103 (.cons (.ix (.var 0) (.lit (.int 1))) (.cons (.ix (.var 0) (.lit (.int 4))) (.cons (.lit (.int 400)) .nil)))))))))
    (.cons (.ret (.lit (.bl false))) .nil)
    .nil)
  (.cons (.ret (.or (.isN (.ix (.var 0) (.lit (.int 2)))) (.call 103 (.cons (.ix (.var 0) (.lit (.int 2))) (.cons (.bin .add (.ix (.var 0) (.lit (.int 1))) (.lit (.int 1))) (.cons (.lit (.int 400)) .nil)))))) .nil)))))⟩
/-! 132: law_due_2 -/
/-- 0=_law_deeds 1=_law_now 2=_law_k -/
def f_law_due_2 : FDef := ⟨1, 3,
  (.cons (.ite (.cmp .gt (.bi .len (.cons (.var 0) .nil)) (.lit (.int 4)))
    (.cons (.ret (.tup (.cons (.lit (.str "deed")) (.cons (.lit (.int 4)) .nil)))) .nil)
    .nil)
  (.cons (.asg (.name 1) (.lit (.int 0)))
  (.cons (.forr (.name 2) (.rng1 (.bi .len (.cons (.var 0) .nil))) [2]
    (.cons (.ite (.nt (.of (.call 131 (.cons (.ix (.var 0) (.var 2)) (.cons (.var 1) .nil)))))
      (.cons (.ret (.tup (.cons (.lit (.str "deed")) (.cons (.var 2) .nil)))) .nil)
      .nil)
    (.cons (.asg (.name 1) (.ix (.ix (.var 0) (.var 2)) (.neg (.lit (.int 1))))) .nil)))
  (.cons (.ret (.tup (.cons (.lit (.str "good")) .nil))) .nil))))⟩
/-! 133: law_whole -/
/-- 0=_law_deeds 1=_law_plan_here 2=_law_found 3=_law_deed -/
def f_law_whole : FDef := ⟨2, 4,
  (.cons (.asg (.name 2) (.lst (.cons (.tup (.cons (.lit (.str "plan")) (.cons (.lit (.int 0)) (.cons (.var 1) (.cons (.lit (.int 0)) .nil))))) .nil)))
  (.cons (.forr (.name 3) (.of (.var 0)) [3]
    (.cons (.ite (.cmp .inn (.ix (.var 3) (.lit (.int 0))) (.tup (.cons (.lit (.str "turn")) (.cons (.lit (.str "back")) .nil))))
      (.cons (.expr (.bm .append (.var 2) (.cons (.bin .add (.tup (.cons (.ix (.var 3) (.lit (.int 0))) (.cons (.lit (.int 0)) .nil))) (.sl (.var 3) (.of (.lit (.int 1))) .no)) .nil))) .nil)
      (.cons (.expr (.bm .append (.var 2) (.cons (.var 3) .nil))) .nil)) .nil))
  (.cons (.ret (.var 2)) .nil)))⟩
/-! 134: law_refused_2 -/
/-- 0=_law_row_here 1=_law_order 2=_law_plan_here 3=_law_told -/
def f_law_refused_2 : FDef := ⟨3, 4,
  (.cons (.asg (.name 3) (.lit (.str "good")))
  (.cons (.tryx
    (.cons (.expr (.call 87 (.cons (.var 1) (.cons (.var 2) (.cons (.var 0) .nil))))) .nil)
    [(3, [.lit 3 (.str "order")]), (1, [.lit 3 (.str "plan")])])
  (.cons (.ret (.var 3)) .nil)))⟩
/-! 135: law_trial -/
/-- 0=_law_draws 1=_law_deeds 2=_law_hour -/
def f_law_trial : FDef := ⟨2, 3,
  (.cons (.ite (.or (.cmp .eq (.bi .len (.cons (.var 1) .nil)) (.lit (.int 0))) (.cmp .eq (.call 91 (.cons (.var 0) (.cons (.lit (.int 3)) .nil))) (.lit (.int 0))))
    (.cons (.ret (.call 92 (.cons (.var 0) .nil))) .nil)
    .nil)
  (.cons (.asg (.name 2) (.bin .sub (.bin .add (.ix (.ix (.var 1) (.call 91 (.cons (.var 0) (.cons (.bi .len (.cons (.var 1) .nil)) .nil)))) (.neg (.lit (.int 1)))) (.call 91 (.cons (.var 0) (.cons (.lit (.int 3)) .nil)))) (.lit (.int 1))))
  (.cons (.ret (.tup (.cons (.tup (.cons (.bin .mod (.var 2) (.lit (.int 168))) (.cons (.call 91 (.cons (.var 0) (.cons (.lit (.int 10)) .nil))) .nil))) .nil))) .nil)))⟩
/-! 136: law_refused_3 -/
/-- 0=_law_one 1=_law_two 2=_law_told -/
def f_law_refused_3 : FDef := ⟨2, 3,
  (.cons (.asg (.name 2) (.lit (.bl false)))
  (.cons (.tryx
    (.cons (.expr (.call 64 (.cons (.lit (.str "oldest")) (.cons (.var 0) (.cons (.var 1) .nil))))) .nil)
    [(3, [.lit 2 (.bl true)])])
  (.cons (.ret (.var 2)) .nil)))⟩
/-! 137: law_refused_4 -/
/-- 0=_law_row_here 1=_law_told -/
def f_law_refused_4 : FDef := ⟨1, 2,
  (.cons (.asg (.name 1) (.lst (.cons (.lit (.bl false)) (.cons (.lit (.bl false)) .nil))))
  (.cons (.tryx
    (.cons (.expr (.call 65 (.cons (.lit .non) (.cons (.var 0) .nil)))) .nil)
    [(3, [.sub 1 0 (.bl true)])])
  (.cons (.tryx
    (.cons (.expr (.call 66 (.cons (.lit (.str "late")) (.cons (.var 0) .nil)))) .nil)
    [(3, [.sub 1 1 (.bl true)])])
  (.cons (.ret (.var 1)) .nil))))⟩
/-! 138: law_word -/
/-- 0=_law_part 1=_law_one 2=_law_rows 3=_law_switch -/
def f_law_word : FDef := ⟨1, 4,
  (.cons (.ite (.isN (.var 0))
    (.cons (.ret (.lit (.str "-"))) .nil)
    .nil)
  (.cons (.ite (.and (.of (.isi "tuple" (.var 0))) (.and (.cmp .gt (.bi .len (.cons (.var 0) .nil)) (.lit (.int 0))) (.of (.isi "str" (.ix (.var 0) (.lit (.int 0)))))))
    (.cons (.ret (.bm .join (.lit (.str " ")) (.cons (.lc [("_law_one", 1)] (.bi .str (.cons (.var 1) .nil)) (.name 1) (.of (.var 0)) .no) .nil))) .nil)
    .nil)
  (.cons (.ite (.of (.isi "tuple" (.var 0)))
    (.cons (.asg (.name 2) (.lc [("_law_switch", 3)] (.bin .add (.bin .add (.bi .str (.cons (.ix (.var 3) (.lit (.int 0))) .nil)) (.lit (.str "="))) (.bi .str (.cons (.ix (.var 3) (.lit (.int 1))) .nil))) (.name 3) (.of (.var 0)) .no))
    (.cons (.ret (.ix (.lst (.cons (.bm .join (.lit (.str ",")) (.cons (.var 2) .nil)) (.cons (.lit (.str "-")) .nil))) (.bi .int (.cons (.cmp .eq (.bi .len (.cons (.var 2) .nil)) (.lit (.int 0))) .nil)))) .nil))
    .nil)
  (.cons (.ret (.bi .str (.cons (.var 0) .nil))) .nil))))⟩
/-! 139: law_line -/
/-- 0=_law_deed_here 1=_law_part -/
def f_law_line : FDef := ⟨1, 2,
  (.cons (.ret (.bm .join (.lit (.str " ")) (.cons (.bin .add (.lst (.cons (.ix (.var 0) (.lit (.int 0))) .nil)) (.lc [("_law_part", 1)] (.call 138 (.cons (.var 1) .nil)) (.name 1) (.of (.sl (.var 0) (.of (.lit (.int 1))) .no)) .no)) .nil))) .nil)⟩
/-! 140: law_lines -/
/-- 0=_law_rooms 1=_law_order 2=_law_log_here 3=_law_deed_here -/
def f_law_lines : FDef := ⟨3, 4,
  (.cons (.ret (.bin .add (.lst (.cons (.bin .add (.bin .add (.bin .add (.lit (.str "house ")) (.bi .str (.cons (.var 0) .nil))) (.lit (.str " "))) (.var 1)) .nil)) (.lc [("_law_deed_here", 3)] (.call 139 (.cons (.var 3) .nil)) (.name 3) (.of (.var 2)) .no))) .nil)⟩
/-! 141: law_told_4 -/
/-- 0=_law_lines_here 1=_law_told_here 2=e -/
def f_law_told_4 : FDef := ⟨1, 3,
  (.cons (.asg (.name 1) (.lit .non))
  (.cons (.tryAs
    (.cons (.asg (.name 1) (.call 81 (.cons (.bm .join (.lit (.str "\n")) (.cons (.var 0) .nil)) .nil))) .nil)
    14 2 [.pay 1 "line"])
  (.cons (.ret (.var 1)) .nil)))⟩
/-! 142: law_spoil -/
/-- 0=_law_draws 1=_law_lines_here 2=_law_at 3=_law_words 4=_law_where 5=_law_odd 6=_law_way 7=_law_held -/
def f_law_spoil : FDef := ⟨2, 8,
  (.cons (.asg (.name 2) (.call 91 (.cons (.var 0) (.cons (.bi .len (.cons (.var 1) .nil)) .nil))))
  (.cons (.asg (.name 3) (.bm .split (.ix (.var 1) (.var 2)) (.cons (.lit (.str " ")) .nil)))
  (.cons (.asg (.name 4) (.call 91 (.cons (.var 0) (.cons (.bi .len (.cons (.var 3) .nil)) .nil))))
  (.cons (.asg (.name 5) (.lst (.cons (.lit (.str "")) (.cons (.lit (.str "-")) (.cons (.lit (.str "0")) (.cons (.lit (.str "1")) (.cons (.lit (.str "10")) (.cons (.lit (.str "00")) (.cons (.lit (.str "-1")) (.cons (.lit (.str "next")) (.cons (.lit (.str "till")) (.cons (.lit (.str "hold")) (.cons (.lit (.str "3=4")) (.cons (.lit (.str "5=1,4=2")) (.cons (.lit (.str "167=9")) (.cons (.lit (.str "home")) (.cons (.lit (.str "999")) .nil)))))))))))))))))
  (.cons (.asg (.name 6) (.call 91 (.cons (.var 0) (.cons (.lit (.int 8)) .nil))))
  (.cons (.ite (.cmp .le (.var 6) (.lit (.int 1)))
    (.cons (.setIx (.var 3) (.var 4) (.ix (.var 5) (.call 91 (.cons (.var 0) (.cons (.bi .len (.cons (.var 5) .nil)) .nil))))) .nil)
    .nil)
  (.cons (.ite (.cmp .eq (.var 6) (.lit (.int 2)))
    (.cons (.expr (.bm .pop (.var 3) (.cons (.var 4) .nil))) .nil)
    .nil)
  (.cons (.ite (.cmp .eq (.var 6) (.lit (.int 3)))
    (.cons (.expr (.bm .insert (.var 3) (.cons (.var 4) (.cons (.ix (.var 5) (.call 91 (.cons (.var 0) (.cons (.bi .len (.cons (.var 5) .nil)) .nil)))) .nil)))) .nil)
    .nil)
  (.cons (.setIx (.var 1) (.var 2) (.bm .join (.lit (.str " ")) (.cons (.var 3) .nil)))
  (.cons (.ite (.cmp .eq (.var 6) (.lit (.int 4)))
    (.cons (.expr (.bm .insert (.var 1) (.cons (.var 2) (.cons (.ix (.lst (.cons (.lit (.str "")) (.cons (.lit (.str "home 0")) (.cons (.lit (.str "house 1 away")) (.cons (.lit (.str "back 0 9999")) (.cons (.lit (.str "turn 0 1 till 5 9")) .nil)))))) (.call 91 (.cons (.var 0) (.cons (.lit (.int 5)) .nil)))) .nil)))) .nil)
    .nil)
  (.cons (.ite (.cmp .eq (.var 6) (.lit (.int 5)))
    (.cons (.setIx (.var 1) (.var 2) (.bin .add (.ix (.var 1) (.var 2)) (.lit (.str " ")))) .nil)
    .nil)
  (.cons (.ite (.cmp .eq (.var 6) (.lit (.int 6)))
    (.cons (.asg (.name 7) (.bm .pop (.var 1) (.cons (.var 2) .nil)))
    (.cons (.expr (.bm .insert (.var 1) (.cons (.call 91 (.cons (.var 0) (.cons (.bin .add (.bi .len (.cons (.var 1) .nil)) (.lit (.int 1))) .nil))) (.cons (.var 7) .nil)))) .nil))
    .nil)
  (.cons (.ite (.and (.cmp .eq (.var 6) (.lit (.int 7))) (.cmp .gt (.bi .len (.cons (.var 1) .nil)) (.lit (.int 1))))
    (.cons (.expr (.bm .pop (.var 1) (.cons (.var 2) .nil))) .nil)
    .nil) .nil)))))))))))))⟩
/-! 143: law_new_2 -/
/-- 0=_law_value 1=_law_order -/
def f_law_new_2 : FDef := ⟨2, 2,
  (.cons (.ite (.isN (.var 0))
    (.cons (.ret (.lit .non)) .nil)
    .nil)
  (.cons (.ret (.ix (.var 1) (.var 0))) .nil))⟩
/-! 144: law_changed -/
/-- 0=_law_deed_here 1=_law_order 2=_law_switch -/
def f_law_changed : FDef := ⟨2, 3,
  (.cons (.ite (.cmp .eq (.ix (.var 0) (.lit (.int 0))) (.lit (.str "plan")))
    (.cons (.ret (.tup (.cons (.lit (.str "plan")) (.cons (.ix (.var 0) (.lit (.int 1))) (.cons (.bi .tuple (.cons (.lc [("_law_switch", 2)] (.tup (.cons (.ix (.var 2) (.lit (.int 0))) (.cons (.ix (.var 1) (.ix (.var 2) (.lit (.int 1)))) .nil))) (.name 2) (.of (.ix (.var 0) (.lit (.int 2)))) .no) .nil)) (.cons (.ix (.var 0) (.lit (.int 3))) .nil)))))) .nil)
    .nil)
  (.cons (.ite (.cmp .eq (.ix (.var 0) (.lit (.int 0))) (.lit (.str "turn")))
    (.cons (.ret (.tup (.cons (.lit (.str "turn")) (.cons (.ix (.var 0) (.lit (.int 1))) (.cons (.ix (.var 1) (.ix (.var 0) (.lit (.int 2)))) (.cons (.ix (.var 0) (.lit (.int 3))) (.cons (.ix (.var 0) (.lit (.int 4))) .nil))))))) .nil)
    .nil)
  (.cons (.ite (.cmp .eq (.ix (.var 0) (.lit (.int 0))) (.lit (.str "away")))
    (.cons (.ret (.bin .add (.sl (.var 0) .no (.of (.lit (.int 3)))) (.tup (.cons (.ix (.var 1) (.ix (.var 0) (.lit (.int 3)))) (.cons (.ix (.var 0) (.lit (.int 4))) .nil))))) .nil)
    .nil)
  (.cons (.ret (.var 0)) .nil))))⟩
/-! 145: law_first -/
/-- 0=_law_at 1=_law_house -/
def f_law_first : FDef := ⟨2, 2,
  (.cons (.ite (.cmp .eq (.var 0) (.lit (.int 0)))
    (.cons (.expr (.call 7 (.cons (.lit .non) .nil))) .nil)
    .nil)
  (.cons (.ite (.cmp .eq (.var 0) (.lit (.int 1)))
    (.cons (.expr (.make 0 19 (.cons (.lit (.int 4)) (.cons (.lit (.str "newest")) .nil)))) .nil)
    .nil)
  (.cons (.ite (.cmp .eq (.var 0) (.lit (.int 2)))
    (.cons (.expr (.make 0 19 (.cons (.lit (.int 1)) (.cons (.lit (.str "late")) .nil)))) .nil)
    .nil)
  (.cons (.ite (.cmp .eq (.var 0) (.lit (.int 3)))
    (.cons (.expr (.meth 0 25 (.var 1) (.cons (.lit (.int 2)) (.cons (.lit (.int 0)) .nil)))) .nil)
    .nil)
  (.cons (.ite (.cmp .eq (.var 0) (.lit (.int 4)))
    (.cons (.expr (.meth 0 27 (.var 1) (.cons (.neg (.lit (.int 1))) .nil))) .nil)
    .nil)
  (.cons (.ite (.cmp .eq (.var 0) (.lit (.int 5)))
    (.cons (.expr (.meth 0 24 (.var 1) (.cons (.lit (.int 0)) (.cons (.lit (.int 10)) (.cons (.tup (.cons (.lit (.str "hold")) .nil)) (.cons (.lit (.int 0)) .nil)))))) .nil)
    .nil)
  (.cons (.ite (.cmp .eq (.var 0) (.lit (.int 6)))
    (.cons (.expr (.meth 0 24 (.var 1) (.cons (.lit (.int 0)) (.cons (.lit (.int 1)) (.cons (.tup (.cons (.lit (.str "late")) .nil)) (.cons (.lit (.int 0)) .nil)))))) .nil)
    .nil) .nil)))))))⟩
/-! 146: law_second -/
/-- 0=_law_at 1=_law_house -/
def f_law_second : FDef := ⟨2, 2,
  (.cons (.ite (.cmp .eq (.var 0) (.lit (.int 7)))
    (.cons (.expr (.meth 0 26 (.var 1) (.cons (.lit (.int 5)) (.cons (.lit (.int 5)) (.cons (.lit (.int 1)) (.cons (.lit (.int 0)) .nil)))))) .nil)
    .nil)
  (.cons (.ite (.cmp .eq (.var 0) (.lit (.int 8)))
    (.cons (.expr (.meth 0 28 (.var 1) (.cons (.lit (.int 0)) (.cons (.lit (.int 1)) (.cons (.lit (.int 10)) (.cons (.lit (.int 0)) .nil)))))) .nil)
    .nil)
  (.cons (.ite (.cmp .eq (.var 0) (.lit (.int 9)))
    (.cons (.expr (.meth 0 28 (.var 1) (.cons (.lit (.int 0)) (.cons (.lit (.int 0)) (.cons (.lit (.int 1)) (.cons (.lit (.int 0)) .nil)))))) .nil)
    .nil)
  (.cons (.ite (.cmp .eq (.var 0) (.lit (.int 10)))
    (.cons (.expr (.meth 0 72 (.var 1) .nil)) .nil)
    .nil)
  (.cons (.ite (.cmp .eq (.var 0) (.lit (.int 11)))
    (.cons (.expr (.call 48 (.cons (.var 1) (.cons (.make 0 19 (.cons (.lit (.int 1)) (.cons (.lit (.str "newest")) .nil))) .nil)))) .nil)
    .nil)
  (.cons (.ite (.cmp .eq (.var 0) (.lit (.int 12)))
    (.cons (.expr (.make 1 58 (.cons (.lst (.cons (.tup (.cons (.lit (.str "loop")) .nil)) .nil)) .nil))) .nil)
    .nil)
  (.cons (.ite (.cmp .eq (.var 0) (.lit (.int 13)))
    (.cons (.expr (.call 81 (.cons (.lit (.str "")) .nil))) .nil)
    .nil) .nil)))))))⟩
/-! 147: law_kinds -/
/-- 0=_law_e 1=_law_told -/
def f_law_kinds : FDef := ⟨1, 2,
  (.cons (.asg (.name 1) (.lst (.cons .bad (.cons .bad (.cons .bad (.cons .bad .nil))))))
  (.cons (.asg (.name 1) (.bin .add (.var 1) (.lst (.cons .bad (.cons .bad (.cons .bad (.cons .bad .nil)))))))
  (.cons (.asg (.name 1) (.bin .add (.var 1) (.lst (.cons .bad (.cons .bad (.cons .bad .nil))))))
  (.cons (.asg (.name 1) (.bin .add (.var 1) (.lst (.cons .bad (.cons .bad (.cons .bad .nil))))))
  (.cons (.ret (.bin .add (.var 1) (.lst (.cons .bad .nil)))) .nil)))))⟩
/-! 148: law_row_2 -/
/-- 0=_law_draws 1=_law_most 2=_law_found 3=_law_hour 4=_law_k 5=_law_deed_here 6=_law_part -/
def f_law_row_2 : FDef := ⟨2, 7,
  (.cons (.asg (.name 2) (.lst .nil))
  (.cons (.asg (.name 3) (.call 91 (.cons (.var 0) (.cons (.lit (.int 20)) .nil))))
  (.cons (.forr (.name 4) (.rng1 (.call 91 (.cons (.var 0) (.cons (.bin .add (.var 1) (.lit (.int 1))) .nil)))) [4, 5]
    (.cons (.asg (.name 5) (.call 127 (.cons (.var 0) (.cons (.var 3) .nil))))
    (.cons (.ite (.and (.nt (.of (.bi .any (.cons (.lc [("_law_part", 6)] (.and (.isi "int" (.var 6)) (.cmp .gt (.var 6) (.lit (.int 400)))) (.name 6) (.of (.var 5)) .no) .nil)))) (.cmp .lt (.var 3) (.lit (.int 180))))
      (.cons (.expr (.bm .append (.var 2) (.cons (.var 5) .nil))) .nil)
      .nil)
    (.cons (.asg (.name 3) (.bin .add (.var 3) (.ix (.lst (.cons (.lit (.int 0)) (.cons (.lit (.int 0)) (.cons (.lit (.int 1)) (.cons (.lit (.int 9)) (.cons (.lit (.int 50)) .nil)))))) (.call 91 (.cons (.var 0) (.cons (.lit (.int 5)) .nil)))))) .nil))))
  (.cons (.ret (.var 2)) .nil))))⟩
/-! 149: law_near_2 -/
/-- 0=_law_draws 1=_law_deeds 2=_law_found 3=_law_way 4=_law_at 5=_law_deed_here 6=_law_held -/
def f_law_near_2 : FDef := ⟨2, 7,
  (.cons (.asg (.name 2) (.bi .list (.cons (.var 1) .nil)))
  (.cons (.asg (.name 3) (.call 91 (.cons (.var 0) (.cons (.lit (.int 4)) .nil))))
  (.cons (.asg (.name 4) (.call 91 (.cons (.var 0) (.cons (.bin .add (.bi .len (.cons (.var 2) .nil)) (.lit (.int 1))) .nil))))
  (.cons (.ite (.and (.cmp .eq (.var 3) (.lit (.int 0))) (.cmp .lt (.var 4) (.bi .len (.cons (.var 2) .nil))))
    (.cons (.expr (.bm .pop (.var 2) (.cons (.var 4) .nil))) .nil)
    (.cons (.ite (.and (.cmp .eq (.var 3) (.lit (.int 1))) (.cmp .lt (.var 4) (.bi .len (.cons (.var 2) .nil))))
      (.cons (.asg (.name 5) (.ix (.var 2) (.var 4)))
      (.cons (.ite (.cmp .eq (.ix (.var 5) (.lit (.int 0))) (.lit (.str "turn")))
        (.cons (.setIx (.var 2) (.var 4) (.tup (.cons (.lit (.str "turn")) (.cons (.ix (.var 5) (.lit (.int 1))) (.cons (.call 93 (.cons (.var 0) (.cons (.ix (.var 5) (.lit (.int 3))) .nil))) (.cons (.ix (.var 5) (.lit (.int 3))) .nil)))))) .nil)
        .nil) .nil))
      (.cons (.ite (.and (.cmp .eq (.var 3) (.lit (.int 2))) (.and (.cmp .lt (.bin .add (.var 4) (.lit (.int 1))) (.bi .len (.cons (.var 2) .nil))) (.cmp .eq (.ix (.ix (.var 2) (.var 4)) (.neg (.lit (.int 1)))) (.ix (.ix (.var 2) (.bin .add (.var 4) (.lit (.int 1)))) (.neg (.lit (.int 1)))))))
        (.cons (.asg (.name 6) (.bm .pop (.var 2) (.cons (.var 4) .nil)))
        (.cons (.expr (.bm .insert (.var 2) (.cons (.bin .add (.var 4) (.lit (.int 1))) (.cons (.var 6) .nil)))) .nil))
        .nil) .nil)) .nil))
  (.cons (.ret (.var 2)) .nil)))))⟩
/-! 150: law_every -/
/-- 0=_law_house 1=_law_other 2=_law_one 3=_law_two 4=_law_found -/
def f_law_every : FDef := ⟨4, 5,
  (.cons (.asg (.name 4) (.lst (.cons (.call 42 (.cons (.var 0) (.cons (.lit (.int 0)) (.cons (.lit (.int 9)) .nil)))) (.cons (.call 43 (.cons (.var 0) (.cons (.lit (.int 0)) .nil))) (.cons (.call 45 (.cons (.var 0) (.cons (.lit (.int 0)) (.cons (.lit (.int 3)) (.cons (.lit (.int 0)) (.cons (.lit (.int 999)) .nil)))))) (.cons (.call 49 (.cons (.var 0) (.cons (.lit (.int 0)) .nil))) .nil))))))
  (.cons (.asg (.name 4) (.bin .add (.var 4) (.lst (.cons (.call 51 (.cons (.var 0) (.cons (.lit (.int 0)) .nil))) (.cons (.call 53 (.cons (.var 0) .nil)) (.cons (.call 70 (.cons (.var 0) .nil)) (.cons (.meth 0 30 (.var 0) .nil) (.cons (.prop 0 20 (.var 0)) (.cons (.meth 0 33 (.var 0) (.cons (.lit (.int 0)) (.cons (.lit (.int 77)) .nil))) .nil)))))))))
  (.cons (.ite (.cmp .eq (.fld "rooms" (.var 0)) (.fld "rooms" (.var 1)))
    (.cons (.expr (.bm .append (.var 4) (.cons (.call 47 (.cons (.var 0) (.cons (.var 1) (.cons (.lit (.int 5)) .nil)))) .nil))) .nil)
    .nil)
  (.cons (.ret (.bin .add (.var 4) (.lst (.cons (.call 64 (.cons (.lit (.str "newest")) (.cons (.var 2) (.cons (.var 3) .nil)))) (.cons (.call 65 (.cons (.lit (.str "away")) (.cons (.var 2) .nil))) (.cons (.call 66 (.cons (.lit (.str "away")) (.cons (.var 3) .nil))) .nil)))))) .nil))))⟩
/-! 151: law_copied -/
/-- 0=_law_value 1=_law_one -/
def f_law_copied : FDef := ⟨1, 2,
  (.cons (.ite (.of (.isi "list" (.var 0)))
    (.cons (.ret (.lc [("_law_one", 1)] (.var 1) (.name 1) (.of (.var 0)) .no)) .nil)
    .nil)
  (.cons (.ret (.var 0)) .nil))⟩
/-! 152: law_k01 -/
/-- 0=_law_script 1=_law_draws 2=_law_places 3=_law_k 4=_law_plan_here 5=_law_place 6=_law_odd 7=_law_value 8=_law_good_here 9=_law_told_here 10=_law_found 11=_law_switch 12=_law_hour -/
def f_law_k01 : FDef := ⟨1, 13,
  (.cons (.asg (.name 1) (.call 90 (.cons (.var 0) .nil)))
  (.cons (.asg (.name 2) (.bi .sorted (.cons (.bi .set (.cons (.lc [("_law_k", 3)] (.call 91 (.cons (.var 1) (.cons (.lit (.int 168)) .nil))) (.name 3) (.rng1 (.call 91 (.cons (.var 1) (.cons (.lit (.int 16)) .nil)))) .no) .nil)) .nil)))
  (.cons (.asg (.name 4) (.bi .tuple (.cons (.lc [("_law_place", 5)] (.tup (.cons (.var 5) (.cons (.call 91 (.cons (.var 1) (.cons (.lit (.int 3)) .nil))) .nil))) (.name 5) (.of (.var 2)) .no) .nil)))
  (.cons (.asg (.name 6) (.lst (.cons (.lit .non) (.cons (.lit (.int 5)) (.cons (.lst (.cons (.tup (.cons (.lit (.int 1)) (.cons (.lit (.int 1)) .nil))) .nil)) (.cons (.tup (.cons (.tup (.cons (.lit (.int 1)) (.cons (.lit (.int 1)) .nil))) (.cons (.tup (.cons (.lit (.int 1)) (.cons (.lit (.int 2)) .nil))) .nil))) (.cons (.tup (.cons (.tup (.cons (.lit (.int 2)) (.cons (.lit (.int 1)) .nil))) (.cons (.tup (.cons (.lit (.int 1)) (.cons (.lit (.int 2)) .nil))) .nil))) (.cons (.tup (.cons (.tup (.cons (.lit (.int 168)) (.cons (.lit (.int 1)) .nil))) .nil)) (.cons (.tup (.cons (.tup (.cons (.lit (.int 1)) (.cons (.lit (.int 10)) .nil))) .nil)) (.cons (.tup (.cons (.tup (.cons (.lit (.bl true)) (.cons (.lit (.int 1)) .nil))) .nil)) .nil))))))))))
  (.cons (.asg (.name 6) (.bin .add (.var 6) (.lst (.cons (.tup (.cons (.tup (.cons (.lit (.int 1)) .nil)) .nil)) (.cons (.tup (.cons (.lit (.int 1)) (.cons (.lit (.int 2)) .nil))) (.cons (.tup (.cons (.tup (.cons (.lit (.int 0)) (.cons (.lit .non) .nil))) .nil)) (.cons (.lit (.str "plan")) (.cons (.bi .tuple (.cons (.lc [("_law_k", 3)] (.tup (.cons (.var 3) (.cons (.bin .mod (.var 3) (.lit (.int 2))) .nil))) (.name 3) (.rng1 (.lit (.int 15))) .no) .nil)) .nil))))))))
  (.cons (.asg (.name 7) (.var 4))
  (.cons (.ite (.cmp .eq (.call 91 (.cons (.var 1) (.cons (.lit (.int 3)) .nil))) (.lit (.int 0)))
    (.cons (.asg (.name 7) (.ix (.var 6) (.call 91 (.cons (.var 1) (.cons (.bi .len (.cons (.var 6) .nil)) .nil))))) .nil)
    .nil)
  (.cons (.asg (.name 8) (.call 96 (.cons (.var 7) .nil)))
  (.cons (.asg (.name 9) (.call 3 (.cons (.var 7) .nil)))
  (.cons (.ite (.or (.nt (.of (.isi "bool" (.var 9)))) (.cmp .ne (.var 9) (.var 8)))
    (.cons (.ret (.lit (.bl false))) .nil)
    .nil)
  (.cons (.asg (.name 10) (.call 98 (.cons (.var 7) .nil)))
  (.cons (.ite (.nt (.of (.var 8)))
    (.cons (.ret (.cmp .eq (.var 10) (.lit (.str "bad")))) .nil)
    .nil)
  (.cons (.ite (.or (.nt (.of (.call 96 (.cons (.var 10) .nil)))) (.of (.bi .any (.cons (.lc [("_law_switch", 11)] (.cmp .nin (.var 11) (.var 7)) (.name 11) (.of (.var 10)) .no) .nil))))
    (.cons (.ret (.lit (.bl false))) .nil)
    .nil)
  (.cons (.ite (.of (.bi .any (.cons (.lc [("_law_hour", 12)] (.cmp .ne (.call 97 (.cons (.var 10) (.cons (.var 12) .nil))) (.call 97 (.cons (.var 7) (.cons (.var 12) .nil)))) (.name 12) (.rng1 (.lit (.int 168))) .no) .nil)))
    (.cons (.ret (.lit (.bl false))) .nil)
    .nil)
  (.cons (.ite (.cmp .eq (.bi .len (.cons (.var 10) .nil)) (.lit (.int 1)))
    (.cons (.ret (.and (.bi .all (.cons (.lc [("_law_switch", 11)] (.cmp .eq (.ix (.var 11) (.lit (.int 1))) (.ix (.ix (.var 7) (.lit (.int 0))) (.lit (.int 1)))) (.name 11) (.of (.var 7)) .no) .nil)) (.cmp .eq (.ix (.var 10) (.lit (.int 0))) (.ix (.var 7) (.lit (.int 0)))))) .nil)
    .nil)
  (.cons (.ret (.bi .all (.cons (.lc [("_law_k", 3)] (.cmp .ne (.ix (.ix (.var 10) (.var 3)) (.lit (.int 1))) (.ix (.ix (.var 10) (.bin .sub (.var 3) (.lit (.int 1)))) (.lit (.int 1)))) (.name 3) (.rng1 (.bi .len (.cons (.var 10) .nil))) .no) .nil))) .nil))))))))))))))))⟩
/-! 153: law_k02 -/
/-- 0=_law_script 1=_law_draws 2=_law_rooms 3=_law_order 4=_law_due_here 5=_law_log_here 6=_law_house 7=_law_k 8=_law_now 9=_law_deed_here 10=_law_one -/
def f_law_k02 : FDef := ⟨1, 11,
  (.cons (.asg (.name 1) (.call 90 (.cons (.var 0) .nil)))
  (.cons (.asg (.name 2) (.ix (.lst (.cons (.lit (.int 1)) (.cons (.lit (.int 2)) (.cons (.lit (.int 3)) (.cons (.lit (.int 0)) (.cons (.lit (.int 4)) (.cons (.lit (.bl true)) (.cons (.lit .non) .nil)))))))) (.call 91 (.cons (.var 1) (.cons (.lit (.int 7)) .nil)))))
  (.cons (.asg (.name 3) (.ix (.lst (.cons (.lit (.str "newest")) (.cons (.lit (.str "away")) (.cons (.lit (.str "oldest")) (.cons (.lit .non) (.cons (.lit (.int 5)) .nil)))))) (.call 91 (.cons (.var 1) (.cons (.lit (.int 5)) .nil)))))
  (.cons (.asg (.name 4) (.lit (.str "good")))
  (.cons (.ite (.cmp .nin (.var 3) (.lst (.cons (.lit (.str "newest")) (.cons (.lit (.str "away")) .nil))))
    (.cons (.asg (.name 4) (.lit (.str "order"))) .nil)
    .nil)
  (.cons (.ite (.nt (.of (.call 103 (.cons (.var 2) (.cons (.lit (.int 1)) (.cons (.lit (.int 3)) .nil))))))
    (.cons (.asg (.name 4) (.lit (.str "count"))) .nil)
    .nil)
  (.cons (.ite (.cmp .ne (.call 112 (.cons (.var 2) (.cons (.var 3) .nil))) (.var 4))
    (.cons (.ret (.lit (.bl false))) .nil)
    .nil)
  (.cons (.asg (.name 2) (.bin .add (.lit (.int 1)) (.call 91 (.cons (.var 1) (.cons (.lit (.int 3)) .nil)))))
  (.cons (.asg (.name 5) (.call 102 (.cons (.var 1) (.cons (.var 2) (.cons (.lit (.int 5)) .nil)))))
  (.cons (.asg (.name 6) (.call 35 (.cons (.var 2) (.cons (.lit (.str "newest")) (.cons (.var 5) .nil)))))
  (.cons (.forr (.name 7) (.rng1 (.lit (.int 10))) [7, 8, 9]
    (.cons (.asg (.name 8) (.prop 0 20 (.var 6)))
    (.cons (.asg (.name 9) (.call 111 (.cons (.var 1) (.cons (.call 99 (.cons (.var 1) (.cons (.var 2) (.cons (.bin .add (.var 8) (.call 91 (.cons (.var 1) (.cons (.lit (.int 3)) .nil)))) .nil)))) (.cons (.var 8) .nil)))))
    (.cons (.asg (.name 4) (.call 110 (.cons (.var 9) (.cons (.var 2) (.cons (.var 5) (.cons (.var 8) .nil))))))
    (.cons (.ite (.cmp .ne (.call 105 (.cons (.var 6) (.cons (.var 9) .nil))) (.var 4))
      (.cons (.ret (.lit (.bl false))) .nil)
      .nil)
    (.cons (.ite (.cmp .eq (.var 4) (.lit (.str "good")))
      (.cons (.asg (.name 5) (.bin .add (.var 5) (.lst (.cons (.var 9) .nil)))) .nil)
      .nil)
    (.cons (.ite (.or (.cmp .ne (.meth 0 30 (.var 6) .nil) (.var 5)) (.cmp .ne (.lenI 0 31 (.var 6)) (.bi .len (.cons (.var 5) .nil))))
      (.cons (.ret (.lit (.bl false))) .nil)
      .nil)
    (.cons (.ite (.cmp .ne (.prop 0 20 (.var 6)) (.ix (.bin .add (.lst (.cons (.lit (.int 0)) .nil)) (.lc [("_law_one", 10)] (.ix (.var 10) (.neg (.lit (.int 1)))) (.name 10) (.of (.var 5)) .no)) (.neg (.lit (.int 1)))))
      (.cons (.ret (.lit (.bl false))) .nil)
      .nil) .nil))))))))
  (.cons (.ret (.lit (.bl true))) .nil))))))))))))⟩
/-! 154: law_k03 -/
/-- 0=_law_script 1=_law_draws 2=_law_rooms 3=_law_order 4=_law_log_here 5=_law_house 6=_law_hours_here 7=_law_some 8=_law_deed_here 9=_law_hour 10=_law_k 11=_law_room -/
def f_law_k03 : FDef := ⟨1, 12,
  (.cons (.asg (.name 1) (.call 90 (.cons (.var 0) .nil)))
  (.cons (.asg (.name 2) (.bin .add (.lit (.int 1)) (.call 91 (.cons (.var 1) (.cons (.lit (.int 3)) .nil)))))
  (.cons (.asg (.name 3) (.ix (.lst (.cons (.lit (.str "newest")) (.cons (.lit (.str "away")) .nil))) (.call 91 (.cons (.var 1) (.cons (.lit (.int 2)) .nil)))))
  (.cons (.asg (.name 4) (.call 102 (.cons (.var 1) (.cons (.var 2) (.cons (.lit (.int 12)) .nil)))))
  (.cons (.asg (.name 5) (.call 35 (.cons (.var 2) (.cons (.var 3) (.cons (.var 4) .nil)))))
  (.cons (.asg (.name 6) (.call 118 (.cons (.var 2) (.cons (.var 3) (.cons (.var 4) (.cons (.lit (.int 700)) .nil))))))
  (.cons (.asg (.name 7) (.lc [("_law_deed_here", 8)] (.ix (.var 8) (.neg (.lit (.int 1)))) (.name 8) (.of (.var 4)) (.of (.cmp .lt (.ix (.var 8) (.neg (.lit (.int 1)))) (.lit (.int 700))))))
  (.cons (.forr (.name 9) (.of (.bin .add (.bin .add (.lrng3 (.lit (.int 0)) (.lit (.int 700)) (.lit (.int 5))) (.lc [("_law_k", 10)] (.call 91 (.cons (.var 1) (.cons (.lit (.int 700)) .nil))) (.name 10) (.rng1 (.lit (.int 60))) .no)) (.var 7))) [9]
    (.cons (.ite (.cmp .ne (.lc [("_law_room", 11)] (.meth 0 33 (.var 5) (.cons (.var 11) (.cons (.var 9) .nil))) (.name 11) (.rng1 (.var 2)) .no) (.ix (.var 6) (.var 9)))
      (.cons (.ret (.lit (.bl false))) .nil)
      .nil) .nil))
  (.cons (.ite (.cmp .ne (.call 119 (.cons (.var 5) (.cons (.ix (.lst (.cons (.var 2) (.cons (.neg (.lit (.int 1))) (.cons (.lit .non) (.cons (.lit (.bl true)) .nil))))) (.call 91 (.cons (.var 1) (.cons (.lit (.int 4)) .nil)))) (.cons (.neg (.lit (.int 1))) .nil)))) (.lit (.str "room")))
    (.cons (.ret (.lit (.bl false))) .nil)
    .nil)
  (.cons (.ret (.cmp .eq (.call 119 (.cons (.var 5) (.cons (.lit (.int 0)) (.cons (.ix (.lst (.cons (.neg (.lit (.int 1))) (.cons (.lit .non) (.cons (.lit (.bl true)) (.cons (.lit (.str "1")) .nil))))) (.call 91 (.cons (.var 1) (.cons (.lit (.int 4)) .nil)))) .nil)))) (.lit (.str "hour")))) .nil))))))))))⟩
/-! 155: law_k04 -/
/-- 0=_law_script 1=_law_draws 2=_law_rooms 3=_law_order 4=_law_log_here 5=_law_house 6=_law_weeks 7=_law_near 8=_law_other 9=_law_k 10=_law_hour 11=_law_early 12=_law_room 13=_law_value -/
def f_law_k04 : FDef := ⟨1, 14,
  (.cons (.asg (.name 1) (.call 90 (.cons (.var 0) .nil)))
  (.cons (.asg (.name 2) (.bin .add (.lit (.int 1)) (.call 91 (.cons (.var 1) (.cons (.lit (.int 3)) .nil)))))
  (.cons (.asg (.name 3) (.ix (.lst (.cons (.lit (.str "newest")) (.cons (.lit (.str "away")) .nil))) (.call 91 (.cons (.var 1) (.cons (.lit (.int 2)) .nil)))))
  (.cons (.asg (.name 4) (.call 102 (.cons (.var 1) (.cons (.var 2) (.cons (.lit (.int 10)) .nil)))))
  (.cons (.asg (.name 5) (.call 35 (.cons (.var 2) (.cons (.var 3) (.cons (.var 4) .nil)))))
  (.cons (.asg (.name 6) (.bin .mul (.bin .add (.lit (.int 1)) (.call 91 (.cons (.var 1) (.cons (.lit (.int 9)) .nil)))) (.ix (.lst (.cons (.lit (.int 1)) (.cons (.lit (.int 1000)) (.cons (.lit (.int 6000000000)) .nil)))) (.call 91 (.cons (.var 1) (.cons (.lit (.int 3)) .nil))))))
  (.cons (.asg (.name 7) (.bin .add (.lit (.int 1)) (.call 91 (.cons (.var 1) (.cons (.lit (.int 900)) .nil)))))
  (.cons (.asg (.name 8) (.call 35 (.cons (.var 2) (.cons (.var 3) (.cons (.call 120 (.cons (.var 4) (.cons (.var 2) (.cons (.var 7) .nil)))) .nil)))))
  (.cons (.forr (.name 9) (.rng1 (.lit (.int 20))) [9, 10, 11, 12]
    (.cons (.asg (.name 10) (.bin .add (.lit (.int 1800)) (.call 91 (.cons (.var 1) (.cons (.lit (.int 336)) .nil)))))
    (.cons (.asg (.name 11) (.call 91 (.cons (.var 1) (.cons (.lit (.int 900)) .nil))))
    (.cons (.forr (.name 12) (.rng1 (.var 2)) [12, 13]
      (.cons (.asg (.name 13) (.meth 0 33 (.var 5) (.cons (.var 12) (.cons (.var 10) .nil))))
      (.cons (.ite (.or (.cmp .ne (.meth 0 33 (.var 5) (.cons (.var 12) (.cons (.bin .add (.var 10) (.lit (.int 168))) .nil))) (.var 13)) (.cmp .ne (.meth 0 33 (.var 5) (.cons (.var 12) (.cons (.bin .add (.var 10) (.bin .mul (.lit (.int 168)) (.var 6))) .nil))) (.var 13)))
        (.cons (.ret (.lit (.bl false))) .nil)
        .nil)
      (.cons (.ite (.cmp .ne (.call 113 (.cons (.call 49 (.cons (.var 5) (.cons (.var 12) .nil))) (.cons (.var 10) .nil))) (.var 13))
        (.cons (.ret (.lit (.bl false))) .nil)
        .nil)
      (.cons (.ite (.cmp .ne (.meth 0 33 (.var 8) (.cons (.var 12) (.cons (.bin .add (.var 11) (.bin .mul (.lit (.int 168)) (.var 7))) .nil))) (.meth 0 33 (.var 5) (.cons (.var 12) (.cons (.var 11) .nil))))
        (.cons (.ret (.lit (.bl false))) .nil)
        .nil) .nil))))) .nil))))
  (.cons (.ret (.lit (.bl true))) .nil))))))))))⟩
/-! 156: law_k05 -/
/-- 0=_law_script 1=_law_draws 2=_law_rooms 3=_law_order 4=_law_log_here 5=_law_house 6=_law_hours_here 7=_law_room 8=_law_row 9=_law_hour 10=_law_changes 11=_law_k 12=_law_later 13=_law_one 14=_law_told 15=_law_due -/
def f_law_k05 : FDef := ⟨1, 16,
  (.cons (.asg (.name 1) (.call 90 (.cons (.var 0) .nil)))
  (.cons (.asg (.name 2) (.bin .add (.lit (.int 1)) (.call 91 (.cons (.var 1) (.cons (.lit (.int 2)) .nil)))))
  (.cons (.asg (.name 3) (.ix (.lst (.cons (.lit (.str "newest")) (.cons (.lit (.str "away")) .nil))) (.call 91 (.cons (.var 1) (.cons (.lit (.int 2)) .nil)))))
  (.cons (.asg (.name 4) (.call 102 (.cons (.var 1) (.cons (.var 2) (.cons (.lit (.int 9)) .nil)))))
  (.cons (.asg (.name 5) (.call 35 (.cons (.var 2) (.cons (.var 3) (.cons (.var 4) .nil)))))
  (.cons (.asg (.name 6) (.call 118 (.cons (.var 2) (.cons (.var 3) (.cons (.var 4) (.cons (.lit (.int 1600)) .nil))))))
  (.cons (.forr (.name 7) (.rng1 (.var 2)) [7, 8, 10, 11, 15]
    (.cons (.asg (.name 8) (.lc [("_law_hour", 9)] (.ix (.ix (.var 6) (.var 9)) (.var 7)) (.name 9) (.rng1 (.lit (.int 1600))) .no))
    (.cons (.asg (.name 10) (.lc [("_law_hour", 9)] (.var 9) (.name 9) (.rng2 (.lit (.int 1)) (.lit (.int 1600))) (.of (.cmp .ne (.ix (.var 8) (.var 9)) (.ix (.var 8) (.bin .sub (.var 9) (.lit (.int 1))))))))
    (.cons (.forr (.name 11) (.rng1 (.lit (.int 10))) [11, 12, 14]
      (.cons (.asg (.name 9) (.call 91 (.cons (.var 1) (.cons (.lit (.int 1300)) .nil))))
      (.cons (.asg (.name 12) (.lc [("_law_one", 13)] (.var 13) (.name 13) (.of (.var 10)) (.of (.cmp .gt (.var 13) (.var 9)))))
      (.cons (.asg (.name 14) (.call 42 (.cons (.var 5) (.cons (.var 7) (.cons (.var 9) .nil)))))
      (.cons (.ite (.and (.cmp .gt (.bi .len (.cons (.var 12) .nil)) (.lit (.int 0))) (.cmp .ne (.var 14) (.ix (.var 12) (.lit (.int 0)))))
        (.cons (.ret (.lit (.bl false))) .nil)
        .nil)
      (.cons (.ite (.and (.cmp .eq (.bi .len (.cons (.var 12) .nil)) (.lit (.int 0))) (.notN (.var 14)))
        (.cons (.ret (.lit (.bl false))) .nil)
        .nil) .nil))))))
    (.cons (.asg (.name 15) (.lit .non))
    (.cons (.ite (.cmp .gt (.bi .len (.cons (.var 10) .nil)) (.lit (.int 0)))
      (.cons (.asg (.name 15) (.ix (.var 10) (.neg (.lit (.int 1)))))
      (.cons (.ite (.cmp .gt (.var 15) (.bin .sub (.lit (.int 1600)) (.lit (.int 169))))
        (.cons (.asg (.name 15) (.lit (.str "never"))) .nil)
        .nil) .nil))
      .nil)
    (.cons (.ite (.cmp .ne (.call 43 (.cons (.var 5) (.cons (.var 7) .nil))) (.var 15))
      (.cons (.ret (.lit (.bl false))) .nil)
      .nil) .nil)))))))
  (.cons (.ret (.lit (.bl true))) .nil))))))))⟩
/-! 157: law_k06 -/
/-- 0=_law_script 1=_law_draws 2=_law_rooms 3=_law_order 4=_law_log_here 5=_law_house 6=_law_hours_here 7=_law_every 8=_law_room 9=_law_k 10=_law_begin_here 11=_law_end 12=_law_value 13=_law_due 14=_law_hour 15=_law_middle 16=_law_total 17=_law_first 18=_law_second 19=_law_week -/
def f_law_k06 : FDef := ⟨1, 20,
  (.cons (.asg (.name 1) (.call 90 (.cons (.var 0) .nil)))
  (.cons (.asg (.name 2) (.bin .add (.lit (.int 1)) (.call 91 (.cons (.var 1) (.cons (.lit (.int 2)) .nil)))))
  (.cons (.asg (.name 3) (.ix (.lst (.cons (.lit (.str "newest")) (.cons (.lit (.str "away")) .nil))) (.call 91 (.cons (.var 1) (.cons (.lit (.int 2)) .nil)))))
  (.cons (.asg (.name 4) (.call 102 (.cons (.var 1) (.cons (.var 2) (.cons (.lit (.int 10)) .nil)))))
  (.cons (.asg (.name 5) (.call 35 (.cons (.var 2) (.cons (.var 3) (.cons (.var 4) .nil)))))
  (.cons (.asg (.name 6) (.call 118 (.cons (.var 2) (.cons (.var 3) (.cons (.var 4) (.cons (.lit (.int 1600)) .nil))))))
  (.cons (.asg (.name 7) (.bin .add (.lst (.cons (.lit .non) .nil)) (.lrng1 (.lit (.int 10)))))
  (.cons (.forr (.name 8) (.rng1 (.var 2)) [8, 9, 15, 16]
    (.cons (.forr (.name 9) (.rng1 (.lit (.int 6))) [9, 13]
      (.cons (.asg (.name 10) (.call 91 (.cons (.var 1) (.cons (.lit (.int 1600)) .nil))))
      (.cons (.asg (.name 11) (.call 91 (.cons (.var 1) (.cons (.lit (.int 1600)) .nil))))
      (.cons (.asg (.name 12) (.ix (.ix (.var 6) (.var 10)) (.var 8)))
      (.cons (.asg (.name 13) (.bi .len (.cons (.lc [("_law_hour", 14)] (.var 14) (.name 14) (.rng2 (.var 10) (.var 11)) (.of (.cmp .eq (.ix (.ix (.var 6) (.var 14)) (.var 8)) (.var 12)))) .nil)))
      (.cons (.ite (.cmp .ne (.call 45 (.cons (.var 5) (.cons (.var 8) (.cons (.var 12) (.cons (.var 10) (.cons (.var 11) .nil)))))) (.var 13))
        (.cons (.ret (.lit (.bl false))) .nil)
        .nil) .nil))))))
    (.cons (.asg (.name 10) (.call 91 (.cons (.var 1) (.cons (.lit (.int 2000)) .nil))))
    (.cons (.asg (.name 15) (.bin .add (.bin .add (.var 10) (.bin .mul (.call 91 (.cons (.var 1) (.cons (.lit (.int 9)) .nil))) (.lit (.int 1000000000007)))) (.call 91 (.cons (.var 1) (.cons (.lit (.int 500)) .nil)))))
    (.cons (.asg (.name 11) (.bin .add (.bin .add (.var 15) (.bin .mul (.call 91 (.cons (.var 1) (.cons (.lit (.int 9)) .nil))) (.lit (.int 99999999999)))) (.call 91 (.cons (.var 1) (.cons (.lit (.int 500)) .nil)))))
    (.cons (.asg (.name 16) (.lit (.int 0)))
    (.cons (.forr (.name 12) (.of (.var 7)) [17, 18, 19]
      (.cons (.asg (.name 17) (.call 45 (.cons (.var 5) (.cons (.var 8) (.cons (.var 12) (.cons (.var 10) (.cons (.var 15) .nil)))))))
      (.cons (.asg (.name 18) (.call 45 (.cons (.var 5) (.cons (.var 8) (.cons (.var 12) (.cons (.var 15) (.cons (.var 11) .nil)))))))
      (.cons (.ite (.cmp .ne (.call 45 (.cons (.var 5) (.cons (.var 8) (.cons (.var 12) (.cons (.var 10) (.cons (.var 11) .nil)))))) (.bin .add (.var 17) (.var 18)))
        (.cons (.ret (.lit (.bl false))) .nil)
        .nil)
      (.cons (.asg (.name 16) (.bin .add (.bin .add (.var 16) (.var 17)) (.var 18)))
      (.cons (.asg (.name 19) (.call 45 (.cons (.var 5) (.cons (.var 8) (.cons (.var 12) (.cons (.lit (.int 2000)) (.cons (.lit (.int 2168)) .nil)))))))
      (.cons (.ite (.cmp .ne (.call 45 (.cons (.var 5) (.cons (.var 8) (.cons (.var 12) (.cons (.lit (.int 2000)) (.cons (.bin .add (.lit (.int 2000)) (.bin .mul (.lit (.int 168)) (.bin .pow (.lit (.int 10)) (.lit (.int 9))))) .nil)))))) (.bin .mul (.var 19) (.bin .pow (.lit (.int 10)) (.lit (.int 9)))))
        (.cons (.ret (.lit (.bl false))) .nil)
        .nil) .nil)))))))
    (.cons (.ite (.cmp .ne (.var 16) (.bin .sub (.var 11) (.var 10)))
      (.cons (.ret (.lit (.bl false))) .nil)
      .nil) .nil))))))))
  (.cons (.ret (.and (.cmp .eq (.call 45 (.cons (.var 5) (.cons (.lit (.int 0)) (.cons (.lit .non) (.cons (.lit (.int 5)) (.cons (.lit (.int 5)) .nil)))))) (.lit (.int 0))) (.cmp .eq (.call 45 (.cons (.var 5) (.cons (.lit (.int 0)) (.cons (.lit .non) (.cons (.lit (.int 9)) (.cons (.lit (.int 2)) .nil)))))) (.lit (.int 0))))) .nil)))))))))⟩
/-! 158: law_k07 -/
/-- 0=_law_script 1=_law_draws 2=_law_rooms 3=_law_order 4=_law_log_here 5=_law_other 6=_law_at 7=_law_second 8=_law_one 9=_law_two 10=_law_first 11=_law_later 12=_law_hour 13=_law_due 14=_law_room -/
def f_law_k07 : FDef := ⟨1, 15,
  (.cons (.asg (.name 1) (.call 90 (.cons (.var 0) .nil)))
  (.cons (.asg (.name 2) (.bin .add (.lit (.int 2)) (.call 91 (.cons (.var 1) (.cons (.lit (.int 2)) .nil)))))
  (.cons (.asg (.name 3) (.ix (.lst (.cons (.lit (.str "newest")) (.cons (.lit (.str "away")) .nil))) (.call 91 (.cons (.var 1) (.cons (.lit (.int 2)) .nil)))))
  (.cons (.asg (.name 4) (.call 102 (.cons (.var 1) (.cons (.var 2) (.cons (.lit (.int 8)) .nil)))))
  (.cons (.asg (.name 5) (.bi .list (.cons (.var 4) .nil)))
  (.cons (.asg (.name 6) (.bin .add (.var 2) (.call 91 (.cons (.var 1) (.cons (.bin .add (.bin .sub (.bi .len (.cons (.var 5) .nil)) (.var 2)) (.lit (.int 1))) .nil)))))
  (.cons (.ite (.and (.cmp .lt (.var 6) (.bi .len (.cons (.var 5) .nil))) (.cmp .ne (.ix (.ix (.var 5) (.var 6)) (.lit (.int 0))) (.lit (.str "follow"))))
    (.cons (.expr (.bm .pop (.var 5) (.cons (.var 6) .nil))) .nil)
    .nil)
  (.cons (.asg (.name 7) (.ix (.lst (.cons (.var 3) (.cons (.var 3) (.cons (.lit (.str "away")) .nil)))) (.call 91 (.cons (.var 1) (.cons (.lit (.int 3)) .nil)))))
  (.cons (.asg (.name 8) (.call 35 (.cons (.var 2) (.cons (.var 3) (.cons (.var 4) .nil)))))
  (.cons (.asg (.name 9) (.call 35 (.cons (.var 2) (.cons (.var 7) (.cons (.var 5) .nil)))))
  (.cons (.asg (.name 10) (.call 118 (.cons (.var 2) (.cons (.var 3) (.cons (.var 4) (.cons (.lit (.int 1600)) .nil))))))
  (.cons (.asg (.name 11) (.call 118 (.cons (.var 2) (.cons (.var 7) (.cons (.var 5) (.cons (.lit (.int 1600)) .nil))))))
  (.cons (.forr (.name 12) (.of (.lst (.cons (.lit (.int 0)) (.cons (.call 91 (.cons (.var 1) (.cons (.lit (.int 300)) .nil))) (.cons (.call 91 (.cons (.var 1) (.cons (.lit (.int 1200)) .nil))) .nil))))) [12, 13]
    (.cons (.asg (.name 13) (.lit .non))
    (.cons (.forr (.name 6) (.rng3 (.lit (.int 1599)) (.bin .sub (.var 12) (.lit (.int 1))) (.neg (.lit (.int 1)))) [14]
      (.cons (.forr (.name 14) (.rng3 (.bin .sub (.var 2) (.lit (.int 1))) (.neg (.lit (.int 1))) (.neg (.lit (.int 1)))) [14]
        (.cons (.ite (.cmp .ne (.ix (.ix (.var 10) (.var 6)) (.var 14)) (.ix (.ix (.var 11) (.var 6)) (.var 14)))
          (.cons (.asg (.name 13) (.tup (.cons (.var 6) (.cons (.var 14) .nil)))) .nil)
          .nil) .nil)) .nil))
    (.cons (.ite (.cmp .ne (.call 47 (.cons (.var 8) (.cons (.var 9) (.cons (.var 12) .nil)))) (.var 13))
      (.cons (.ret (.lit (.bl false))) .nil)
      .nil)
    (.cons (.ite (.and (.cmp .eq (.var 12) (.lit (.int 0))) (.cmp .ne (.call 48 (.cons (.var 8) (.cons (.var 9) .nil))) (.isN (.var 13))))
      (.cons (.ret (.lit (.bl false))) .nil)
      .nil)
    (.cons (.asg (.name 13) (.lit .non))
    (.cons (.forr (.name 6) (.rng3 (.lit (.int 1599)) (.bin .sub (.var 12) (.lit (.int 1))) (.neg (.lit (.int 1)))) []
      (.cons (.ite (.cmp .eq (.ix (.ix (.var 10) (.var 6)) (.lit (.int 0))) (.ix (.ix (.var 10) (.var 6)) (.lit (.int 1))))
        (.cons (.asg (.name 13) (.var 6)) .nil)
        .nil) .nil))
    (.cons (.ite (.cmp .ne (.call 85 (.cons (.var 8) (.cons (.lit (.int 0)) (.cons (.lit (.int 1)) (.cons (.var 12) .nil))))) (.var 13))
      (.cons (.ret (.lit (.bl false))) .nil)
      .nil) .nil))))))))
  (.cons (.ret (.cmp .eq (.call 121 (.cons (.var 8) (.cons (.call 35 (.cons (.lit (.int 1)) (.cons (.var 3) (.cons (.lst .nil) .nil)))) .nil))) (.lst (.cons (.lit (.bl true)) (.cons (.lit (.bl true)) .nil))))) .nil))))))))))))))⟩
/-! 159: law_k08 -/
/-- 0=_law_script 1=_law_draws 2=_law_rooms 3=_law_order 4=_law_log_here 5=_law_house 6=_law_hours_here 7=_law_room 8=_law_plan_here 9=_law_row 10=_law_hour 11=_law_value 12=_law_due 13=_law_wrong -/
def f_law_k08 : FDef := ⟨1, 14,
  (.cons (.asg (.name 1) (.call 90 (.cons (.var 0) .nil)))
  (.cons (.asg (.name 2) (.bin .add (.lit (.int 1)) (.call 91 (.cons (.var 1) (.cons (.lit (.int 3)) .nil)))))
  (.cons (.asg (.name 3) (.ix (.lst (.cons (.lit (.str "newest")) (.cons (.lit (.str "away")) .nil))) (.call 91 (.cons (.var 1) (.cons (.lit (.int 2)) .nil)))))
  (.cons (.asg (.name 4) (.call 102 (.cons (.var 1) (.cons (.var 2) (.cons (.lit (.int 10)) .nil)))))
  (.cons (.asg (.name 5) (.call 35 (.cons (.var 2) (.cons (.var 3) (.cons (.var 4) .nil)))))
  (.cons (.asg (.name 6) (.call 118 (.cons (.var 2) (.cons (.var 3) (.cons (.var 4) (.cons (.lit (.int 1700)) .nil))))))
  (.cons (.forr (.name 7) (.rng1 (.var 2)) [7, 8, 9, 13]
    (.cons (.asg (.name 8) (.call 49 (.cons (.var 5) (.cons (.var 7) .nil))))
    (.cons (.ite (.or (.nt (.of (.call 3 (.cons (.var 8) .nil)))) (.cmp .ne (.call 7 (.cons (.var 8) .nil)) (.var 8)))
      (.cons (.ret (.lit (.bl false))) .nil)
      .nil)
    (.cons (.asg (.name 9) (.lc [("_law_hour", 10)] (.ix (.ix (.var 6) (.var 10)) (.var 7)) (.name 10) (.rng1 (.lit (.int 1700))) .no))
    (.cons (.ite (.of (.bi .any (.cons (.lc [("_law_hour", 10)] (.cmp .ne (.ix (.var 9) (.var 10)) (.call 113 (.cons (.var 8) (.cons (.var 10) .nil)))) (.name 10) (.rng2 (.lit (.int 1500)) (.lit (.int 1700))) .no) .nil)))
      (.cons (.ret (.lit (.bl false))) .nil)
      .nil)
    (.cons (.ite (.cmp .eq (.bi .len (.cons (.bi .set (.cons (.lc [("_law_value", 11)] (.bi .str (.cons (.var 11) .nil)) (.name 11) (.of (.sl (.var 9) (.of (.lit (.int 1500))) (.of (.lit (.int 1700))))) .no) .nil)) .nil)) (.lit (.int 1)))
      (.cons (.asg (.name 12) (.tup .nil))
      (.cons (.ite (.notN (.ix (.var 9) (.lit (.int 1600))))
        (.cons (.asg (.name 12) (.tup (.cons (.tup (.cons (.lit (.int 0)) (.cons (.ix (.var 9) (.lit (.int 1600))) .nil))) .nil))) .nil)
        .nil)
      (.cons (.ite (.cmp .ne (.var 8) (.var 12))
        (.cons (.ret (.lit (.bl false))) .nil)
        .nil) .nil)))
      .nil)
    (.cons (.asg (.name 13) (.lc [("_law_hour", 10)] (.var 10) (.name 10) (.rng1 (.lit (.int 1700))) (.of (.cmp .ne (.ix (.var 9) (.var 10)) (.call 113 (.cons (.var 8) (.cons (.var 10) .nil)))))))
    (.cons (.ite (.cmp .ne (.call 51 (.cons (.var 5) (.cons (.var 7) .nil))) (.bin .add (.ix (.bin .add (.lst (.cons (.neg (.lit (.int 1))) .nil)) (.var 13)) (.neg (.lit (.int 1)))) (.lit (.int 1))))
      (.cons (.ret (.lit (.bl false))) .nil)
      .nil) .nil))))))))
  (.cons (.ret (.lit (.bl true))) .nil))))))))⟩
/-! 160: law_k09 -/
/-- 0=_law_script 1=_law_draws 2=_law_rooms 3=_law_order 4=_law_log_here 5=_law_house 6=_law_due 7=_law_k 8=_law_other -/
def f_law_k09 : FDef := ⟨1, 9,
  (.cons (.asg (.name 1) (.call 90 (.cons (.var 0) .nil)))
  (.cons (.asg (.name 2) (.bin .add (.lit (.int 1)) (.call 91 (.cons (.var 1) (.cons (.lit (.int 3)) .nil)))))
  (.cons (.asg (.name 3) (.ix (.lst (.cons (.lit (.str "newest")) (.cons (.lit (.str "away")) .nil))) (.call 91 (.cons (.var 1) (.cons (.lit (.int 2)) .nil)))))
  (.cons (.asg (.name 4) (.call 102 (.cons (.var 1) (.cons (.var 2) (.cons (.lit (.int 6)) .nil)))))
  (.cons (.asg (.name 5) (.call 35 (.cons (.var 2) (.cons (.var 3) (.cons (.var 4) .nil)))))
  (.cons (.asg (.name 6) (.lst .nil))
  (.cons (.forr (.name 7) (.rng1 (.bi .len (.cons (.var 4) .nil))) [7, 8]
    (.cons (.asg (.name 8) (.call 123 (.cons (.var 2) (.cons (.var 3) (.cons (.bin .add (.sl (.var 4) .no (.of (.var 7))) (.sl (.var 4) (.of (.bin .add (.var 7) (.lit (.int 1)))) .no)) .nil)))))
    (.cons (.ite (.and (.notN (.var 8)) (.of (.call 48 (.cons (.var 5) (.cons (.var 8) .nil)))))
      (.cons (.expr (.bm .append (.var 6) (.cons (.var 7) .nil))) .nil)
      .nil) .nil)))
  (.cons (.ret (.call 122 (.cons (.call 53 (.cons (.var 5) .nil)) (.cons (.var 6) .nil)))) .nil))))))))⟩
/-! 161: law_k10 -/
/-- 0=_law_script 1=_law_draws 2=_law_rooms 3=_law_order 4=_law_house 5=_law_log_here 6=_law_k 7=_law_hour 8=_law_deed_here 9=_law_hours_here 10=_law_j 11=_law_room -/
def f_law_k10 : FDef := ⟨1, 12,
  (.cons (.asg (.name 1) (.call 90 (.cons (.var 0) .nil)))
  (.cons (.asg (.name 2) (.bin .add (.lit (.int 1)) (.call 91 (.cons (.var 1) (.cons (.lit (.int 3)) .nil)))))
  (.cons (.asg (.name 3) (.ix (.lst (.cons (.lit (.str "newest")) (.cons (.lit (.str "away")) .nil))) (.call 91 (.cons (.var 1) (.cons (.lit (.int 2)) .nil)))))
  (.cons (.asg (.name 4) (.call 35 (.cons (.var 2) (.cons (.var 3) (.cons (.lst .nil) .nil)))))
  (.cons (.asg (.name 5) (.lst .nil))
  (.cons (.forr (.name 6) (.rng1 (.lit (.int 50))) []
    (.cons (.ite (.cmp .eq (.call 91 (.cons (.var 1) (.cons (.lit (.int 4)) .nil))) (.lit (.int 0)))
      (.cons (.ite (.cmp .ne (.call 124 (.cons (.var 4) .nil)) (.cmp .gt (.bi .len (.cons (.var 5) .nil)) (.lit (.int 0))))
        (.cons (.ret (.lit (.bl false))) .nil)
        .nil)
      (.cons (.asg (.name 5) (.sl (.var 5) .no (.of (.neg (.lit (.int 1)))))) .nil))
      (.cons (.asg (.name 7) (.bin .add (.ix (.bin .add (.lst (.cons (.lit (.int 0)) .nil)) (.lc [("_law_deed_here", 8)] (.ix (.var 8) (.neg (.lit (.int 1)))) (.name 8) (.of (.var 5)) .no)) (.neg (.lit (.int 1)))) (.ix (.lst (.cons (.lit (.int 0)) (.cons (.lit (.int 1)) (.cons (.lit (.int 5)) (.cons (.lit (.int 17)) .nil))))) (.call 91 (.cons (.var 1) (.cons (.lit (.int 4)) .nil))))))
      (.cons (.asg (.name 8) (.call 99 (.cons (.var 1) (.cons (.var 2) (.cons (.var 7) .nil)))))
      (.cons (.ite (.nt (.of (.call 101 (.cons (.var 5) (.cons (.var 8) .nil)))))
        (.cons (.expr (.call 104 (.cons (.var 4) (.cons (.var 8) .nil))))
        (.cons (.asg (.name 5) (.bin .add (.var 5) (.lst (.cons (.var 8) .nil)))) .nil))
        .nil) .nil))))
    (.cons (.ite (.or (.cmp .ne (.meth 0 30 (.var 4) .nil) (.var 5)) (.cmp .ne (.lenI 0 31 (.var 4)) (.bi .len (.cons (.var 5) .nil))))
      (.cons (.ret (.lit (.bl false))) .nil)
      .nil)
    (.cons (.ite (.cmp .ne (.prop 0 20 (.var 4)) (.ix (.bin .add (.lst (.cons (.lit (.int 0)) .nil)) (.lc [("_law_deed_here", 8)] (.ix (.var 8) (.neg (.lit (.int 1)))) (.name 8) (.of (.var 5)) .no)) (.neg (.lit (.int 1)))))
      (.cons (.ret (.lit (.bl false))) .nil)
      .nil)
    (.cons (.ite (.cmp .eq (.bin .mod (.var 6) (.lit (.int 7))) (.lit (.int 6)))
      (.cons (.asg (.name 9) (.call 118 (.cons (.var 2) (.cons (.var 3) (.cons (.var 5) (.cons (.bin .add (.prop 0 20 (.var 4)) (.lit (.int 60))) .nil))))))
      (.cons (.forr (.name 10) (.rng1 (.lit (.int 6))) [10]
        (.cons (.asg (.name 7) (.call 91 (.cons (.var 1) (.cons (.bin .add (.prop 0 20 (.var 4)) (.lit (.int 60))) .nil))))
        (.cons (.ite (.cmp .ne (.lc [("_law_room", 11)] (.meth 0 33 (.var 4) (.cons (.var 11) (.cons (.var 7) .nil))) (.name 11) (.rng1 (.var 2)) .no) (.ix (.var 9) (.var 7)))
          (.cons (.ret (.lit (.bl false))) .nil)
          .nil) .nil))) .nil))
      .nil) .nil)))))
  (.cons (.ite (.nt (.of (.call 48 (.cons (.var 4) (.cons (.call 35 (.cons (.var 2) (.cons (.var 3) (.cons (.meth 0 30 (.var 4) .nil) .nil)))) .nil)))))
    (.cons (.ret (.lit (.bl false))) .nil)
    .nil)
  (.cons (.forr (.name 6) (.rng1 (.bi .len (.cons (.var 5) .nil))) []
    (.cons (.ite (.nt (.of (.call 124 (.cons (.var 4) .nil))))
      (.cons (.ret (.lit (.bl false))) .nil)
      .nil) .nil))
  (.cons (.ret (.and (.nt (.call 124 (.cons (.var 4) .nil))) (.isN (.meth 0 33 (.var 4) (.cons (.lit (.int 0)) (.cons (.lit (.int 5)) .nil)))))) .nil)))))))))⟩
/-! 162: law_k11 -/
/-- 0=_law_script 1=_law_draws 2=_law_deeds 3=_law_odd 4=_law_k 5=_law_handed 6=_law_told 7=_law_row_here 8=e 9=_law_order 10=_law_plan_here 11=_law_house 12=_law_hours_here 13=_law_hour -/
def f_law_k11 : FDef := ⟨1, 14,
  (.cons (.asg (.name 1) (.call 90 (.cons (.var 0) .nil)))
  (.cons (.asg (.name 2) (.call 128 (.cons (.var 1) (.cons (.lit (.int 4)) .nil))))
  (.cons (.asg (.name 3) (.lst (.cons (.tup (.cons (.lit (.str "turn")) (.cons (.lit (.int 10)) (.cons (.tup (.cons (.lit (.str "next")) .nil)) (.cons (.lit (.int 20)) .nil))))) (.cons (.tup (.cons (.lit (.str "turn")) (.cons (.lit (.int 1)) (.cons (.tup (.cons (.lit (.str "till")) (.cons (.lit (.int 5)) .nil))) (.cons (.lit (.int 20)) .nil))))) (.cons (.tup (.cons (.lit (.str "back")) .nil)) (.cons (.tup (.cons (.lit (.str "home")) (.cons (.lit (.int 401)) .nil))) (.cons (.tup (.cons (.lit (.str "away")) (.cons (.lit (.int 5)) (.cons (.lit (.int 9)) (.cons (.lit (.int 1)) (.cons (.lit (.int 20)) .nil)))))) .nil)))))))
  (.cons (.asg (.name 3) (.bin .add (.var 3) (.lst (.cons (.tup (.cons (.lit (.str "away")) (.cons (.lit (.int 20)) (.cons (.lit (.int 20)) (.cons (.lit (.int 1)) (.cons (.lit (.int 20)) .nil)))))) (.cons (.tup (.cons (.lit (.str "turn")) (.cons (.lit (.int 1)) (.cons (.tup (.cons (.lit (.str "till")) (.cons (.lit (.int 401)) .nil))) (.cons (.lit (.int 20)) .nil))))) (.cons (.tup (.cons (.lit (.str "back")) (.cons (.lit (.bl true)) .nil))) (.cons (.tup (.cons (.lit (.str "plan")) (.cons (.tup .nil) (.cons (.lit (.int 3)) .nil)))) (.cons (.tup (.cons (.lit (.str "home")) (.cons (.neg (.lit (.int 1))) .nil))) .nil))))))))
  (.cons (.asg (.name 3) (.bin .add (.var 3) (.lst (.cons (.lit .non) (.cons (.tup .nil) (.cons (.tup (.cons (.lit (.str "away")) (.cons (.lit (.int 20)) (.cons (.lit (.int 401)) (.cons (.lit (.int 1)) (.cons (.lit (.int 20)) .nil)))))) .nil))))))
  (.cons (.asg (.name 3) (.bin .add (.var 3) (.lst (.cons (.tup (.cons (.lit (.str "away")) (.cons (.lit (.int 400)) (.cons (.lit .non) (.cons (.lit (.int 9)) (.cons (.lit (.int 20)) .nil)))))) (.cons (.tup (.cons (.lit (.str "turn")) (.cons (.lit (.int 1)) (.cons (.tup (.cons (.lit (.str "hold")) .nil)) (.cons (.lit (.int 20)) .nil))))) (.cons (.lst (.cons (.lit (.str "home")) (.cons (.lit (.int 3)) .nil))) (.cons (.tup (.cons (.lit (.str "home")) (.cons (.lit (.int 20)) .nil))) (.cons (.tup (.cons (.lit (.str "home")) (.cons (.lit (.int 0)) .nil))) .nil))))))))
  (.cons (.forr (.name 4) (.rng1 (.call 91 (.cons (.var 1) (.cons (.lit (.int 3)) .nil)))) []
    (.cons (.expr (.bm .insert (.var 2) (.cons (.call 91 (.cons (.var 1) (.cons (.bin .add (.bi .len (.cons (.var 2) .nil)) (.lit (.int 1))) .nil))) (.cons (.ix (.var 3) (.call 91 (.cons (.var 1) (.cons (.bi .len (.cons (.var 3) .nil)) .nil)))) .nil)))) .nil))
  (.cons (.asg (.name 5) (.bi .list (.cons (.var 2) .nil)))
  (.cons (.asg (.name 6) (.tup (.cons (.lit (.str "good")) .nil)))
  (.cons (.asg (.name 7) (.lit .non))
  (.cons (.tryAs
    (.cons (.asg (.name 7) (.make 1 58 (.cons (.var 5) .nil))) .nil)
    13 8 [.payT 6 (.str "deed") "index"])
  (.cons (.ite (.cmp .ne (.var 6) (.call 132 (.cons (.var 2) .nil)))
    (.cons (.ret (.lit (.bl false))) .nil)
    .nil)
  (.cons (.ite (.isN (.var 7))
    (.cons (.ret (.lit (.bl true))) .nil)
    .nil)
  (.cons (.expr (.bm .append (.var 5) (.cons (.lit (.str "late")) .nil)))
  (.cons (.ite (.cmp .ne (.fld "deeds" (.var 7)) (.bi .tuple (.cons (.var 2) .nil)))
    (.cons (.ret (.lit (.bl false))) .nil)
    .nil)
  (.cons (.asg (.name 9) (.ix (.lst (.cons (.lit (.str "newest")) (.cons (.lit (.str "away")) .nil))) (.call 91 (.cons (.var 1) (.cons (.lit (.int 2)) .nil)))))
  (.cons (.asg (.name 10) (.call 92 (.cons (.var 1) .nil)))
  (.cons (.asg (.name 11) (.call 87 (.cons (.var 9) (.cons (.var 10) (.cons (.var 7) .nil)))))
  (.cons (.asg (.name 12) (.call 126 (.cons (.lit (.int 1)) (.cons (.var 9) (.cons (.call 133 (.cons (.var 2) (.cons (.var 10) .nil))) (.cons (.lit (.int 450)) .nil))))))
  (.cons (.forr (.name 4) (.rng1 (.lit (.int 30))) [13]
    (.cons (.asg (.name 13) (.call 91 (.cons (.var 1) (.cons (.lit (.int 450)) .nil))))
    (.cons (.ite (.cmp .ne (.lst (.cons (.meth 0 33 (.var 11) (.cons (.lit (.int 0)) (.cons (.var 13) .nil))) .nil)) (.ix (.var 12) (.var 13)))
      (.cons (.ret (.lit (.bl false))) .nil)
      .nil) .nil)))
  (.cons (.ret (.and (.cmp .eq (.call 134 (.cons (.var 7) (.cons (.lit (.str "oldest")) (.cons (.lit .non) .nil)))) (.lit (.str "order"))) (.cmp .eq (.call 134 (.cons (.var 7) (.cons (.var 9) (.cons (.lit .non) .nil)))) (.lit (.str "plan"))))) .nil)))))))))))))))))))))⟩
/-! 163: law_k12 -/
/-- 0=_law_script 1=_law_draws 2=_law_order 3=_law_deeds 4=_law_other 5=_law_one 6=_law_two 7=_law_told 8=_law_back 9=_law_here 10=_law_there 11=_law_k 12=_law_plan_here 13=_law_hour -/
def f_law_k12 : FDef := ⟨1, 14,
  (.cons (.asg (.name 1) (.call 90 (.cons (.var 0) .nil)))
  (.cons (.asg (.name 2) (.ix (.lst (.cons (.lit (.str "newest")) (.cons (.lit (.str "away")) .nil))) (.call 91 (.cons (.var 1) (.cons (.lit (.int 2)) .nil)))))
  (.cons (.asg (.name 3) (.call 128 (.cons (.var 1) (.cons (.lit (.int 4)) .nil))))
  (.cons (.asg (.name 4) (.call 129 (.cons (.var 1) (.cons (.var 3) .nil))))
  (.cons (.asg (.name 5) (.make 1 58 (.cons (.var 3) .nil)))
  (.cons (.asg (.name 6) (.make 1 58 (.cons (.var 4) .nil)))
  (.cons (.asg (.name 7) (.call 64 (.cons (.var 2) (.cons (.var 5) (.cons (.var 6) .nil)))))
  (.cons (.asg (.name 8) (.call 64 (.cons (.var 2) (.cons (.var 6) (.cons (.var 5) .nil)))))
  (.cons (.ite (.or (.cmp .ne (.call 84 (.cons (.var 2) (.cons (.var 5) (.cons (.var 6) .nil)))) (.isN (.var 7))) (.cmp .ne (.isN (.var 8)) (.isN (.var 7))))
    (.cons (.ret (.lit (.bl false))) .nil)
    .nil)
  (.cons (.ite (.notN (.var 7))
    (.cons (.ite (.or (.cmp .ne (.ix (.var 8) (.lit (.int 0))) (.ix (.var 7) (.lit (.int 0)))) (.cmp .gt (.bi .len (.cons (.ix (.var 7) (.lit (.int 1))) .nil)) (.lit (.int 1))))
      (.cons (.ret (.lit (.bl false))) .nil)
      .nil)
    (.cons (.asg (.name 9) (.call 126 (.cons (.lit (.int 1)) (.cons (.var 2) (.cons (.call 133 (.cons (.var 3) (.cons (.ix (.var 7) (.lit (.int 1))) .nil))) (.cons (.bin .add (.ix (.var 7) (.lit (.int 0))) (.lit (.int 1))) .nil))))))
    (.cons (.asg (.name 10) (.call 126 (.cons (.lit (.int 1)) (.cons (.var 2) (.cons (.call 133 (.cons (.var 4) (.cons (.ix (.var 7) (.lit (.int 1))) .nil))) (.cons (.bin .add (.ix (.var 7) (.lit (.int 0))) (.lit (.int 1))) .nil))))))
    (.cons (.ite (.cmp .eq (.ix (.var 9) (.ix (.var 7) (.lit (.int 0)))) (.ix (.var 10) (.ix (.var 7) (.lit (.int 0)))))
      (.cons (.ret (.lit (.bl false))) .nil)
      .nil) .nil))))
    .nil)
  (.cons (.forr (.name 11) (.rng1 (.lit (.int 12))) [11, 12, 13]
    (.cons (.asg (.name 12) (.call 135 (.cons (.var 1) (.cons (.var 3) .nil))))
    (.cons (.asg (.name 9) (.call 126 (.cons (.lit (.int 1)) (.cons (.var 2) (.cons (.call 133 (.cons (.var 3) (.cons (.var 12) .nil))) (.cons (.lit (.int 600)) .nil))))))
    (.cons (.asg (.name 10) (.call 126 (.cons (.lit (.int 1)) (.cons (.var 2) (.cons (.call 133 (.cons (.var 4) (.cons (.var 12) .nil))) (.cons (.lit (.int 600)) .nil))))))
    (.cons (.forr (.name 13) (.rng1 (.lit (.int 600))) [13]
      (.cons (.ite (.and (.cmp .ne (.ix (.var 9) (.var 13)) (.ix (.var 10) (.var 13))) (.or (.isN (.var 7)) (.cmp .lt (.var 13) (.ix (.var 7) (.lit (.int 0))))))
        (.cons (.ret (.lit (.bl false))) .nil)
        .nil) .nil)) .nil)))))
  (.cons (.ret (.and (.call 84 (.cons (.var 2) (.cons (.var 5) (.cons (.var 5) .nil)))) (.call 136 (.cons (.var 5) (.cons (.var 6) .nil))))) .nil))))))))))))⟩
/-! 164: law_k13 -/
/-- 0=_law_script 1=_law_draws 2=_law_order 3=_law_deeds 4=_law_row_here 5=_law_due 6=_law_k 7=_law_other -/
def f_law_k13 : FDef := ⟨1, 8,
  (.cons (.asg (.name 1) (.call 90 (.cons (.var 0) .nil)))
  (.cons (.asg (.name 2) (.ix (.lst (.cons (.lit (.str "newest")) (.cons (.lit (.str "away")) .nil))) (.call 91 (.cons (.var 1) (.cons (.lit (.int 2)) .nil)))))
  (.cons (.asg (.name 3) (.call 128 (.cons (.var 1) (.cons (.lit (.int 4)) .nil))))
  (.cons (.asg (.name 4) (.make 1 58 (.cons (.var 3) .nil)))
  (.cons (.asg (.name 5) (.lst .nil))
  (.cons (.forr (.name 6) (.rng1 (.bi .len (.cons (.var 3) .nil))) []
    (.cons (.ite (.of (.call 84 (.cons (.var 2) (.cons (.var 4) (.cons (.make 1 58 (.cons (.bin .add (.sl (.var 3) .no (.of (.var 6))) (.sl (.var 3) (.of (.bin .add (.var 6) (.lit (.int 1)))) .no)) .nil)) .nil)))))
      (.cons (.expr (.bm .append (.var 5) (.cons (.var 6) .nil))) .nil)
      .nil) .nil))
  (.cons (.ite (.nt (.of (.call 122 (.cons (.call 65 (.cons (.var 2) (.cons (.var 4) .nil))) (.cons (.var 5) .nil)))))
    (.cons (.ret (.lit (.bl false))) .nil)
    .nil)
  (.cons (.asg (.name 5) (.lst .nil))
  (.cons (.forr (.name 6) (.rng1 (.bin .sub (.bi .len (.cons (.var 3) .nil)) (.lit (.int 1)))) []
    (.cons (.ite (.cmp .eq (.ix (.ix (.var 3) (.var 6)) (.neg (.lit (.int 1)))) (.ix (.ix (.var 3) (.bin .add (.var 6) (.lit (.int 1)))) (.neg (.lit (.int 1)))))
      (.cons (.asg (.name 7) (.bin .add (.bin .add (.sl (.var 3) .no (.of (.var 6))) (.lst (.cons (.ix (.var 3) (.bin .add (.var 6) (.lit (.int 1)))) (.cons (.ix (.var 3) (.var 6)) .nil)))) (.sl (.var 3) (.of (.bin .add (.var 6) (.lit (.int 2)))) .no)))
      (.cons (.ite (.of (.call 84 (.cons (.var 2) (.cons (.var 4) (.cons (.make 1 58 (.cons (.var 7) .nil)) .nil)))))
        (.cons (.expr (.bm .append (.var 5) (.cons (.var 6) .nil))) .nil)
        .nil) .nil))
      .nil) .nil))
  (.cons (.ite (.nt (.of (.call 122 (.cons (.call 66 (.cons (.var 2) (.cons (.var 4) .nil))) (.cons (.var 5) .nil)))))
    (.cons (.ret (.lit (.bl false))) .nil)
    .nil)
  (.cons (.ret (.cmp .eq (.call 137 (.cons (.var 4) .nil)) (.lst (.cons (.lit (.bl true)) (.cons (.lit (.bl true)) .nil))))) .nil)))))))))))⟩
/-! 165: law_k14 -/
/-- 0=_law_script 1=_law_draws 2=_law_rooms 3=_law_order 4=_law_log_here 5=_law_house 6=_law_text 7=_law_again -/
def f_law_k14 : FDef := ⟨1, 8,
  (.cons (.asg (.name 1) (.call 90 (.cons (.var 0) .nil)))
  (.cons (.asg (.name 2) (.bin .add (.lit (.int 1)) (.call 91 (.cons (.var 1) (.cons (.lit (.int 3)) .nil)))))
  (.cons (.asg (.name 3) (.ix (.lst (.cons (.lit (.str "newest")) (.cons (.lit (.str "away")) .nil))) (.call 91 (.cons (.var 1) (.cons (.lit (.int 2)) .nil)))))
  (.cons (.asg (.name 4) (.call 102 (.cons (.var 1) (.cons (.var 2) (.cons (.lit (.int 10)) .nil)))))
  (.cons (.asg (.name 5) (.call 35 (.cons (.var 2) (.cons (.var 3) (.cons (.var 4) .nil)))))
  (.cons (.asg (.name 6) (.call 70 (.cons (.var 5) .nil)))
  (.cons (.ite (.or (.nt (.of (.isi "str" (.var 6)))) (.cmp .ne (.var 6) (.bm .join (.lit (.str "\n")) (.cons (.call 140 (.cons (.var 2) (.cons (.var 3) (.cons (.var 4) .nil)))) .nil))))
    (.cons (.ret (.lit (.bl false))) .nil)
    .nil)
  (.cons (.asg (.name 7) (.call 81 (.cons (.var 6) .nil)))
  (.cons (.ite (.or (.cmp .ne (.fld "rooms" (.var 7)) (.var 2)) (.or (.cmp .ne (.fld "order" (.var 7)) (.var 3)) (.cmp .ne (.meth 0 30 (.var 7) .nil) (.var 4))))
    (.cons (.ret (.lit (.bl false))) .nil)
    .nil)
  (.cons (.ret (.and (.call 48 (.cons (.var 7) (.cons (.var 5) .nil))) (.cmp .eq (.call 70 (.cons (.var 7) .nil)) (.var 6)))) .nil))))))))))⟩
/-! 166: law_k15 -/
/-- 0=_law_script 1=_law_draws 2=_law_rooms 3=_law_order 4=_law_lines_here 5=_law_k 6=_law_told_here -/
def f_law_k15 : FDef := ⟨1, 7,
  (.cons (.asg (.name 1) (.call 90 (.cons (.var 0) .nil)))
  (.cons (.asg (.name 2) (.bin .add (.lit (.int 1)) (.call 91 (.cons (.var 1) (.cons (.lit (.int 3)) .nil)))))
  (.cons (.asg (.name 3) (.ix (.lst (.cons (.lit (.str "newest")) (.cons (.lit (.str "away")) .nil))) (.call 91 (.cons (.var 1) (.cons (.lit (.int 2)) .nil)))))
  (.cons (.asg (.name 4) (.call 140 (.cons (.var 2) (.cons (.var 3) (.cons (.call 102 (.cons (.var 1) (.cons (.var 2) (.cons (.lit (.int 8)) .nil)))) .nil)))))
  (.cons (.ite (.of (.isi "int" (.call 141 (.cons (.var 4) .nil))))
    (.cons (.ret (.lit (.bl false))) .nil)
    .nil)
  (.cons (.forr (.name 5) (.rng1 (.call 91 (.cons (.var 1) (.cons (.lit (.int 3)) .nil)))) [5]
    (.cons (.expr (.call 142 (.cons (.var 1) (.cons (.var 4) .nil)))) .nil))
  (.cons (.asg (.name 6) (.call 141 (.cons (.var 4) .nil)))
  (.cons (.ite (.nt (.of (.isi "int" (.var 6))))
    (.cons (.ret (.cmp .eq (.call 70 (.cons (.var 6) .nil)) (.bm .join (.lit (.str "\n")) (.cons (.var 4) .nil)))) .nil)
    .nil)
  (.cons (.ite (.or (.nt (.chain .le .le (.lit (.int 1)) (.var 6) (.bi .len (.cons (.var 4) .nil)))) (.nt (.of (.isi "int" (.call 141 (.cons (.sl (.var 4) .no (.of (.var 6))) .nil))))))
    (.cons (.ret (.lit (.bl false))) .nil)
    .nil)
  (.cons (.ite (.and (.cmp .gt (.var 6) (.lit (.int 1))) (.of (.isi "int" (.call 141 (.cons (.sl (.var 4) .no (.of (.bin .sub (.var 6) (.lit (.int 1))))) .nil)))))
    (.cons (.ret (.lit (.bl false))) .nil)
    .nil)
  (.cons (.ret (.lit (.bl true))) .nil)))))))))))⟩
/-! 167: law_k16 -/
/-- 0=_law_script 1=_law_draws 2=_law_left 3=_law_order 4=_law_k 5=_law_rooms 6=_law_rule 7=_law_log_here 8=_law_deed_here 9=_law_one 10=_law_two 11=_law_hour 12=_law_room 13=_law_plan_here 14=_law_switch -/
def f_law_k16 : FDef := ⟨1, 15,
  (.cons (.asg (.name 1) (.call 90 (.cons (.var 0) .nil)))
  (.cons (.asg (.name 2) (.lrng1 (.lit (.int 10))))
  (.cons (.asg (.name 3) (.lc [("_law_k", 4)] (.bm .pop (.var 2) (.cons (.call 91 (.cons (.var 1) (.cons (.bi .len (.cons (.var 2) .nil)) .nil))) .nil)) (.name 4) (.rng1 (.lit (.int 10))) .no))
  (.cons (.asg (.name 5) (.bin .add (.lit (.int 1)) (.call 91 (.cons (.var 1) (.cons (.lit (.int 3)) .nil)))))
  (.cons (.asg (.name 6) (.ix (.lst (.cons (.lit (.str "newest")) (.cons (.lit (.str "away")) .nil))) (.call 91 (.cons (.var 1) (.cons (.lit (.int 2)) .nil)))))
  (.cons (.asg (.name 7) (.lst .nil))
  (.cons (.forr (.name 8) (.of (.call 102 (.cons (.var 1) (.cons (.var 5) (.cons (.lit (.int 8)) .nil))))) []
    (.cons (.ite (.cmp .eq (.ix (.var 8) (.lit (.int 0))) (.lit (.str "follow")))
      (.cons (.asg (.name 8) (.tup (.cons (.lit (.str "follow")) (.cons (.ix (.var 8) (.lit (.int 1))) (.cons (.ix (.var 8) (.lit (.int 2))) (.cons (.lit (.int 0)) (.cons (.ix (.var 8) (.lit (.int 4))) .nil))))))) .nil)
      .nil)
    (.cons (.expr (.bm .append (.var 7) (.cons (.var 8) .nil))) .nil)))
  (.cons (.asg (.name 9) (.call 35 (.cons (.var 5) (.cons (.var 6) (.cons (.var 7) .nil)))))
  (.cons (.asg (.name 10) (.call 35 (.cons (.var 5) (.cons (.var 6) (.cons (.lc [("_law_deed_here", 8)] (.call 144 (.cons (.var 8) (.cons (.var 3) .nil))) (.name 8) (.of (.var 7)) .no) .nil)))))
  (.cons (.forr (.name 4) (.rng1 (.lit (.int 40))) [11]
    (.cons (.asg (.name 11) (.call 91 (.cons (.var 1) (.cons (.lit (.int 1200)) .nil))))
    (.cons (.forr (.name 12) (.rng1 (.var 5)) []
      (.cons (.ite (.cmp .ne (.meth 0 33 (.var 10) (.cons (.var 12) (.cons (.var 11) .nil))) (.call 143 (.cons (.meth 0 33 (.var 9) (.cons (.var 12) (.cons (.var 11) .nil))) (.cons (.var 3) .nil))))
        (.cons (.ret (.lit (.bl false))) .nil)
        .nil) .nil)) .nil)))
  (.cons (.forr (.name 12) (.rng1 (.var 5)) [13]
    (.cons (.ite (.or (.cmp .ne (.call 43 (.cons (.var 9) (.cons (.var 12) .nil))) (.call 43 (.cons (.var 10) (.cons (.var 12) .nil)))) (.cmp .ne (.call 51 (.cons (.var 9) (.cons (.var 12) .nil))) (.call 51 (.cons (.var 10) (.cons (.var 12) .nil)))))
      (.cons (.ret (.lit (.bl false))) .nil)
      .nil)
    (.cons (.asg (.name 13) (.bi .tuple (.cons (.lc [("_law_switch", 14)] (.tup (.cons (.ix (.var 14) (.lit (.int 0))) (.cons (.ix (.var 3) (.ix (.var 14) (.lit (.int 1)))) .nil))) (.name 14) (.of (.call 49 (.cons (.var 9) (.cons (.var 12) .nil)))) .no) .nil)))
    (.cons (.ite (.cmp .ne (.call 49 (.cons (.var 10) (.cons (.var 12) .nil))) (.var 13))
      (.cons (.ret (.lit (.bl false))) .nil)
      .nil) .nil))))
  (.cons (.ret (.cmp .eq (.call 53 (.cons (.var 9) .nil)) (.call 53 (.cons (.var 10) .nil)))) .nil))))))))))))⟩
/-! 168: law_k17 -/
/-- 0=_law_script 1=_law_draws 2=_law_at 3=_law_house 4=_law_told 5=_law_e 6=_law_k -/
def f_law_k17 : FDef := ⟨1, 7,
  (.cons (.asg (.name 1) (.call 90 (.cons (.var 0) .nil)))
  (.cons (.asg (.name 2) (.call 91 (.cons (.var 1) (.cons (.lit (.int 14)) .nil))))
  (.cons (.asg (.name 3) (.make 0 19 (.cons (.lit (.int 2)) (.cons (.lit (.str "newest")) .nil))))
  (.cons (.asg (.name 4) (.lst .nil))
  (.cons .bad
  (.cons (.ret (.cmp .eq (.var 4) (.bin .add (.lc [("_law_k", 6)] (.cmp .eq (.var 6) (.var 2)) (.name 6) (.rng1 (.lit (.int 14))) .no) (.lst (.cons (.lit (.bl true)) .nil))))) .nil))))))⟩
/-! 169: law_k18 -/
/-- 0=_law_script 1=_law_draws 2=_law_rooms 3=_law_log_here 4=_law_handed 5=_law_house 6=_law_second 7=_law_other 8=_law_deeds 9=_law_one 10=_law_two 11=_law_told 12=_law_kept 13=_law_value 14=_law_later -/
def f_law_k18 : FDef := ⟨1, 15,
  (.cons (.asg (.name 1) (.call 90 (.cons (.var 0) .nil)))
  (.cons (.asg (.name 2) (.bin .add (.lit (.int 1)) (.call 91 (.cons (.var 1) (.cons (.lit (.int 2)) .nil)))))
  (.cons (.asg (.name 3) (.call 102 (.cons (.var 1) (.cons (.var 2) (.cons (.lit (.int 5)) .nil)))))
  (.cons (.asg (.name 4) (.bi .list (.cons (.var 3) .nil)))
  (.cons (.asg (.name 5) (.call 35 (.cons (.var 2) (.cons (.lit (.str "newest")) (.cons (.var 4) .nil)))))
  (.cons (.asg (.name 6) (.bin .add (.lit (.int 1)) (.call 91 (.cons (.var 1) (.cons (.lit (.int 2)) .nil)))))
  (.cons (.asg (.name 7) (.call 35 (.cons (.var 6) (.cons (.lit (.str "away")) (.cons (.call 102 (.cons (.var 1) (.cons (.var 6) (.cons (.lit (.int 5)) .nil)))) .nil)))))
  (.cons (.asg (.name 8) (.call 148 (.cons (.var 1) (.cons (.lit (.int 3)) .nil))))
  (.cons (.asg (.name 9) (.make 1 58 (.cons (.var 8) .nil)))
  (.cons (.asg (.name 10) (.make 1 58 (.cons (.call 148 (.cons (.var 1) (.cons (.lit (.int 3)) .nil))) .nil)))
  (.cons (.asg (.name 11) (.call 150 (.cons (.var 5) (.cons (.var 7) (.cons (.var 9) (.cons (.var 10) .nil))))))
  (.cons (.asg (.name 12) (.lc [("_law_value", 13)] (.call 151 (.cons (.var 13) .nil)) (.name 13) (.of (.var 11)) .no))
  (.cons (.asg (.name 14) (.lc [("_law_value", 13)] (.call 151 (.cons (.var 13) .nil)) (.name 13) (.of (.call 150 (.cons (.var 7) (.cons (.var 5) (.cons (.var 10) (.cons (.var 9) .nil)))))) .no))
  (.cons (.forr (.name 13) (.of (.var 11)) []
    (.cons (.ite (.of (.isi "list" (.var 13)))
      (.cons (.expr (.bm .append (.var 13) (.cons (.lit (.str "late")) .nil))) .nil)
      .nil) .nil))
  (.cons (.expr (.bm .append (.var 4) (.cons (.tup (.cons (.lit (.str "home")) (.cons (.lit (.int 0)) .nil))) .nil)))
  (.cons (.expr (.bm .append (.var 8) (.cons (.tup (.cons (.lit (.str "home")) (.cons (.lit (.int 400)) .nil))) .nil)))
  (.cons (.ite (.or (.cmp .ne (.call 150 (.cons (.var 5) (.cons (.var 7) (.cons (.var 9) (.cons (.var 10) .nil))))) (.var 12)) (.cmp .ne (.call 150 (.cons (.var 7) (.cons (.var 5) (.cons (.var 10) (.cons (.var 9) .nil))))) (.var 14)))
    (.cons (.ret (.lit (.bl false))) .nil)
    .nil)
  (.cons (.ret (.cmp .eq (.meth 0 30 (.var 5) .nil) (.var 3))) .nil))))))))))))))))))⟩
end Pg
end
end

section
set_option Elab.async false
set_option linter.all false
set_option maxRecDepth 100000
set_option maxHeartbeats 4000000
/-! WsP: running the small syntax in plain Lean. -/
noncomputable section
namespace Ws
open PySem
/-! ### garbage -/
theorem GcOk.refl (st : AS) : GcOk st st := fun _ _ => .inl rfl
theorem gcR_same (st : AS) (d : D) : gcR st (.ok d st) = .ok d st := by
  unfold gcR
  dsimp only
  rw [if_pos (GcOk.refl st)]
  split
  · rw [List.take_length]
  · cases d with
    | ref r =>
      dsimp only
      split
      · rename_i h
        rw [List.getElem?_eq_none h]
      · rfl
    | _ => rfl
theorem gcR_exn (st : AS) (c : Nat) (p : D) : gcR st (.exn c p st) = .exn c p st := by
  unfold gcR
  dsimp only
  rw [if_pos (GcOk.refl st)]
  split
  · rw [List.take_length]
  · rfl
/-- what was made behind the old objects is forgotten -/
theorem gcR_cut {st st' : AS} {d : D} (g : GcOk st st') (h : d.refless = true) : gcR st (.ok d st') = .ok d (st'.take st.length) := by
  unfold gcR
  dsimp only
  rw [if_pos g, if_pos h]
theorem gcR_cutX {st st' : AS} {c : Nat} {p : D} (g : GcOk st st') (h : p.refless = true) : gcR st (.exn c p st') = .exn c p (st'.take st.length) := by
  unfold gcR
  dsimp only
  rw [if_pos g, if_pos h]
theorem GcOk.app (st gs : AS) : GcOk st (st ++ gs) := fun i hi => .inl (List.getElem?_append_left hi)
theorem gcR_app (st gs : AS) {d : D} (h : d.refless = true) : gcR st (.ok d (st ++ gs)) = .ok d st := by
  rw [gcR_cut (GcOk.app st gs) h]; simp
theorem gcR_appX (st gs : AS) {c : Nat} {p : D} (h : p.refless = true) : gcR st (.exn c p (st ++ gs)) = .exn c p st := by
  rw [gcR_cutX (GcOk.app st gs) h]; simp
/-- a flat new list is handed out -/
@[simp] theorem refless_non : D.non.refless = true := rfl
@[simp] theorem refless_bl (b : Bool) : (D.bl b).refless = true := rfl
@[simp] theorem refless_int (b : Int) : (D.int b).refless = true := rfl
@[simp] theorem refless_str (b : Str) : (D.str b).refless = true := rfl
@[simp] theorem refless_tup (b : List D) : (D.tup b).refless = reflessAll b := rfl
@[simp] theorem refless_nil : reflessAll [] = true := rfl
@[simp] theorem refless_cons (d : D) (b : List D) : reflessAll (d :: b) = (d.refless && reflessAll b) := rfl
theorem reflessAll_iff : ∀ {b : List D}, reflessAll b = true ↔ ∀ d ∈ b, d.refless = true
  | [] => by simp
  | d :: b => by simp [reflessAll_iff (b := b)]
theorem gcR_lst {st st' : AS} {r : Nat} {xs : List D} (g : GcOk st st') (hr : st.length ≤ r) (h : st'[r]? = some (.lst xs)) (hf : reflessAll xs = true) : gcR st (.ok (.ref r) st') = .ok (.ref st.length) (st'.take st.length ++ [.lst xs]) := by
  unfold gcR
  dsimp only
  rw [if_pos g, if_neg (by simp [D.refless]), if_pos hr, h]
  dsimp only
  rw [if_pos (show O.flat (.lst xs) = true from hf)]
theorem gcR_lstA (st gs : AS) {r : Nat} {xs : List D} (hr : st.length ≤ r) (h : (st ++ gs)[r]? = some (.lst xs)) (hf : reflessAll xs = true) : gcR st (.ok (.ref r) (st ++ gs)) = .ok (.ref st.length) (st ++ [.lst xs]) := by
  rw [gcR_lst (GcOk.app st gs) hr h hf]; simp
theorem callF_eq {P : Nat → Option FDef} {f : Nat} {fd : FDef} (h : P f = some fd) (n : Nat) (ds : List D) (hl : ds.length = fd.np) (st : AS) : callF P (n + 1) f ds st = gcR st (exSs (callF P n) fd.body (startE fd.ns ds) st).res := by
  unfold callF
  rw [h]
  dsimp only
  rw [if_pos hl]
/-! ### small steps -/
theorem boolsD_map {α : Type} (f : α → Bool) : ∀ xs : List α, boolsD (xs.map fun x => D.bl (f x)) = some (xs.map f)
  | [] => rfl
  | x :: xs => by
    simp only [List.map_cons, boolsD, boolsD_map f xs, Option.map_some]
theorem intsD_map {α : Type} (f : α → Int) : ∀ xs : List α, intsD (xs.map fun x => D.int (f x)) = some (xs.map f)
  | [] => rfl
  | x :: xs => by
    simp only [List.map_cons, intsD, intsD_map f xs, Option.map_some]

@[simp] theorem ofB_some (st : AS) (b : Bool) : ofB st (some b) = .ok (.bl b) st := rfl
@[simp] theorem ofBT_some (st : AS) (b : Bool) : ofBT st (some b) = .ok b st := rfl
@[simp] theorem ofD_some (st : AS) (d : D) : ofD st (some d) = .ok d st := rfl
@[simp] theorem boolR_bl (b : Bool) (st : AS) : boolR (.ok (.bl b) st) = .ok b st := rfl
@[simp] theorem boolR_exn (c : Nat) (p : D) (st : AS) : boolR (.exn c p st) = .exn c p st := rfl
@[simp] theorem truR_bl (b : Bool) (st : AS) : truR (.ok (.bl b) st) = .ok b st := rfl
@[simp] theorem truR_exn (c : Nat) (p : D) (st : AS) : truR (.exn c p st) = .exn c p st := rfl
theorem truR_ok {d : D} {st : AS} {b : Bool} (h : truD st d = some b) : truR (.ok d st) = .ok b st := by
  unfold truR
  simp only [bind_ok, h]
@[simp] theorem res_next (env : Env) (st : AS) : (RS.next env st).res = .ok .non st := rfl
@[simp] theorem res_ret (d : D) (st : AS) : (RS.ret d st).res = .ok d st := rfl
@[simp] theorem res_exn (c : Nat) (p : D) (env : Env) (st : AS) : (RS.exn c p env st).res = .exn c p st := rfl
@[simp] theorem chR_some {α : Type} (b : Bool) (x y : Res α) : chR (some b) x y = if b = true then x else y := by
  cases b <;> rfl
@[simp] theorem isi_non (st : AS) (t : String) : isiD st t .non = some (t == "NoneType") := rfl
@[simp] theorem isi_bl (st : AS) (t : String) (b : Bool) : isiD st t (.bl b) = some (t == "bool" || t == "int") := rfl
@[simp] theorem isi_int (st : AS) (t : String) (b : Int) : isiD st t (.int b) = some (t == "int") := rfl
@[simp] theorem isi_str (st : AS) (t : String) (b : Str) : isiD st t (.str b) = some (t == "str") := rfl
@[simp] theorem isi_tup (st : AS) (t : String) (b : List D) : isiD st t (.tup b) = some (t == "tuple") := rfl
@[simp] theorem eq_ii (st : AS) (i j : Int) : eqD st (.int i) (.int j) = some (i == j) := rfl
@[simp] theorem eq_ss (st : AS) (i j : Str) : eqD st (.str i) (.str j) = some (i == j) := rfl
@[simp] theorem eq_bb (st : AS) (i j : Bool) : eqD st (.bl i) (.bl j) = some (i == j) := rfl
@[simp] theorem eq_nn (st : AS) : eqD st .non .non = some true := rfl
@[simp] theorem eq_is (st : AS) (i : Int) (j : Str) : eqD st (.int i) (.str j) = some false := rfl
@[simp] theorem eq_si (st : AS) (i : Str) (j : Int) : eqD st (.str i) (.int j) = some false := rfl
@[simp] theorem eq_ni (st : AS) (j : Int) : eqD st .non (.int j) = some false := rfl
@[simp] theorem eq_in (st : AS) (i : Int) : eqD st (.int i) .non = some false := rfl
@[simp] theorem eq_ns (st : AS) (j : Str) : eqD st .non (.str j) = some false := rfl
@[simp] theorem eq_sn (st : AS) (i : Str) : eqD st (.str i) .non = some false := rfl
@[simp] theorem lt_ii (i j : Int) (f : Int → Int → Bool) : cmpI f (.int i) (.int j) = some (f i j) := rfl
@[simp] theorem atI_0 {α : Type} (x : α) (xs : List α) : atI (x :: xs) 0 = some x := by
  unfold atI ixN
  simp only [Int.le_refl, if_true, List.length_cons]
  rw [if_pos (by omega)]
  rfl
@[simp] theorem atI_1 {α : Type} (x y : α) (xs : List α) : atI (x :: y :: xs) 1 = some y := by
  unfold atI ixN
  rw [if_pos (by omega), if_pos (by simp only [List.length_cons]; omega)]
  rfl
@[simp] theorem atI_2 {α : Type} (x y z : α) (xs : List α) : atI (x :: y :: z :: xs) 2 = some z := by
  unfold atI ixN
  rw [if_pos (by omega), if_pos (by simp only [List.length_cons]; omega)]
  rfl
@[simp] theorem atI_3 {α : Type} (x y z u : α) (xs : List α) : atI (x :: y :: z :: u :: xs) 3 = some u := by
  unfold atI ixN
  rw [if_pos (by omega), if_pos (by simp only [List.length_cons]; omega)]
  rfl
@[simp] theorem atI_4 {α : Type} (x y z u w : α) (xs : List α) : atI (x :: y :: z :: u :: w :: xs) 4 = some w := by
  unfold atI ixN
  rw [if_pos (by omega), if_pos (by simp only [List.length_cons]; omega)]
  rfl
theorem atI_nat {α : Type} {xs : List α} {i : Nat} (h : i < xs.length) : atI xs (i : Int) = some xs[i] := by
  unfold atI ixN
  rw [if_pos (by omega), if_pos (by omega)]
  simp [h]
theorem atI_last {α : Type} {xs : List α} (x : α) : atI (xs ++ [x]) (-1) = some x := by
  unfold atI ixN
  rw [if_neg (by omega), if_pos (by simp only [List.length_append, List.length_singleton]; omega)]
  have e : (-1 + ((xs ++ [x]).length : Int)).toNat = xs.length := by simp only [List.length_append, List.length_singleton]; omega
  simp only [Option.bind_some, e]
  simp
@[simp] theorem ixD_tup (st : AS) (xs : List D) (i : Int) : ixD st (.tup xs) (.int i) = atI xs i := rfl
theorem ixD_lst {st : AS} {l : Nat} {xs : List D} (h : st[l]? = some (.lst xs)) (i : Int) : ixD st (.ref l) (.int i) = atI xs i := by
  unfold ixD
  simp only [h]
@[simp] theorem len_tup (st : AS) (xs : List D) : biD st .len [.tup xs] = .ok (.int xs.length) st := rfl
theorem len_lst {st : AS} {l : Nat} {xs : List D} (h : st[l]? = some (.lst xs)) : biD st .len [.ref l] = .ok (.int xs.length) st := by
  unfold biD
  simp only [h]
theorem all_lst {st : AS} {l : Nat} {xs : List D} {bs : List Bool} (h : st[l]? = some (.lst xs)) (hb : boolsD xs = some bs) : biD st .all [.ref l] = .ok (.bl (bs.all id)) st := by
  unfold biD
  simp only [h, hb]
theorem all_map {st : AS} {l : Nat} {α : Type} {f : α → Bool} {xs : List α} (h : st[l]? = some (.lst (xs.map fun x => D.bl (f x)))) : biD st .all [.ref l] = .ok (.bl (xs.all f)) st := by
  rw [all_lst h (boolsD_map f xs)]
  simp
theorem any_map {st : AS} {l : Nat} {α : Type} {f : α → Bool} {xs : List α} (h : st[l]? = some (.lst (xs.map fun x => D.bl (f x)))) : biD st .any [.ref l] = .ok (.bl (xs.any f)) st := by
  have e : biD st .any [.ref l] = .ok (.bl ((xs.map f).any id)) st := by
    unfold biD
    simp only [h, boolsD_map f xs]
  rw [e]
  simp
theorem any_lst {st : AS} {l : Nat} {xs : List D} {bs : List Bool} (h : st[l]? = some (.lst xs)) (hb : boolsD xs = some bs) : biD st .any [.ref l] = .ok (.bl (bs.any id)) st := by
  unfold biD
  simp only [h, hb]
theorem tuple_lst {st : AS} {l : Nat} {xs : List D} (h : st[l]? = some (.lst xs)) : biD st .tuple [.ref l] = .ok (.tup xs) st := by
  unfold biD
  simp only [h]
@[simp] theorem int_int (st : AS) (i : Int) : biD st .int [.int i] = .ok (.int i) st := rfl
theorem set_lst {st : AS} {l : Nat} {xs : List D} {bs : List Int} (h : st[l]? = some (.lst xs)) (hb : intsD xs = some bs) (hz : bs.length ≤ 1000) : biD st .set [.ref l] = .ok (.ref st.length) (st ++ [.iset bs]) := by
  unfold biD
  simp only [h, hb, hz, if_true]
theorem sorted_set {st : AS} {l : Nat} {xs : List Int} (h : st[l]? = some (.iset xs)) (hz : xs.length < 64) : biD st .sorted [.ref l] = newL st ((sortS (dedS xs)).map .int) := by
  unfold biD
  simp only [h, hz, if_true]
theorem sorted_lst {st : AS} {l : Nat} {xs : List D} {bs : List Int} (h : st[l]? = some (.lst xs)) (hb : intsD xs = some bs) : biD st .sorted [.ref l] = newL st ((sortS bs).map .int) := by
  unfold biD
  simp only [h, hb]
theorem min_lst {st : AS} {l : Nat} {xs : List D} {a : Int} {bs : List Int} (h : st[l]? = some (.lst xs)) (hb : intsD xs = some (a :: bs)) : biD st .min [.ref l] = .ok (.int (minL a bs)) st := by
  unfold biD
  simp only [h, hb]
theorem list_of {st : AS} {d : D} {xs : List D} (h : listD st d = some xs) : biD st .list [d] = newL st xs := by
  unfold biD
  simp only [h]
@[simp] theorem items_tup (st : AS) (xs : List D) : itemsD st (.tup xs) = some xs := rfl
theorem items_lst {st : AS} {l : Nat} {xs : List D} (h : st[l]? = some (.lst xs)) : itemsD st (.ref l) = some xs := by
  unfold itemsD
  simp only [h]
@[simp] theorem sl_tup (st : AS) (xs : List D) (lo hi : Option Int) : slD st (.tup xs) lo hi = .ok (.tup (cutD xs lo hi)) st := rfl
theorem tru_lst {st : AS} {l : Nat} {xs : List D} (h : st[l]? = some (.lst xs)) : truD st (.ref l) = some (!xs.isEmpty) := by
  unfold truD
  simp only [h]
@[simp] theorem tru_tup (st : AS) (xs : List D) : truD st (.tup xs) = some (!xs.isEmpty) := rfl
theorem set_ix {st : AS} {l : Nat} {xs : List D} {i : Int} {j : Nat} (h : st[l]? = some (.lst xs)) (hj : ixN xs.length i = some j) (v : D) (env : Env) : setD v (.ref l) (.int i) env st = .next env (st.set l (.lst (xs.set j v))) := by
  unfold setD
  simp only [h, hj]
theorem sized_ok {xs : List D} {w : Option (Nat × List D)} {st : AS} (h : xs.length ≤ szMax) : sized xs w st = .ok (xs, w) st := by
  unfold sized
  rw [if_pos h]
@[simp] theorem asg_name (i : Nat) (d : D) (env : Env) : assign (.name i) d env = some (env.set i (some d)) := rfl
@[simp] theorem asg_tup (ts : Tgs) (ds : List D) (env : Env) : assign (.tup ts) (.tup ds) env = assigns ts ds env := rfl
@[simp] theorem asgs_nil (env : Env) : assigns .nil [] env = some env := rfl
@[simp] theorem asgs_cons (t : Tg) (r : Tgs) (d : D) (ds : List D) (env : Env) : assigns (.cons t r) (d :: ds) env = (assign t d env).bind fun e => assigns r ds e := by
  show (match assign t d env with | some env' => assigns r ds env' | none => none) = _
  cases assign t d env <;> rfl
@[simp] theorem bin_add (st : AS) (i j : Int) : binD .add (.int i) (.int j) st = .ok (.int (i + j)) st := rfl
@[simp] theorem bin_sub (st : AS) (i j : Int) : binD .sub (.int i) (.int j) st = .ok (.int (i - j)) st := rfl
@[simp] theorem bin_mul {i j : Int} (h : -18446744073709551616 < j ∧ j < 18446744073709551616) (st : AS) : binD .mul (.int i) (.int j) st = .ok (.int (i * j)) st := by
  unfold binD
  dsimp only
  rw [if_pos (.inr h)]
@[simp] theorem bin_div {i j : Int} (h : 0 < j ∧ j < 1073741824) (st : AS) : binD .fdiv (.int i) (.int j) st = .ok (.int (i / j)) st := by
  unfold binD
  dsimp only
  rw [if_pos h]
@[simp] theorem bin_mod {i j : Int} (h : 0 < j) (st : AS) : binD .mod (.int i) (.int j) st = .ok (.int (i % j)) st := by
  unfold binD
  dsimp only
  rw [if_pos h]
@[simp] theorem bin_pow {i j : Int} (h : 0 ≤ j ∧ j ≤ 1000000 ∧ i.natAbs < 18446744073709551616) (st : AS) : binD .pow (.int i) (.int j) st = .ok (.int (i ^ j.toNat)) st := by
  unfold binD
  dsimp only
  rw [if_pos h]
@[simp] theorem aug_add (st : AS) (i j : Int) : augD .add (.int i) (.int j) st = .ok (.int (i + j)) st := rfl
theorem bin_lst {st : AS} {a b : Nat} {xs ys : List D} (h : st[a]? = some (.lst xs)) (h2 : st[b]? = some (.lst ys)) (hz : xs.length + ys.length ≤ szMax) : binD .add (.ref a) (.ref b) st = newL st (xs ++ ys) := by
  unfold binD
  simp only [h, h2, hz, if_true]
@[simp] theorem rangeD_len (a : Int) (n : Nat) : (rangeD a n).length = n := by unfold rangeD; rw [List.length_map, List.length_range]
theorem small_ok {i : Int} (h : -1000000000000000 ≤ i) (h2 : i ≤ 1000000000000000) : small i = true := by
  unfold small
  exact @decide_eq_true _ (Classical.propDecidable _) ⟨by omega, by omega⟩
theorem sized_rng {a : Int} {n : Nat} {w : Option (Nat × List D)} {st : AS} (h : n ≤ 16777216) : sized (rangeD a n) w st = .ok (rangeD a n, w) st := sized_ok (by rw [rangeD_len]; exact h)
/-- its type is told -/
def tyB (st : AS) : D → Bool
  | .ref l => match st[l]? with
    | some (.lst _) => true
    | some (.dic _ _) => true
    | _ => false
  | .clo _ _ => false
  | .kls _ => false
  | _ => true
theorem isi_ref {st : AS} {l : Nat} {t : String} (h : tyB st (.ref l) = true) (h1 : (t == "list") = false) (h2 : (t == "dict") = false) : isiD st t (.ref l) = some false := by
  unfold tyB at h
  unfold isiD
  dsimp only at h ⊢
  split at h
  · rename_i e; (try rw [e]); simp [h1]
  · rename_i e; (try rw [e]); simp [h2]
  · cases h
@[simp] theorem if_ret (c : Prop) [Decidable c] (a b : D) (st : AS) : (if c then RS.ret a st else RS.ret b st) = RS.ret (if c then a else b) st := by split <;> rfl
@[simp] theorem if_okB (c b1 b2 : Bool) (st : AS) : (if c = true then Res.ok (D.bl b1) st else Res.ok (D.bl b2) st) = Res.ok (D.bl (if c = true then b1 else b2)) st := by cases c <;> rfl
@[simp] theorem if_okT (c b1 b2 : Bool) (st : AS) : (if c = true then Res.ok b1 st else Res.ok b2 st) = Res.ok (if c = true then b1 else b2) st := by cases c <;> rfl
/-! ### comprehensions -/
theorem watchOk_none (st : AS) : watchOk none st := trivial
theorem lcLoop_pure {w : Option (Nat × List D)} {asg : D → Option Env} {tst : Env → AS → Res Bool} {elt : Env → AS → Res D} {st : AS} (hw : watchOk w st) (en : D → Env) (t : D → Bool) (e : D → D) : ∀ (xs : List D),
    (∀ x ∈ xs, asg x = some (en x) ∧ tst (en x) st = .ok (t x) st ∧ (t x = true → elt (en x) st = .ok (e x) st)) → lcLoop w asg tst elt xs st = .ok ((xs.filter t).map e) st
  | [], _ => by unfold lcLoop; rw [if_pos hw]; rfl
  | x :: xs, h => by
    obtain ⟨h1, h2, h3⟩ := h x List.mem_cons_self
    unfold lcLoop
    rw [if_pos hw, h1]
    dsimp only
    rw [h2]
    simp only [noX_ok, bind_ok]
    have ih := lcLoop_pure (tst := tst) (elt := elt) hw en t e xs fun y hy => h y (List.mem_cons_of_mem _ hy)
    cases ht : t x with
    | true =>
      rw [if_pos rfl, h3 ht]
      simp only [noX_ok, bind_ok]
      rw [ih]
      simp [List.filter_cons, ht]
    | false =>
      rw [if_neg Bool.false_ne_true, ih]
      simp [List.filter_cons, ht]
theorem lcLoop_map {w : Option (Nat × List D)} {asg : D → Option Env} {elt : Env → AS → Res D} {st : AS} (hw : watchOk w st) (en : D → Env) (e : D → D) (xs : List D)
    (h : ∀ x ∈ xs, asg x = some (en x) ∧ elt (en x) st = .ok (e x) st) : lcLoop w asg (fun _ st => .ok true st) elt xs st = .ok (xs.map e) st := by
  rw [lcLoop_pure hw en (fun _ => true) e xs fun x hx => ⟨(h x hx).1, rfl, fun _ => (h x hx).2⟩, List.filter_eq_self.mpr fun _ _ => rfl]
theorem lcLoop_rangeF {w : Option (Nat × List D)} {asg : D → Option Env} {tst : Env → AS → Res Bool} {elt : Env → AS → Res D} {st : AS} (hw : watchOk w st) (en : Nat → Env) (t : Nat → Bool) (e : Nat → D) (a : Int) (n : Nat)
    (h : ∀ i, i < n → asg (.int (a + (i : Nat))) = some (en i) ∧ tst (en i) st = .ok (t i) st ∧ (t i = true → elt (en i) st = .ok (e i) st)) : lcLoop w asg tst elt (rangeD a n) st = .ok (((List.range n).filter t).map e) st := by
  have key : ∀ i : Nat, (a + (i : Int) - a).toNat = i := fun i => by omega
  rw [lcLoop_pure hw (fun d => match d with
    | .int j => en (j - a).toNat
    | _ => []) (fun d => match d with
    | .int j => t (j - a).toNat
    | _ => false) (fun d => match d with
    | .int j => e (j - a).toNat
    | _ => .non) (rangeD a n) fun x hx => ?_]
  · unfold rangeD
    rw [List.filter_map, List.map_map]
    congr 1
    have e1 : ((fun d => match d with
      | .int j => e (j - a).toNat
      | _ => D.non) ∘ fun i : Nat => D.int (a + (i : Int))) = e := by
      funext i
      show e _ = _
      rw [key]
    have e2 : ((fun d => match d with
      | .int j => t (j - a).toNat
      | _ => false) ∘ fun i : Nat => D.int (a + (i : Int))) = t := by
      funext i
      show t _ = _
      rw [key]
    rw [e1, e2]
  · unfold rangeD at hx
    obtain ⟨i, hi, rfl⟩ := List.mem_map.mp hx
    have hi' : i < n := List.mem_range.mp hi
    dsimp only
    rw [key]
    exact h i hi'
theorem lcLoop_range {w : Option (Nat × List D)} {asg : D → Option Env} {elt : Env → AS → Res D} {st : AS} (hw : watchOk w st) (en : Nat → Env) (e : Nat → D) (a : Int) (n : Nat)
    (h : ∀ i, i < n → asg (.int (a + (i : Nat))) = some (en i) ∧ elt (en i) st = .ok (e i) st) : lcLoop w asg (fun _ st => .ok true st) elt (rangeD a n) st = .ok ((List.range n).map e) st := by
  rw [lcLoop_rangeF hw en (fun _ => true) e a n fun i hi => ⟨(h i hi).1, rfl, fun _ => (h i hi).2⟩, List.filter_eq_self.mpr fun _ _ => rfl]
theorem cutD_from1 (xs : List D) : cutD xs (some 1) none = xs.drop 1 := by
  unfold cutD sIx
  dsimp only
  rw [if_neg (by omega)]
  have e : (1 : Int).toNat = 1 := rfl
  rw [e]
  cases xs with
  | nil => rfl
  | cons x r =>
    have e2 : min 1 (x :: r).length = 1 := by simp only [List.length_cons]; omega
    rw [e2]
    simp
def All2 {α β : Type} (R : α → β → Prop) : List α → List β → Prop
  | [], [] => True
  | a :: r, b :: s => R a b ∧ All2 R r s
  | _, _ => False
/-- each item's state goes on -/
theorem lcLoop_inv {w : Option (Nat × List D)} {asg : D → Option Env} {elt : Env → AS → Res D} (Iv : AS → Prop) (Pv : D → D → Prop) (hw : ∀ st, Iv st → watchOk w st) (en : D → Env) : ∀ (xs : List D) (st : AS), Iv st →
    (∀ x ∈ xs, asg x = some (en x) ∧ ∀ st, Iv st → ∃ d st', elt (en x) st = .ok d st' ∧ Iv st' ∧ Pv x d) → ∃ ds st', lcLoop w asg (fun env st => .ok true st) elt xs st = .ok ds st' ∧ Iv st' ∧ ds.length = xs.length ∧ All2 Pv xs ds
  | [], st, hi, _ => ⟨[], st, by unfold lcLoop; rw [if_pos (hw st hi)], hi, rfl, trivial⟩
  | x :: xs, st, hi, h => by
    obtain ⟨h1, h2⟩ := h x List.mem_cons_self
    obtain ⟨d, st1, e1, i1, p1⟩ := h2 st hi
    obtain ⟨ds, st2, e2, i2, l2, f2⟩ := lcLoop_inv (elt := elt) Iv Pv hw en xs st1 i1 fun y hy => h y (List.mem_cons_of_mem _ hy)
    refine ⟨d :: ds, st2, ?_, i2, by simp [l2], ⟨p1, f2⟩⟩
    unfold lcLoop
    rw [if_pos (hw st hi), h1]
    simp only [noX_ok, bind_ok, if_true]
    rw [e1]
    simp only [noX_ok, bind_ok]
    rw [e2]
    rfl
theorem getLast_app {α : Type} (st : List α) (o : α) : (st ++ [o])[st.length]? = some o := by simp
/-! ### for -/
/-- the loop ends or returns; J i env: ahead of turn i -/
theorem forL_inv {w : Option (Nat × List D)} {asg : D → Env → Option Env} {tmp : List Nat} {body : Env → AS → RS} (all : List D) (J : Nat → Env → AS → Prop) (Q : RS → Prop) (hw : ∀ i env st, J i env st → watchOk w st)
    (hd : ∀ env st, J all.length env st → Q (.next (wipeE env tmp) st))
    (hs : ∀ i x env st, all[i]? = some x → J i env st → ∃ env1, asg x (wipeE env tmp) = some env1 ∧ match body env1 st with
      | .next e s => J (i + 1) e s
      | .cont e s => J (i + 1) e s
      | .brk e s => Q (.next (wipeE e tmp) s)
      | r => Q r) : ∀ (k i : Nat) (xs : List D), xs.length = k → i + k = all.length → xs = all.drop i → ∀ env st, J i env st → Q (forL w asg tmp body xs env st)
  | 0, i, xs, h1, h2, h3, env, st, hj => by
    have e : xs = [] := List.length_eq_zero_iff.mp h1
    subst e
    unfold forL
    rw [if_pos (hw i env st hj)]
    have : i = all.length := by omega
    subst this
    exact hd env st hj
  | k + 1, i, xs, h1, h2, h3, env, st, hj => by
    cases xs with
    | nil => simp at h1
    | cons x xs =>
      have hx : all[i]? = some x := by
        have := congrArg (·[0]?) h3
        simp only [List.getElem?_cons_zero, List.getElem?_drop, Nat.add_zero] at this
        exact this.symm
      have hr : xs = all.drop (i + 1) := by
        have := congrArg List.tail h3
        simpa using this
      obtain ⟨env1, ha, hb⟩ := hs i x env st hx hj
      unfold forL
      rw [if_pos (hw i env st hj), ha]
      dsimp only
      cases hbr : body env1 st with
      | next e s => rw [hbr] at hb; exact forL_inv all J Q hw hd hs k (i + 1) xs (by simpa using h1) (by omega) hr e s hb
      | cont e s => rw [hbr] at hb; exact forL_inv all J Q hw hd hs k (i + 1) xs (by simpa using h1) (by omega) hr e s hb
      | brk e s => rw [hbr] at hb; exact hb
      | ret d s => rw [hbr] at hb; exact hb
      | exn c p e s => rw [hbr] at hb; exact hb
      | bad => rw [hbr] at hb; exact hb
theorem for_run {w : Option (Nat × List D)} {asg : D → Env → Option Env} {tmp : List Nat} {body : Env → AS → RS} (all : List D) (J : Nat → Env → AS → Prop) (Q : RS → Prop) (hw : ∀ i env st, J i env st → watchOk w st)
    (hd : ∀ env st, J all.length env st → Q (.next (wipeE env tmp) st))
    (hs : ∀ i x env st, all[i]? = some x → J i env st → ∃ env1, asg x (wipeE env tmp) = some env1 ∧ match body env1 st with
      | .next e s => J (i + 1) e s
      | .cont e s => J (i + 1) e s
      | .brk e s => Q (.next (wipeE e tmp) s)
      | r => Q r) (env : Env) (st : AS) (h0 : J 0 env st) : Q (forL w asg tmp body all env st) :=
  forL_inv all J Q hw hd hs all.length 0 all rfl (by simp) (by simp) env st h0
end Ws
end
end

section
set_option Elab.async false
set_option linter.all false
set_option maxRecDepth 100000
set_option maxHeartbeats 1000000
/-! WsQ: the laws' draws. -/
noncomputable section
namespace Ws
open PySem
/-- all but place l is as it was -/
structure But (l : Nat) (st st' : AS) : Prop where
  len : st'.length = st.length
  at_ : ∀ i, i ≠ l → st'[i]? = st[i]?
theorem But.refl (l : Nat) (st : AS) : But l st st := ⟨rfl, fun _ _ => rfl⟩
theorem But.trans {l : Nat} {a b c : AS} (x : But l a b) (y : But l b c) : But l a c := ⟨y.len.trans x.len, fun i hi => (y.at_ i hi).trans (x.at_ i hi)⟩
theorem But.set (l : Nat) (st : AS) (o : O) : But l st (st.set l o) := ⟨List.length_set .., fun i hi => List.getElem?_set_ne (Ne.symm hi)⟩
/-- the draws stand at l, the script's numbers at s -/
structure Dw (st : AS) (l s : Nat) (xs : List Int) : Prop where
  ne : s ≠ l
  src : st[s]? = some (.lst (xs.map D.int))
  at_ : ∃ a b c, st[l]? = some (.lst [.ref s, .int a, .int b, .int c]) ∧ 0 ≤ a
theorem Dw.lt {st : AS} {l s : Nat} {xs : List Int} (h : Dw st l s xs) : l < st.length := by
  obtain ⟨a, b, c, e, _⟩ := h.at_
  exact (List.getElem?_eq_some_iff.mp e).1
theorem Dw.lts {st : AS} {l s : Nat} {xs : List Int} (h : Dw st l s xs) : s < st.length := (List.getElem?_eq_some_iff.mp h.src).1
theorem Dw.app {st : AS} {l s : Nat} {xs : List Int} (h : Dw st l s xs) (gs : AS) : Dw (st ++ gs) l s xs := by
  obtain ⟨a, b, c, e, p⟩ := h.at_
  exact ⟨h.ne, by rw [List.getElem?_append_left h.lts]; exact h.src, a, b, c, by rw [List.getElem?_append_left h.lt]; exact e, p⟩
theorem Dw.set {st : AS} {l s : Nat} {xs : List Int} (h : Dw st l s xs) (a b c : Int) (p : 0 ≤ a) : Dw (st.set l (.lst [.ref s, .int a, .int b, .int c])) l s xs :=
  ⟨h.ne, by rw [List.getElem?_set_ne h.ne.symm]; exact h.src, a, b, c, by rw [List.getElem?_set_self h.lt], p⟩
def drawA : S := .ite (.cmp .eq (.ix (.var 0) (.lit (.int 2))) (.lit (.int 0)))
    (.cons (.ite (.cmp .lt (.ix (.var 0) (.lit (.int 1))) (.bi .len (.cons (.ix (.var 0) (.lit (.int 0))) .nil)))
      (.cons (.asg (.name 2) (.ix (.ix (.var 0) (.lit (.int 0))) (.ix (.var 0) (.lit (.int 1)))))
      (.cons (.setIx (.var 0) (.lit (.int 1)) (.bin .add (.ix (.var 0) (.lit (.int 1))) (.lit (.int 1))))
      (.cons (.ite (.cmp .ge (.var 2) (.bin .pow (.lit (.int 10)) (.lit (.int 18))))
        (.cons (.setIx (.var 0) (.lit (.int 2)) (.var 2)) .nil)
        (.cons (.setIx (.var 0) (.lit (.int 3)) (.bin .mod (.bi .int (.cons (.bin .add (.bin .add (.bin .mul (.ix (.var 0) (.lit (.int 3))) (.lit (.int 48271))) (.bin .mul (.var 2) (.lit (.int 69621)))) (.lit (.int 11))) .nil)) (.lit (.int 2147483647)))) .nil)) .nil)))
      (.cons (.setIx (.var 0) (.lit (.int 3)) (.bin .mod (.bi .int (.cons (.bin .add (.bin .mul (.ix (.var 0) (.lit (.int 3))) (.lit (.int 48271))) (.lit (.int 7))) .nil)) (.lit (.int 2147483647)))) .nil)) .nil)
    .nil
def drawB : Ss := .cons (.ite (.cmp .gt (.ix (.var 0) (.lit (.int 2))) (.lit (.int 0)))
    (.cons (.asg (.name 3) (.bin .mod (.bi .int (.cons (.ix (.var 0) (.lit (.int 2))) .nil)) (.var 1)))
    (.cons (.setIx (.var 0) (.lit (.int 2)) (.bin .fdiv (.ix (.var 0) (.lit (.int 2))) (.var 1)))
    (.cons (.ret (.var 3)) .nil)))
    .nil)
  (.cons (.ret (.bin .mod (.bin .mod (.bi .int (.cons (.bin .mul (.ix (.var 0) (.lit (.int 3))) (.lit (.int 16807))) .nil)) (.lit (.int 2147483629))) (.var 1))) .nil)
def drawF : FDef := ⟨2, 4, .cons drawA drawB⟩
theorem set4_1 {st : AS} {l : Nat} {s : D} {a b c : D} (h : st[l]? = some (.lst [s, a, b, c])) (v : D) (env : Env) : setD v (.ref l) (.int 1) env st = .next env (st.set l (.lst [s, v, b, c])) := set_ix h (j := 1) rfl v env
theorem set4_2 {st : AS} {l : Nat} {s : D} {a b c : D} (h : st[l]? = some (.lst [s, a, b, c])) (v : D) (env : Env) : setD v (.ref l) (.int 2) env st = .next env (st.set l (.lst [s, a, v, c])) := set_ix h (j := 2) rfl v env
theorem set4_3 {st : AS} {l : Nat} {s : D} {a b c : D} (h : st[l]? = some (.lst [s, a, b, c])) (v : D) (env : Env) : setD v (.ref l) (.int 3) env st = .next env (st.set l (.lst [s, a, b, v])) := set_ix h (j := 3) rfl v env
/-- the second half of a draw -/
theorem draw_end {cl : Call} {st : AS} {l s : Nat} {xs : List Int} (h : Dw st l s xs) (many : Int) (hm : 0 < many) (hm2 : many < 1073741824) (o2 o3 : Option D) :
    ∃ k st', (exSs cl drawB [some (.ref l), some (.int many), o2, o3] st) = .ret (.int k) st' ∧ 0 ≤ k ∧ k < many ∧ Dw st' l s xs ∧ But l st st' := by
  obtain ⟨a, b, c, e, p⟩ := h.at_
  by_cases hb : 0 < b
  · refine ⟨b % many, st.set l (.lst [.ref s, .int a, .int (b / many), .int c]), ?_, Int.emod_nonneg _ (by omega), Int.emod_lt_of_pos _ hm, h.set _ _ _ p, .set _ _ _⟩
    simp [drawB, ixD_lst e, hb, hm, hm2, set4_2 e]
  · refine ⟨(c * 16807) % 2147483629 % many, st, ?_, Int.emod_nonneg _ (by omega), Int.emod_lt_of_pos _ hm, h, .refl _ _⟩
    simp [drawB, ixD_lst e, hb, hm]
theorem GcOk.but {st st' : AS} {l : Nat} (h : But l st st') (o : O) (ho : st'[l]? = some o) (hl : o.lowB st.length = true) : GcOk st st' := fun i hi => by
  by_cases e : i = l
  · subst e; exact .inr ⟨o, ho, hl⟩
  · exact .inl (h.at_ i e)
theorem Dw.gc {st st' : AS} {l s : Nat} {xs : List Int} (h : Dw st' l s xs) (b : But l st st') : GcOk st st' := by
  obtain ⟨a, c, d, e, _⟩ := h.at_
  refine .but b _ e ?_
  show ((decide (s < st.length)) && _) = true
  rw [decide_eq_true (by rw [← b.len]; exact h.lts)]
  rfl
theorem draw_beg {cl : Call} {st : AS} {l s : Nat} {xs : List Int} (h : Dw st l s xs) (o1 : Option D) : ∃ st' o3, exS cl drawA [some (.ref l), o1, none, none] st = .next [some (.ref l), o1, o3, none] st' ∧ Dw st' l s xs ∧ But l st st' := by
  obtain ⟨a, b, c, e, p⟩ := h.at_
  by_cases hb : b = 0
  · subst hb
    by_cases ha : a < xs.length
    · obtain ⟨m, rfl⟩ := Int.eq_ofNat_of_zero_le p
      have hm' : m < xs.length := by omega
      have hc : atI (xs.map D.int) (m : Int) = some (D.int xs[m]) := by
        rw [atI_nat (by rw [List.length_map]; exact hm')]
        simp
      have d1 := h.set (m + 1) 0 c (by omega)
      have e1 : (st.set l (.lst [.ref s, .int (m + 1), .int 0, .int c]))[l]? = some (.lst [.ref s, .int (m + 1), .int 0, .int c]) := by rw [List.getElem?_set_self h.lt]
      by_cases hbig : (1000000000000000000 : Int) ≤ xs[m]
      · refine ⟨st.set l (.lst [.ref s, .int (m + 1), .int xs[m], .int c]), some (.int xs[m]), ?_, h.set _ _ _ (by omega), .set _ _ _⟩
        simp [drawA, ixD_lst e, len_lst h.src, hm', ixD_lst h.src, hc, set4_1 e, set4_2 e1, hbig]
      · refine ⟨st.set l (.lst [.ref s, .int (m + 1), .int 0, .int ((c * 48271 + xs[m] * 69621 + 11) % 2147483647)]), some (.int xs[m]), ?_, h.set _ _ _ (by omega), .set _ _ _⟩
        simp [drawA, ixD_lst e, len_lst h.src, hm', ixD_lst h.src, hc, set4_1 e, set4_3 e1, hbig, ixD_lst e1]
    · refine ⟨st.set l (.lst [.ref s, .int a, .int 0, .int ((c * 48271 + 7) % 2147483647)]), none, ?_, h.set _ _ _ p, .set _ _ _⟩
      simp [drawA, ixD_lst e, len_lst h.src, ha, set4_3 e]
  · refine ⟨st, none, ?_, h, .refl _ _⟩
    simp [drawA, ixD_lst e, hb]
/-- a drawn number -/
theorem draw_ok {P : Nat → Option FDef} {i : Nat} (hP : P i = some drawF) (n : Nat) {st : AS} {l s : Nat} {xs : List Int} (h : Dw st l s xs) (many : Int) (hm : 0 < many) (hm2 : many < 1073741824) :
    ∃ k st', callF P (n + 1) i [.ref l, .int many] st = .ok (.int k) st' ∧ 0 ≤ k ∧ k < many ∧ Dw st' l s xs ∧ But l st st' := by
  rw [callF_eq hP n _ rfl]
  obtain ⟨st1, o3, r1, d1, b1⟩ := draw_beg (cl := callF P n) h (some (.int many))
  obtain ⟨k, st2, r2, k1, k2, d2, b2⟩ := draw_end (cl := callF P n) d1 many hm hm2 o3 none
  refine ⟨k, st2, ?_, k1, k2, d2, b1.trans b2⟩
  have e : exSs (callF P n) drawF.body (startE drawF.ns [.ref l, .int many]) st = .ret (.int k) st2 := by
    show exSs (callF P n) (.cons drawA drawB) [some (.ref l), some (.int many), none, none] st = _
    rw [exSs, r1, seq_next, r2]
  rw [e, res_ret, gcR_cut (d2.gc (b1.trans b2)) rfl, ← (b1.trans b2).len, List.take_length]
/-- a list of drawn numbers -/
theorem draws_lc {P : Nat → Option FDef} {i : Nat} (hP : P i = some drawF) (n : Nat) {st0 st : AS} {l s : Nat} {xs : List Int} (many : Int) (hm : 0 < many) (hm2 : many < 1073741824) {w : Option (Nat × List D)} {asg : D → Option Env} {elt : Env → AS → Res D}
    (hw : ∀ st', But l st0 st' → watchOk w st') (en : D → Env) (g : D → D → D) : ∀ (items : List D) (st : AS), Dw st l s xs → But l st0 st →
    (∀ x ∈ items, asg x = some (en x) ∧ ∀ st', But l st0 st' → elt (en x) st' = (callF P (n + 1) i [.ref l, .int many] st').bind fun d st => .ok (g x d) st) →
    ∃ (ks : List Int) (st' : AS), lcLoop w asg (fun _ st => .ok true st) elt items st = .ok (List.zipWith g items (ks.map D.int)) st' ∧ ks.length = items.length ∧ (∀ k ∈ ks, 0 ≤ k ∧ k < many) ∧ Dw st' l s xs ∧ But l st0 st'
  | [], st, d, b, _ => ⟨[], st, by unfold lcLoop; rw [if_pos (hw st b)]; rfl, rfl, by simp, d, b⟩
  | x :: items, st, d, b, h => by
    obtain ⟨h1, h2⟩ := h x List.mem_cons_self
    obtain ⟨k, st1, r1, k1, k2, d1, b1⟩ := draw_ok hP n d many hm hm2
    obtain ⟨ks, st2, r2, l2, q2, d2, b2⟩ := draws_lc hP n (st0 := st0) (st := st) many hm hm2 hw en g items st1 d1 (b.trans b1) fun y hy => h y (List.mem_cons_of_mem _ hy)
    refine ⟨k :: ks, st2, ?_, by simp [l2], ?_, d2, b2⟩
    · unfold lcLoop
      rw [if_pos (hw st b), h1]
      dsimp only
      simp only [noX_ok, bind_ok, if_true]
      rw [h2 st b, r1]
      simp only [noX_ok, bind_ok]
      rw [r2]
      rfl
    · intro z hz
      rcases List.mem_cons.mp hz with rfl | hz
      · exact ⟨k1, k2⟩
      · exact q2 z hz
def beginF : FDef := ⟨1, 1,
  (.cons (.ret (.lst (.cons (.bi .list (.cons (.var 0) .nil)) (.cons (.lit (.int 0)) (.cons (.lit (.int 0)) (.cons (.lit (.int 7)) .nil)))))) .nil)⟩
theorem begin_ok {P : Nat → Option FDef} {i : Nat} (hP : P i = some beginF) (n : Nat) {st : AS} {d : D} {ns : List Int} (h : Scr st d ns) :
    ∃ st', callF P (n + 1) i [d] st = .ok (.ref (st.length + 1)) st' ∧ Dw st' (st.length + 1) st.length ns ∧ st'.length = st.length + 2 := by
  refine ⟨st ++ [.lst (ns.map .int)] ++ [.lst [.ref st.length, .int 0, .int 0, .int 7]], ?_, ⟨by omega, by simp, 0, 0, 7, by simp, by omega⟩, by simp⟩
  rw [callF_eq hP n _ rfl]
  have e : exSs (callF P n) beginF.body (startE beginF.ns [d]) st = .ret (.ref (st.length + 1)) (st ++ [.lst (ns.map .int)] ++ [.lst [.ref st.length, .int 0, .int 0, .int 7]]) := by
    simp [beginF, list_of h.1]
  rw [e, res_ret]
  unfold gcR
  dsimp only
  split
  · rw [if_neg (by simp [D.refless]), if_pos (by omega)]
    simp [O.flat, reflessAll, D.refless]
  · rfl
end Ws
end
end

section
set_option Elab.async false
set_option linter.all false
set_option maxRecDepth 100000
set_option maxHeartbeats 1000000
/-! WsR: drawn places, drawn plans. -/
noncomputable section
namespace Ws
open PySem
/-- the old objects but l are as they were -/
structure Old (l : Nat) (st st' : AS) : Prop where
  le : st.length ≤ st'.length
  at_ : ∀ i, i < st.length → i ≠ l → st'[i]? = st[i]?
theorem Old.refl (l : Nat) (st : AS) : Old l st st := ⟨Nat.le_refl _, fun _ _ _ => rfl⟩
theorem Old.trans {l : Nat} {a b c : AS} (x : Old l a b) (y : Old l b c) : Old l a c := ⟨Nat.le_trans x.le y.le, fun i h1 h2 => (y.at_ i (Nat.lt_of_lt_of_le h1 x.le) h2).trans (x.at_ i h1 h2)⟩
theorem But.old {l : Nat} {a b : AS} (x : But l a b) : Old l a b := ⟨Nat.le_of_eq x.len.symm, fun i _ h => x.at_ i h⟩
theorem Old.app (l : Nat) (st gs : AS) : Old l st (st ++ gs) := ⟨by simp, fun i h _ => List.getElem?_append_left h⟩
def placesE (iD dv kv : Nat) (own : List (Str × Nat)) (big cnt : Int) : E := .bi .sorted (.cons (.bi .set (.cons (.lc own (.call iD (.cons (.var dv) (.cons (.lit (.int big)) .nil))) (.name kv) (.rng1 (.call iD (.cons (.var dv) (.cons (.lit (.int cnt)) .nil)))) .no) .nil)) .nil)
theorem sortS_lt (ks : List Int) : (sortS (dedS ks)).Pairwise (· < ·) := by
  have h1 := sortS_pw (dedS ks)
  have h2 : (sortS (dedS ks)).Nodup := (sortS_perm _).nodup_iff.mpr (dedS_nodup ks)
  have h3 := h1.and h2
  exact h3.imp fun ⟨a, b⟩ => by omega
theorem sortS_mem (k : Int) (ks : List Int) : k ∈ sortS (dedS ks) ↔ k ∈ ks := by
  rw [(sortS_perm _).mem_iff]
  exact dedS_mem k ks
theorem sortS_len (ks : List Int) : (sortS (dedS ks)).length ≤ ks.length := by
  rw [(sortS_perm _).length_eq]
  exact dedS_len ks
theorem places_ok {P : Nat → Option FDef} {iD : Nat} (hP : P iD = some drawF) (n : Nat) {st : AS} {l s : Nat} {xs : List Int} (h : Dw st l s xs) {dv kv : Nat} {x : Str} {big cnt : Int} (hb : 0 < big) (hb2 : big < 1073741824) (hc : 0 < cnt) (hc2 : cnt ≤ 60)
    {env : Env} (he : env[dv]? = some (some (.ref l))) (hk : kv ≠ dv) :
    ∃ (r : Nat) (pl : List Int) (st' : AS), evE (callF P (n + 1)) (placesE iD dv kv [(x, kv)] big cnt) env st = .ok (.ref r) st' ∧ st'[r]? = some (.lst (pl.map D.int)) ∧ r ≠ l ∧ r < st'.length ∧ pl.Pairwise (· < ·) ∧ (∀ p ∈ pl, 0 ≤ p ∧ p < big) ∧ (pl.length : Int) < cnt ∧ Dw st' l s xs ∧ Old l st st' := by
  obtain ⟨k, st1, r1, k1, k2, d1, b1⟩ := draw_ok hP n h cnt hc (by omega)
  have hsm : small k = true := small_ok (by omega) (by omega)
  have hsz : sized (rangeD 0 k.toNat) none st1 = .ok (rangeD 0 k.toNat, none) st1 := sized_rng (by omega)
  obtain ⟨ks, st2, r2, l2, q2, d2, b2⟩ := draws_lc hP n (st0 := st1) (st := st1) (w := none) (asg := fun d => assign (.name kv) d (wipeE env [kv])) (elt := fun env st => evE (callF P (n + 1)) (.call iD (.cons (.var dv) (.cons (.lit (.int big)) .nil))) env st) big hb hb2 (fun st _ => watchOk_none st)
    (fun d => (env.set kv none).set kv (some d)) (fun _ d => d) (rangeD 0 k.toNat) st1 d1 (.refl _ _) fun y hy => ⟨rfl, fun st' _ => by
      have e2 : ((env.set kv none).set kv (some y))[dv]? = some (some (.ref l)) := by rw [List.getElem?_set_ne hk, List.getElem?_set_ne hk]; exact he
      simp only [evE, evEs, e2, bind_ok]
      generalize callF P (n + 1) iD [.ref l, .int big] st' = rr
      cases rr <;> rfl⟩
  have ez : List.zipWith (fun _ d => d) (rangeD 0 k.toNat) (ks.map D.int) = ks.map D.int := by
    have key : ∀ (a : List D) (b : List D), b.length = a.length → List.zipWith (fun _ d => d) a b = b := by
      intro a
      induction a with
      | nil => intro b hb; simp at hb; simp [hb]
      | cons u a ih => intro b hb; cases b with
        | nil => simp at hb
        | cons v b => simp only [List.zipWith_cons_cons]; rw [ih b (by simpa using hb)]
    exact key _ _ (by rw [List.length_map, l2])
  rw [ez] at r2
  rw [rangeD_len] at l2
  have hlen : ks.length ≤ 60 := by omega
  have i1 : intsD (ks.map D.int) = some ks := by simpa using intsD_map (fun i : Int => i) ks
  have s1 := set_lst (st := st2 ++ [.lst (ks.map D.int)]) (l := st2.length) (by simp) i1 (by omega)
  have s2 := sorted_set (st := st2 ++ [.lst (ks.map D.int)] ++ [.iset ks]) (l := (st2 ++ [O.lst (ks.map D.int)]).length) (xs := ks) (by simp) (by omega)
  refine ⟨(st2 ++ [O.lst (ks.map D.int)] ++ [O.iset ks]).length, sortS (dedS ks), st2 ++ [.lst (ks.map D.int)] ++ [.iset ks] ++ [.lst ((sortS (dedS ks)).map D.int)], ?_, by simp, ?_, by simp, sortS_lt ks, fun p hp => q2 p ((sortS_mem p ks).mp hp), ?_, ((d2.app _).app _).app _, ?_⟩
  · have es : evSrc (callF P (n + 1)) (.rng1 (.call iD (.cons (.var dv) (.cons (.lit (.int cnt)) .nil)))) env st = .ok (rangeD 0 k.toNat, none) st1 := by
      simp only [evSrc, evE, evEs, he, bind_ok, r1, hsm, if_true, hsz]
    have e4 : evE (callF P (n + 1)) (.lc [(x, kv)] (.call iD (.cons (.var dv) (.cons (.lit (.int big)) .nil))) (.name kv) (.rng1 (.call iD (.cons (.var dv) (.cons (.lit (.int cnt)) .nil)))) .no) env st = .ok (.ref st2.length) (st2 ++ [.lst (ks.map D.int)]) := by
      rw [evE, es, bind_ok]
      exact congrArg (fun r => Res.bind r fun ds st => newL st ds) r2
    unfold placesE
    generalize E.lc [(x, kv)] (.call iD (.cons (.var dv) (.cons (.lit (.int big)) .nil))) (.name kv) (.rng1 (.call iD (.cons (.var dv) (.cons (.lit (.int cnt)) .nil)))) .no = LC at e4 ⊢
    simp only [evE, evEs, e4, bind_ok, s1, s2]
    rfl
  · have := d2.lt
    simp; omega
  · have := sortS_len ks; omega
  · exact ((b1.old.trans b2.old).trans (.app l _ _)).trans ((Old.app l _ _).trans (.app l _ _))
def planE (iD dv pv kv : Nat) (own : List (Str × Nat)) (big : Int) : E := .bi .tuple (.cons (.lc own (.tup (.cons (.var kv) (.cons (.call iD (.cons (.var dv) (.cons (.lit (.int big)) .nil))) .nil))) (.name kv) (.of (.var pv)) .no) .nil)
theorem planE_ok {P : Nat → Option FDef} {iD : Nat} (hP : P iD = some drawF) (n : Nat) {st : AS} {l s : Nat} {xs : List Int} (h : Dw st l s xs) {dv pv kv r : Nat} {x : Str} {big : Int} {pl : List Int} (hb : 0 < big) (hb2 : big < 1073741824)
    {env : Env} (he : env[dv]? = some (some (.ref l))) (hk : kv ≠ dv) (hkl : kv < env.length) (hp : env[pv]? = some (some (.ref r))) (hr : st[r]? = some (.lst (pl.map D.int))) (hrl : r ≠ l) :
    ∃ (ks : List Int) (st' : AS), evE (callF P (n + 1)) (planE iD dv pv kv [(x, kv)] big) env st = .ok (.tup (List.zipWith (fun p k => D.tup [.int p, .int k]) pl ks)) st' ∧ ks.length = pl.length ∧ (∀ k ∈ ks, 0 ≤ k ∧ k < big) ∧ Dw st' l s xs ∧ Old l st st' := by
  obtain ⟨ks, st2, r2, l2, q2, d2, b2⟩ := draws_lc hP n (st0 := st) (st := st) (w := some (r, pl.map D.int)) (asg := fun d => assign (.name kv) d (wipeE env [kv])) (elt := fun env st => evE (callF P (n + 1)) (.tup (.cons (.var kv) (.cons (.call iD (.cons (.var dv) (.cons (.lit (.int big)) .nil))) .nil))) env st) big hb hb2
    (fun st' b => by
      show itemsD st' (.ref r) = some (pl.map D.int)
      exact items_lst (by rw [b.at_ r hrl]; exact hr))
    (fun d => (env.set kv none).set kv (some d)) (fun p d => .tup [p, d]) (pl.map D.int) st h (.refl _ _) fun y hy => ⟨rfl, fun st' _ => by
      have e2 : ((env.set kv none).set kv (some y))[dv]? = some (some (.ref l)) := by rw [List.getElem?_set_ne hk, List.getElem?_set_ne hk]; exact he
      have e3 : ((env.set kv none).set kv (some y))[kv]? = some (some y) := by rw [List.getElem?_set_self (by rw [List.length_set]; exact hkl)]
      simp only [evE, evEs, e2, e3, bind_ok]
      generalize callF P (n + 1) iD [.ref l, .int big] st' = rr
      cases rr <;> rfl⟩
  have ez : List.zipWith (fun p d => D.tup [p, d]) (pl.map D.int) (ks.map D.int) = List.zipWith (fun p k => D.tup [.int p, .int k]) pl ks := by
    rw [List.zipWith_map]
  rw [ez] at r2
  rw [List.length_map] at l2
  refine ⟨ks, st2 ++ [.lst (List.zipWith (fun p k => D.tup [.int p, .int k]) pl ks)], ?_, l2, q2, d2.app _, b2.old.trans (.app l _ _)⟩
  have es : evSrc (callF P (n + 1)) (.of (.var pv)) env st = .ok (pl.map D.int, some (r, pl.map D.int)) st := by
    simp only [evSrc, evE, hp, bind_ok, items_lst hr]
  have e4 : evE (callF P (n + 1)) (.lc [(x, kv)] (.tup (.cons (.var kv) (.cons (.call iD (.cons (.var dv) (.cons (.lit (.int big)) .nil))) .nil))) (.name kv) (.of (.var pv)) .no) env st = .ok (.ref st2.length) (st2 ++ [.lst (List.zipWith (fun p k => D.tup [.int p, .int k]) pl ks)]) := by
    rw [evE, es, bind_ok]
    exact congrArg (fun r => Res.bind r fun ds st => newL st ds) r2
  unfold planE
  generalize E.lc [(x, kv)] (.tup (.cons (.var kv) (.cons (.call iD (.cons (.var dv) (.cons (.lit (.int big)) .nil))) .nil))) (.name kv) (.of (.var pv)) .no = LC at e4 ⊢
  simp only [evE, evEs, e4, bind_ok]
  exact tuple_lst (by simp)
end Ws
end
end

section
set_option Elab.async false
set_option linter.all false
set_option maxRecDepth 100000
set_option maxHeartbeats 1000000
/-! WsW: walking a block statement by statement. -/
noncomputable section
namespace Ws
open PySem
def Wp (r : RS) (Q : RS → Prop) : Prop := Q r
theorem Wp.of {r : RS} {Q Q' : RS → Prop} (h : Wp r Q) (k : ∀ r, Q r → Q' r) : Wp r Q' := k r h
section
variable {cl : Call} {r a b : Ss} {e : E} {t : T} {env env' : Env} {st st' : AS} {d : D} {Q : RS → Prop} {i : Nat} {c : Bool}
theorem exSs_cons (cl : Call) (s : S) (r : Ss) (env : Env) (st : AS) : exSs cl (.cons s r) env st = (exS cl s env st).seq fun env st => exSs cl r env st := by rw [exSs]
theorem to_asg (h : evE cl e env st = .ok d st') (k : Wp (exSs cl r (env.set i (some d)) st') Q) : Wp (exSs cl (.cons (.asg (.name i) e) r) env st) Q := by
  unfold Wp
  rw [exSs_cons, exS, h, stm_ok, asg_name]
  exact k
theorem to_asgT {tg : Tg} (h : evE cl e env st = .ok d st') (ha : assign tg d env = some env') (k : Wp (exSs cl r env' st') Q) : Wp (exSs cl (.cons (.asg tg e) r) env st) Q := by
  unfold Wp
  rw [exSs_cons, exS, h, stm_ok, ha]
  exact k
theorem to_expr (h : evE cl e env st = .ok d st') (k : Wp (exSs cl r env st') Q) : Wp (exSs cl (.cons (.expr e) r) env st) Q := by
  unfold Wp
  rw [exSs_cons, exS, h, stm_ok]
  exact k
theorem to_ret (h : evE cl e env st = .ok d st') (k : Q (.ret d st')) : Wp (exSs cl (.cons (.ret e) r) env st) Q := by
  unfold Wp
  rw [exSs_cons, exS, h, stm_ok]
  exact k
theorem to_retX {p : D} {n : Nat} (h : evE cl e env st = .exn n p st') (k : Q (.exn n p env st')) : Wp (exSs cl (.cons (.ret e) r) env st) Q := by
  unfold Wp
  rw [exSs_cons, exS, h, stm_exn]
  exact k
theorem to_asgX {tg : Tg} {p : D} {n : Nat} (h : evE cl e env st = .exn n p st') (k : Q (.exn n p env st')) : Wp (exSs cl (.cons (.asg tg e) r) env st) Q := by
  unfold Wp
  rw [exSs_cons, exS, h, stm_exn]
  exact k
theorem to_exprX {p : D} {n : Nat} (h : evE cl e env st = .exn n p st') (k : Q (.exn n p env st')) : Wp (exSs cl (.cons (.expr e) r) env st) Q := by
  unfold Wp
  rw [exSs_cons, exS, h, stm_exn]
  exact k
theorem to_ite (h : evT cl t env st = .ok c st') (k1 : c = true → Wp (exSs cl a env st') fun r' => Wp (r'.seq fun e s => exSs cl r e s) Q) (k2 : c = false → Wp (exSs cl b env st') fun r' => Wp (r'.seq fun e s => exSs cl r e s) Q) : Wp (exSs cl (.cons (.ite t a b) r) env st) Q := by
  unfold Wp at *
  rw [exSs_cons, exS, h, stm_ok]
  cases c with
  | true => rw [if_pos rfl]; exact k1 rfl
  | false => rw [if_neg Bool.false_ne_true]; exact k2 rfl
theorem to_iteT (h : evT cl t env st = .ok true st') (k1 : Wp (exSs cl a env st') fun r' => Wp (r'.seq fun e s => exSs cl r e s) Q) : Wp (exSs cl (.cons (.ite t a b) r) env st) Q := to_ite h (fun _ => k1) fun e => by cases e
theorem to_iteF (h : evT cl t env st = .ok false st') (k1 : Wp (exSs cl b env st') fun r' => Wp (r'.seq fun e s => exSs cl r e s) Q) : Wp (exSs cl (.cons (.ite t a b) r) env st) Q := to_ite h (fun e => by cases e) fun _ => k1
/-- no else -/
theorem to_iteN (h : evT cl t env st = .ok false st') (k1 : Wp (exSs cl r env st') Q) : Wp (exSs cl (.cons (.ite t a .nil) r) env st) Q := to_iteF h (by unfold Wp; rw [exSs]; exact k1)
theorem to_setFld {x : Str} {o : E} {v : D} {st1 st2 : AS} {l C : Nat} {fs : List (Str × D)} (h1 : evE cl e env st = .ok v st1) (h2 : evE cl o env st1 = .ok (.ref l) st2) (h3 : st2[l]? = some (.ins C fs)) (h4 : fs.length < 100) (k : Wp (exSs cl r env (st2.set l (.ins C (putF x v fs)))) Q) : Wp (exSs cl (.cons (.setFld x o e) r) env st) Q := by
  unfold Wp
  rw [exSs_cons, exS, h1, stm_ok, h2, stm_ok]
  dsimp only
  rw [h3]
  dsimp only
  rw [if_pos h4]
  exact k
theorem to_nil (k : Q (.next env st)) : Wp (exSs cl .nil env st) Q := by
  unfold Wp; rw [exSs]; exact k
theorem to_if1 (h : evT cl t env st = .ok c st') (k1 : c = true → Wp (exSs cl a env st') fun r' => Wp (r'.seq fun e s => exSs cl r e s) Q) (k2 : c = false → Wp (exSs cl r env st') Q) : Wp (exSs cl (.cons (.ite t a .nil) r) env st) Q := by
  cases c with
  | true => exact to_iteT h (k1 rfl)
  | false => exact to_iteN h (k2 rfl)
theorem to_for {tg : Tg} {src : Src} {tmp : List Nat} {body : Ss} {xs : List D} {w : Option (Nat × List D)} (h : evSrc cl src env st = .ok (xs, w) st') (J : Nat → Env → AS → Prop) (h0 : J 0 env st') (hw : ∀ i env st, J i env st → watchOk w st)
    (hs : ∀ i x env st, xs[i]? = some x → J i env st → ∃ env1, assign tg x (wipeE env tmp) = some env1 ∧ Wp (exSs cl body env1 st) fun r' => match r' with
      | .next e s => J (i + 1) e s
      | .cont e s => J (i + 1) e s
      | .brk e s => Wp (exSs cl r (wipeE e tmp) s) Q
      | r' => Q r')
    (hd : ∀ env st, J xs.length env st → Wp (exSs cl r (wipeE env tmp) st) Q) : Wp (exSs cl (.cons (.forr tg src tmp body) r) env st) Q := by
  unfold Wp at *
  rw [exSs_cons, exS, h, stm_ok]
  refine for_run xs J (fun r' => Q (r'.seq fun env st => exSs cl r env st)) hw hd (fun i x env st hx hj => ?_) env st' h0
  obtain ⟨env1, h1, h2⟩ := hs i x env st hx hj
  refine ⟨env1, h1, ?_⟩
  generalize exSs cl body env1 st = r' at h2
  cases r' <;> exact h2
end
/-- a def's run by its block's -/
theorem run_of {P : Nat → Option FDef} {f : Nat} {fd : FDef} (h : P f = some fd) {n : Nat} {ds : List D} (hl : ds.length = fd.np) {st : AS} {R : Res D} (k : Wp (exSs (callF P n) fd.body (startE fd.ns ds) st) fun r => gcR st r.res = R) : callF P (n + 1) f ds st = R := by
  rw [callF_eq h n ds hl]
  exact k
theorem run_ex {P : Nat → Option FDef} {f : Nat} {fd : FDef} (h : P f = some fd) {n : Nat} {ds : List D} (hl : ds.length = fd.np) {st : AS} {Q : Res D → Prop} (k : Wp (exSs (callF P n) fd.body (startE fd.ns ds) st) fun r => Q (gcR st r.res)) : Q (callF P (n + 1) f ds st) := by
  rw [callF_eq h n ds hl]
  exact k
theorem gcR_bl (st st2 : AS) (b : Bool) : ∃ st', gcR st (.ok (.bl b) st2) = .ok (.bl b) st' := by
  unfold gcR
  dsimp only
  split
  · exact ⟨_, rfl⟩
  · exact ⟨_, rfl⟩
end Ws
end
end

section
set_option Elab.async false
set_option linter.all false
set_option maxRecDepth 100000
set_option maxHeartbeats 400000
/-! PlA: runs of the plans' defs; what fewest gives. -/
noncomputable section
namespace Pg
open PySem Ws
abbrev Tbl := Nat → Option FDef
structure HPl (P : Tbl) : Prop where
  is_number : P 1 = some f_is_number
  is_switch : P 2 = some f_is_switch
  is_plan : P 3 = some f_is_plan
  check_plan : P 4 = some f_check_plan
structure HFw (P : Tbl) : Prop extends HPl P where
  fewest : P 7 = some f_fewest
def numB : D → Int → Int → Bool
  | .int i, a, b => decide (a ≤ i) && decide (i ≤ b)
  | _, _, _ => false
theorem r_is_number {P : Nat → Option FDef} (H : HPl P) (n : Nat) (st : AS) (v : D) (a b : Int) (h : tyB st v = true) : callF P (n + 1) 1 [v, .int a, .int b] st = .ok (.bl (numB v a b)) st := by
  rw [callF_eq H.is_number n _ rfl]
  unfold f_is_number
  cases v with
  | int i =>
    simp [numB, gcR_same]
    by_cases h : a ≤ i <;> simp [h, gcR_same]
  | ref l =>
    simp [numB, gcR_same, isi_ref h]
  | clo f cs => simp [tyB] at h
  | kls f => simp [tyB] at h
  | _ => simp [numB, gcR_same]
def swB : D → Bool
  | .tup [x, y] => numB x 0 167 && numB y 0 9
  | _ => false
/-- what is_switch may be asked -/
def tySw (st : AS) (v : D) : Bool := tyB st v && match v with
  | .tup [x, y] => tyB st x && tyB st y
  | _ => true
theorem r_is_switch {P : Nat → Option FDef} (H : HPl P) (n : Nat) (st : AS) (v : D) (h : tySw st v = true) : callF P (n + 2) 2 [v] st = .ok (.bl (swB v)) st := by
  rw [callF_eq H.is_switch (n + 1) _ rfl]
  unfold f_is_switch
  unfold tySw at h
  rw [Bool.and_eq_true] at h
  cases v with
  | tup ds =>
    match ds, h with
    | [x, y], h =>
      have h2 := h.2
      dsimp only at h2
      rw [Bool.and_eq_true] at h2
      simp [swB, gcR_same, r_is_number H n st x _ _ h2.1, r_is_number H n st y _ _ h2.2]
    | [], h => simp [swB, gcR_same]
    | [x], h => simp [swB, gcR_same]
    | x :: y :: z :: r, h =>
      have e : ¬ (r.length + 1 + 1 + 1 : Int) = 2 := by omega
      simp [swB, gcR_same, e]
  | ref l => simp [swB, gcR_same, isi_ref h.1]
  | clo f cs => simp [tyB] at h
  | kls f => simp [tyB] at h
  | _ => simp [swB, gcR_same]
/-- neighbours rise -/
def fstI : D → Int
  | .tup (.int i :: _) => i
  | _ => 0
def riseB : List D → Bool
  | a :: b :: r => decide (fstI a < fstI b) && riseB (b :: r)
  | _ => true
def riseZ : D → Bool
  | .tup [x, y] => decide (fstI x < fstI y)
  | _ => false
theorem riseZ_all : ∀ ds : List D, (List.zipWith (fun x y => D.tup [x, y]) ds (ds.drop 1)).all riseZ = riseB ds
  | [] => rfl
  | [_] => rfl
  | a :: b :: r => by
    have ih := riseZ_all (b :: r)
    simp only [List.drop_succ_cons, List.drop_zero] at ih
    simp only [List.drop_succ_cons, List.drop_zero, List.zipWith_cons_cons, List.all_cons, riseB]
    rw [← ih]
    rfl
theorem zipW_mem {xs ys : List D} {d : D} (h : d ∈ List.zipWith (fun x y => D.tup [x, y]) xs ys) : ∃ x y, x ∈ xs ∧ y ∈ ys ∧ d = .tup [x, y] := by
  obtain ⟨i, hi⟩ := List.getElem?_of_mem h
  obtain ⟨x, y, h1, h2, rfl⟩ := zipW_get hi
  exact ⟨x, y, List.mem_of_getElem? h1, List.mem_of_getElem? h2, rfl⟩
theorem numB_form {d : D} {a b : Int} (h : numB d a b = true) : ∃ i, d = .int i ∧ a ≤ i ∧ i ≤ b := by
  cases d <;> simp [numB] at h
  exact ⟨_, rfl, h.1, h.2⟩
theorem swB_form {d : D} (h : swB d = true) : ∃ a b, d = .tup [.int a, .int b] ∧ 0 ≤ a ∧ a ≤ 167 ∧ 0 ≤ b ∧ b ≤ 9 := by
  unfold swB at h
  split at h
  · rw [Bool.and_eq_true] at h
    obtain ⟨i, rfl, h1, h2⟩ := numB_form h.1
    obtain ⟨j, rfl, h3, h4⟩ := numB_form h.2
    exact ⟨i, j, rfl, h1, h2, h3, h4⟩
  · cases h
def plB : D → Bool
  | .tup ds => decide (ds.length ≤ 14) && ds.all swB && riseB ds
  | _ => false
def tyPl (st : AS) (v : D) : Bool := tyB st v && match v with
  | .tup ds => ds.all (tySw st)
  | _ => true
theorem r_is_plan {P : Nat → Option FDef} (H : HPl P) (n : Nat) (st : AS) (v : D) (h : tyPl st v = true) : callF P (n + 3) 3 [v] st = .ok (.bl (plB v)) st := by
  rw [callF_eq H.is_plan (n + 2) _ rfl]
  unfold f_is_plan
  unfold tyPl at h
  rw [Bool.and_eq_true] at h
  cases v with
  | tup ds =>
    have h2 : ∀ d ∈ ds, tySw st d = true := List.all_eq_true.mp h.2
    simp [plB]
    by_cases hl : (14 : Int) < ds.length
    · have e : ¬ ds.length ≤ 14 := by omega
      simp [hl, e, gcR_same]
    · have e : ds.length ≤ 14 := by omega
      simp only [hl, e, if_false]
      rw [lcLoop_map (watchOk_none st) (fun d => [some (.tup ds), some d, none]) (fun d => .bl (swB d)) ds (fun d hd => ⟨rfl, by simp [r_is_switch H n st d (h2 d hd)]⟩)]
      have ha := all_map (getLast_app st (.lst (ds.map fun d => .bl (swB d))))
      cases hs : ds.all swB with
      | true =>
        rw [hs] at ha
        have hs' : ∀ x ∈ ds, swB x = true := List.all_eq_true.mp hs
        simp [ha, cutD_from1]
        rw [lcLoop_map (watchOk_none _) (fun d => match d with
          | .tup [x, y] => [some (.tup ds), some x, some y]
          | _ => []) (fun d => .bl (riseZ d)) _ (fun d hd => ?_)]
        · have hb := all_map (getLast_app (st ++ [O.lst (ds.map fun d => .bl (swB d))]) (.lst ((List.zipWith (fun x y => D.tup [x, y]) ds (ds.drop 1)).map fun d => .bl (riseZ d))))
          rw [riseZ_all] at hb
          simp at hb
          simp [hb]
          exact gcR_app _ _ rfl
        · obtain ⟨x, y, hx, hy, rfl⟩ := zipW_mem hd
          obtain ⟨a, b, rfl, ra⟩ := swB_form (hs' x hx)
          obtain ⟨c, e, rfl, rc⟩ := swB_form (hs' y (List.mem_of_mem_tail hy))
          simp [riseZ, fstI]
          rfl
      | false =>
        rw [hs] at ha
        simp [ha]
        exact gcR_app _ _ rfl
  | ref l => simp [plB, gcR_same, isi_ref h.1]
  | clo f cs => simp [tyB] at h
  | kls f => simp [tyB] at h
  | _ => simp [plB, gcR_same]
abbrev Pl := List (Int × Int)
def mk (p : Int × Int) : D := .tup [.int p.1, .int p.2]
def Dd : Int → Pl → Pl
  | _, [] => []
  | pv, x :: r => if x.2 = pv then Dd x.2 r else x :: Dd x.2 r
def lastv (ps : Pl) : Int := (ps.getLast?.map (·.2)).getD 0
def fw (ps : Pl) : Pl := if Dd (lastv ps) ps = [] then ps.take 1 else Dd (lastv ps) ps
def Ris (ps : Pl) : Prop := ps.Pairwise fun a b => a.1 < b.1
def Bnd (ps : Pl) : Prop := ∀ p ∈ ps, 0 ≤ p.1 ∧ p.1 ≤ 167 ∧ 0 ≤ p.2 ∧ p.2 ≤ 9
theorem Dd_sub : ∀ (pv : Int) (l : Pl), (Dd pv l).Sublist l
  | _, [] => .slnil
  | pv, x :: r => by
    unfold Dd
    split
    · exact (Dd_sub x.2 r).cons x
    · exact (Dd_sub x.2 r).cons₂ x
theorem fw_sub (ps : Pl) : (fw ps).Sublist ps := by
  unfold fw
  split
  · exact List.take_sublist 1 ps
  · exact Dd_sub _ _
theorem rise_ris : ∀ {ps : Pl}, riseB (ps.map mk) = true → Ris ps
  | [], _ => .nil
  | [a], _ => .cons (by simp) .nil
  | a :: b :: r, h => by
    simp only [List.map_cons, riseB, Bool.and_eq_true, decide_eq_true_eq] at h
    have ih : Ris (b :: r) := rise_ris (ps := b :: r) (by rw [List.map_cons]; exact h.2)
    have hab : a.1 < b.1 := h.1
    refine .cons (fun x hx => ?_) ih
    rcases List.mem_cons.mp hx with rfl | hx
    · exact hab
    · exact Int.lt_trans hab ((List.pairwise_cons.mp ih).1 x hx)
theorem ris_rise : ∀ {ps : Pl}, Ris ps → riseB (ps.map mk) = true
  | [], _ => rfl
  | [a], _ => rfl
  | a :: b :: r, h => by
    simp only [List.map_cons, riseB, Bool.and_eq_true, decide_eq_true_eq]
    have h' := List.pairwise_cons.mp h
    exact ⟨h'.1 b List.mem_cons_self, by
      have := ris_rise (ps := b :: r) h'.2
      rwa [List.map_cons] at this⟩
theorem sw_mk {p : Int × Int} (h : 0 ≤ p.1 ∧ p.1 ≤ 167 ∧ 0 ≤ p.2 ∧ p.2 ≤ 9) : swB (mk p) = true := by
  simp [swB, mk, numB, h.1, h.2.1, h.2.2.1, h.2.2.2]
theorem pl_of {ps : Pl} (hl : ps.length ≤ 14) (r : Ris ps) (b : Bnd ps) : plB (.tup (ps.map mk)) = true := by
  unfold plB
  dsimp only
  rw [ris_rise r, decide_eq_true (by rw [List.length_map]; exact hl), List.all_eq_true.mpr fun d hd => ?_]
  · rfl
  · obtain ⟨p, hp, rfl⟩ := List.mem_map.mp hd
    exact sw_mk (b p hp)
theorem all_form : ∀ {ds : List D}, ds.all swB = true → ∃ ps : Pl, ds = ps.map mk ∧ Bnd ps
  | [], _ => ⟨[], rfl, fun _ h => by cases h⟩
  | d :: r, h => by
    rw [List.all_cons, Bool.and_eq_true] at h
    obtain ⟨ps, rfl, hb⟩ := all_form h.2
    obtain ⟨a, b, rfl, q⟩ := swB_form h.1
    refine ⟨(a, b) :: ps, rfl, fun p hp => ?_⟩
    rcases List.mem_cons.mp hp with rfl | hp
    · exact q
    · exact hb p hp
theorem pl_form {v : D} (h : plB v = true) : ∃ ps : Pl, v = .tup (ps.map mk) ∧ ps.length ≤ 14 ∧ Ris ps ∧ Bnd ps := by
  unfold plB at h
  split at h
  · simp only [Bool.and_eq_true, decide_eq_true_eq] at h
    obtain ⟨ps, rfl, hb⟩ := all_form h.1.2
    exact ⟨ps, rfl, by simpa using h.1.1, rise_ris h.2, hb⟩
  · cases h
theorem filt_dd : ∀ (pv : Int) (l : Pl), ((List.range l.length).filter fun i => decide ((l.getD i (0, 0)).2 ≠ if i = 0 then pv else (l.getD (i - 1) (0, 0)).2)).map (fun i => l.getD i (0, 0)) = Dd pv l
  | _, [] => rfl
  | pv, x :: r => by
    have ih := filt_dd x.2 r
    rw [List.length_cons, List.range_succ_eq_map, List.filter_cons]
    have tail : (((List.range r.length).map Nat.succ).filter fun i => decide (((x :: r).getD i (0, 0)).2 ≠ if i = 0 then pv else ((x :: r).getD (i - 1) (0, 0)).2)).map (fun i => (x :: r).getD i (0, 0)) = Dd x.2 r := by
      rw [← ih, List.filter_map, List.map_map]
      congr 1
      congr 1
      funext i
      cases i with
      | zero => rfl
      | succ i => rfl
    unfold Dd
    by_cases hx : x.2 = pv
    · rw [if_neg (by simp [hx]), if_pos hx, tail]
    · rw [if_pos (by simp [hx]), if_neg hx, List.map_cons, tail]
      rfl
/-! ### what it shows -/
def shf (h : Int) (acc : Int) (x : Int × Int) : Int := if x.1 ≤ h then x.2 else acc
def shw (ps : Pl) (h : Int) : Int := ps.foldl (shf h) (lastv ps)
theorem fold_dd (h : Int) : ∀ (l : Pl) (pv acc : Int), Ris l → (acc = pv ∨ ∀ x ∈ l, h < x.1) → (Dd pv l).foldl (shf h) acc = l.foldl (shf h) acc
  | [], _, _, _, _ => rfl
  | x :: r, pv, acc, hr, hc => by
    have hr' := List.pairwise_cons.mp hr
    have nx : ∀ a, a = shf h acc x → (a = x.2 ∨ ∀ y ∈ r, h < y.1) := fun a ha => by
      by_cases hx : x.1 ≤ h
      · left; rw [ha]; unfold shf; rw [if_pos hx]
      · right; intro y hy
        have := hr'.1 y hy
        omega
    unfold Dd
    split
    · rename_i e
      have e2 : shf h acc x = acc := by
        unfold shf
        split
        · rename_i hx
          rcases hc with hc | hc
          · rw [hc, e]
          · have := hc x List.mem_cons_self
            omega
        · rfl
      rw [List.foldl_cons, e2]
      exact fold_dd h r x.2 acc hr'.2 (nx acc e2.symm)
    · rw [List.foldl_cons, List.foldl_cons]
      exact fold_dd h r x.2 _ hr'.2 (nx _ rfl)
theorem lastv_cons (x : Int × Int) (r : Pl) : lastv (x :: r) = if r = [] then x.2 else lastv r := by
  cases r with
  | nil => rfl
  | cons y s => simp [lastv, List.getLast?_cons_cons]
theorem dd_last : ∀ (pv : Int) (l : Pl), (Dd pv l = [] → ∀ x ∈ l, x.2 = pv) ∧ (Dd pv l ≠ [] → lastv (Dd pv l) = lastv l)
  | _, [] => ⟨fun _ x h => (nomatch h), fun h => (h rfl).elim⟩
  | pv, x :: r => by
    obtain ⟨i1, i2⟩ := dd_last x.2 r
    unfold Dd
    split
    · rename_i e
      refine ⟨fun h y hy => ?_, fun h => ?_⟩
      · rcases List.mem_cons.mp hy with rfl | hy
        · exact e
        · rw [i1 h y hy, e]
      · rw [i2 h, lastv_cons]
        split
        · rename_i hr; subst hr; exact (h rfl).elim
        · rfl
    · refine ⟨fun h => (by cases h), fun _ => ?_⟩
      rw [lastv_cons, lastv_cons]
      by_cases hd : Dd x.2 r = []
      · rw [if_pos hd]
        split
        · rfl
        · rename_i hr
          have all := i1 hd
          unfold lastv
          cases hl : r.getLast? with
          | none => exact absurd (List.getLast?_eq_none_iff.mp hl) hr
          | some y => exact (all y (List.mem_of_getLast? hl)).symm
      · rw [if_neg hd, i2 hd, if_neg]
        intro hr
        subst hr
        exact hd rfl
theorem shw_fw {ps : Pl} (r : Ris ps) (h : Int) (hne : ps ≠ []) : fw ps ≠ [] ∧ shw (fw ps) h = shw ps h := by
  unfold fw
  split
  · rename_i e
    obtain ⟨x, s, rfl⟩ := List.exists_cons_of_ne_nil hne
    have all := (dd_last _ _).1 e
    refine ⟨by simp, ?_⟩
    have key : ∀ (l : Pl) (a : Int), (∀ x ∈ l, x.2 = a) → l.foldl (shf h) a = a := by
      intro l a
      induction l with
      | nil => intro _; rfl
      | cons y t ih =>
        intro hy
        rw [List.foldl_cons]
        have : shf h a y = a := by
          unfold shf
          split
          · exact hy y List.mem_cons_self
          · rfl
        rw [this]
        exact ih fun z hz => hy z (List.mem_cons_of_mem _ hz)
    have hx : x.2 = lastv (x :: s) := all x List.mem_cons_self
    unfold shw
    rw [key _ _ all]
    have e1 : lastv (List.take 1 (x :: s)) = x.2 := rfl
    rw [e1]
    rw [key _ _ (by simp)]
    exact hx
  · rename_i e
    refine ⟨e, ?_⟩
    unfold shw
    rw [(dd_last _ _).2 e]
    exact fold_dd h ps _ _ r (.inl rfl)
/-- neighbours differ -/
def Nbr : Int → Pl → Prop
  | _, [] => True
  | pv, x :: r => x.2 ≠ pv ∧ Nbr x.2 r
theorem dd_nbr : ∀ (pv : Int) (l : Pl), Nbr pv (Dd pv l)
  | _, [] => trivial
  | pv, x :: r => by
    unfold Dd
    split
    · rename_i e
      have := dd_nbr x.2 r
      rw [e] at this ⊢
      exact this
    · rename_i e
      exact ⟨e, dd_nbr x.2 r⟩
theorem r_check_plan {P : Nat → Option FDef} (H : HPl P) (n : Nat) (st : AS) (v : D) (h : tyPl st v = true) : callF P (n + 4) 4 [v] st = if plB v = true then .ok .non st else .exn 1 .non st := by
  rw [callF_eq H.check_plan (n + 3) _ rfl]
  unfold f_check_plan
  cases hp : plB v with
  | true => simp [r_is_plan H n st v h, hp, gcR_same]
  | false => simp [r_is_plan H n st v h, hp, gcR_exn]
theorem mk_get {ps : Pl} {i : Nat} (h : i < ps.length) : atI (ps.map mk) (i : Int) = some (mk (ps.getD i (0, 0))) := by
  rw [atI_nat (by rw [List.length_map]; exact h)]
  simp [h]
theorem mk_prev {ps : Pl} {i : Nat} (h : i < ps.length) : ∃ q, atI (ps.map mk) ((i : Int) - 1) = some (mk q) ∧ q.2 = if i = 0 then lastv ps else (ps.getD (i - 1) (0, 0)).2 := by
  cases i with
  | zero =>
    obtain ⟨l, x, rfl⟩ : ∃ l x, ps = l ++ [x] := ⟨ps.dropLast, ps.getLast (by intro e; subst e; simp at h), (List.dropLast_concat_getLast _).symm⟩
    refine ⟨x, ?_, ?_⟩
    · rw [List.map_append, List.map_singleton]
      exact atI_last _
    · rw [if_pos rfl]
      simp [lastv]
  | succ i =>
    refine ⟨_, ?_, by rw [if_neg (by omega)]⟩
    have e : ((i + 1 : Nat) : Int) - 1 = (i : Nat) := by omega
    rw [e, mk_get (by omega)]
    rfl
theorem ty_pl {ps : Pl} (st : AS) : tyPl st (.tup (ps.map mk)) = true := by
  simp [tyPl, tyB, tySw, mk]
theorem r_fewest_no {P : Nat → Option FDef} (H : HFw P) (n : Nat) (st : AS) (v : D) (h : tyPl st v = true) (hp : plB v = false) : callF P (n + 5) 7 [v] st = .exn 1 .non st := by
  rw [callF_eq H.fewest (n + 4) _ rfl]
  unfold f_fewest
  simp [r_check_plan H.toHPl n st v h, hp, gcR_exn]
theorem r_fewest {P : Nat → Option FDef} (H : HFw P) (n : Nat) (st : AS) (ps : Pl) (hl : ps.length ≤ 14) (r : Ris ps) (b : Bnd ps) : callF P (n + 5) 7 [.tup (ps.map mk)] st = .ok (.tup ((fw ps).map mk)) st := by
  rw [callF_eq H.fewest (n + 4) _ rfl]
  unfold f_fewest
  have hsm : small (ps.length : Int) = true := small_ok (by omega) (by omega)
  simp [r_check_plan H.toHPl n st _ (ty_pl st), pl_of hl r b, hsm, sized_rng (show ps.length ≤ 16777216 by omega)]
  rw [lcLoop_rangeF (watchOk_none _) (fun i => [some (.tup (ps.map mk)), none, some (.int i)]) (fun i => decide ((ps.getD i (0, 0)).2 ≠ if i = 0 then lastv ps else (ps.getD (i - 1) (0, 0)).2)) (fun i => mk (ps.getD i (0, 0))) 0 _ fun i hi => ⟨by simp, ?_, fun _ => ?_⟩]
  · have e : ((List.range ps.length).filter fun i => decide ((ps.getD i (0, 0)).2 ≠ if i = 0 then lastv ps else (ps.getD (i - 1) (0, 0)).2)).map (fun i => mk (ps.getD i (0, 0))) = (Dd (lastv ps) ps).map mk := by
      rw [← filt_dd, List.map_map]
      rfl
    rw [e]
    have ht := tru_lst (getLast_app st (.lst ((Dd (lastv ps) ps).map mk)))
    simp [truR, ht]
    unfold fw
    by_cases hd : Dd (lastv ps) ps = []
    · have ec : cutD (ps.map mk) none (some 1) = List.take 1 (ps.map mk) := by
        unfold cutD sIx
        cases ps <;> simp
      simp only [hd, List.map_nil, List.isEmpty_nil, Bool.not_true, Bool.false_eq_true, if_false, bind_ok, sl_tup, stm_ok, seq_ret, res_ret, ec, if_true, List.map_take]
      exact gcR_app _ _ (reflessAll_iff.mpr fun d hd => by
        obtain ⟨p, _, rfl⟩ := List.mem_map.mp (List.mem_of_mem_take hd)
        rfl)
    · simp [hd, tuple_lst (getLast_app st (.lst ((Dd (lastv ps) ps).map mk)))]
      exact gcR_app _ _ (reflessAll_iff.mpr fun d hd => by
        obtain ⟨p, _, rfl⟩ := List.mem_map.mp hd
        rfl)
  · obtain ⟨q, h1, h2⟩ := mk_prev hi
    have g := mk_get hi
    generalize ps.getD i (0, 0) = z at g ⊢
    rw [← h2]
    simp [g, h1, mk]
    rfl
  · simp [mk_get hi]
end Pg
end
end

section
set_option Elab.async false
set_option linter.all false
set_option maxRecDepth 100000
set_option maxHeartbeats 1000000
/-! DeA: deeds, houses in the state, and the runs of the house's defs. -/
noncomputable section
namespace Pg
open PySem Ws
/-! ### words -/
@[simp] theorem ne_plan_turn : (("plan" : Str) = ("turn" : Str)) = False := eq_false (by decide)
@[simp] theorem ne_plan_back : (("plan" : Str) = ("back" : Str)) = False := eq_false (by decide)
@[simp] theorem ne_plan_away : (("plan" : Str) = ("away" : Str)) = False := eq_false (by decide)
@[simp] theorem ne_plan_home : (("plan" : Str) = ("home" : Str)) = False := eq_false (by decide)
@[simp] theorem ne_plan_follow : (("plan" : Str) = ("follow" : Str)) = False := eq_false (by decide)
@[simp] theorem ne_plan_next : (("plan" : Str) = ("next" : Str)) = False := eq_false (by decide)
@[simp] theorem ne_plan_hold : (("plan" : Str) = ("hold" : Str)) = False := eq_false (by decide)
@[simp] theorem ne_plan_till : (("plan" : Str) = ("till" : Str)) = False := eq_false (by decide)
@[simp] theorem ne_plan_newest : (("plan" : Str) = ("newest" : Str)) = False := eq_false (by decide)
@[simp] theorem ne_plan_oldest : (("plan" : Str) = ("oldest" : Str)) = False := eq_false (by decide)
@[simp] theorem ne_plan_late : (("plan" : Str) = ("late" : Str)) = False := eq_false (by decide)
@[simp] theorem ne_plan_bad : (("plan" : Str) = ("bad" : Str)) = False := eq_false (by decide)
@[simp] theorem ne_plan_good : (("plan" : Str) = ("good" : Str)) = False := eq_false (by decide)
@[simp] theorem ne_plan_count : (("plan" : Str) = ("count" : Str)) = False := eq_false (by decide)
@[simp] theorem ne_plan_order : (("plan" : Str) = ("order" : Str)) = False := eq_false (by decide)
@[simp] theorem ne_plan_room : (("plan" : Str) = ("room" : Str)) = False := eq_false (by decide)
@[simp] theorem ne_plan_value : (("plan" : Str) = ("value" : Str)) = False := eq_false (by decide)
@[simp] theorem ne_plan_until : (("plan" : Str) = ("until" : Str)) = False := eq_false (by decide)
@[simp] theorem ne_plan_stretch : (("plan" : Str) = ("stretch" : Str)) = False := eq_false (by decide)
@[simp] theorem ne_plan_offset : (("plan" : Str) = ("offset" : Str)) = False := eq_false (by decide)
@[simp] theorem ne_plan_ring : (("plan" : Str) = ("ring" : Str)) = False := eq_false (by decide)
@[simp] theorem ne_plan_hour : (("plan" : Str) = ("hour" : Str)) = False := eq_false (by decide)
@[simp] theorem ne_turn_plan : (("turn" : Str) = ("plan" : Str)) = False := eq_false (by decide)
@[simp] theorem ne_turn_back : (("turn" : Str) = ("back" : Str)) = False := eq_false (by decide)
@[simp] theorem ne_turn_away : (("turn" : Str) = ("away" : Str)) = False := eq_false (by decide)
@[simp] theorem ne_turn_home : (("turn" : Str) = ("home" : Str)) = False := eq_false (by decide)
@[simp] theorem ne_turn_follow : (("turn" : Str) = ("follow" : Str)) = False := eq_false (by decide)
@[simp] theorem ne_turn_next : (("turn" : Str) = ("next" : Str)) = False := eq_false (by decide)
@[simp] theorem ne_turn_hold : (("turn" : Str) = ("hold" : Str)) = False := eq_false (by decide)
@[simp] theorem ne_turn_till : (("turn" : Str) = ("till" : Str)) = False := eq_false (by decide)
@[simp] theorem ne_turn_newest : (("turn" : Str) = ("newest" : Str)) = False := eq_false (by decide)
@[simp] theorem ne_turn_oldest : (("turn" : Str) = ("oldest" : Str)) = False := eq_false (by decide)
@[simp] theorem ne_turn_late : (("turn" : Str) = ("late" : Str)) = False := eq_false (by decide)
@[simp] theorem ne_turn_bad : (("turn" : Str) = ("bad" : Str)) = False := eq_false (by decide)
@[simp] theorem ne_turn_good : (("turn" : Str) = ("good" : Str)) = False := eq_false (by decide)
@[simp] theorem ne_turn_count : (("turn" : Str) = ("count" : Str)) = False := eq_false (by decide)
@[simp] theorem ne_turn_order : (("turn" : Str) = ("order" : Str)) = False := eq_false (by decide)
@[simp] theorem ne_turn_room : (("turn" : Str) = ("room" : Str)) = False := eq_false (by decide)
@[simp] theorem ne_turn_value : (("turn" : Str) = ("value" : Str)) = False := eq_false (by decide)
@[simp] theorem ne_turn_until : (("turn" : Str) = ("until" : Str)) = False := eq_false (by decide)
@[simp] theorem ne_turn_stretch : (("turn" : Str) = ("stretch" : Str)) = False := eq_false (by decide)
@[simp] theorem ne_turn_offset : (("turn" : Str) = ("offset" : Str)) = False := eq_false (by decide)
@[simp] theorem ne_turn_ring : (("turn" : Str) = ("ring" : Str)) = False := eq_false (by decide)
@[simp] theorem ne_turn_hour : (("turn" : Str) = ("hour" : Str)) = False := eq_false (by decide)
@[simp] theorem ne_back_plan : (("back" : Str) = ("plan" : Str)) = False := eq_false (by decide)
@[simp] theorem ne_back_turn : (("back" : Str) = ("turn" : Str)) = False := eq_false (by decide)
@[simp] theorem ne_back_away : (("back" : Str) = ("away" : Str)) = False := eq_false (by decide)
@[simp] theorem ne_back_home : (("back" : Str) = ("home" : Str)) = False := eq_false (by decide)
@[simp] theorem ne_back_follow : (("back" : Str) = ("follow" : Str)) = False := eq_false (by decide)
@[simp] theorem ne_back_next : (("back" : Str) = ("next" : Str)) = False := eq_false (by decide)
@[simp] theorem ne_back_hold : (("back" : Str) = ("hold" : Str)) = False := eq_false (by decide)
@[simp] theorem ne_back_till : (("back" : Str) = ("till" : Str)) = False := eq_false (by decide)
@[simp] theorem ne_back_newest : (("back" : Str) = ("newest" : Str)) = False := eq_false (by decide)
@[simp] theorem ne_back_oldest : (("back" : Str) = ("oldest" : Str)) = False := eq_false (by decide)
@[simp] theorem ne_back_late : (("back" : Str) = ("late" : Str)) = False := eq_false (by decide)
@[simp] theorem ne_back_bad : (("back" : Str) = ("bad" : Str)) = False := eq_false (by decide)
@[simp] theorem ne_back_good : (("back" : Str) = ("good" : Str)) = False := eq_false (by decide)
@[simp] theorem ne_back_count : (("back" : Str) = ("count" : Str)) = False := eq_false (by decide)
@[simp] theorem ne_back_order : (("back" : Str) = ("order" : Str)) = False := eq_false (by decide)
@[simp] theorem ne_back_room : (("back" : Str) = ("room" : Str)) = False := eq_false (by decide)
@[simp] theorem ne_back_value : (("back" : Str) = ("value" : Str)) = False := eq_false (by decide)
@[simp] theorem ne_back_until : (("back" : Str) = ("until" : Str)) = False := eq_false (by decide)
@[simp] theorem ne_back_stretch : (("back" : Str) = ("stretch" : Str)) = False := eq_false (by decide)
@[simp] theorem ne_back_offset : (("back" : Str) = ("offset" : Str)) = False := eq_false (by decide)
@[simp] theorem ne_back_ring : (("back" : Str) = ("ring" : Str)) = False := eq_false (by decide)
@[simp] theorem ne_back_hour : (("back" : Str) = ("hour" : Str)) = False := eq_false (by decide)
@[simp] theorem ne_away_plan : (("away" : Str) = ("plan" : Str)) = False := eq_false (by decide)
@[simp] theorem ne_away_turn : (("away" : Str) = ("turn" : Str)) = False := eq_false (by decide)
@[simp] theorem ne_away_back : (("away" : Str) = ("back" : Str)) = False := eq_false (by decide)
@[simp] theorem ne_away_home : (("away" : Str) = ("home" : Str)) = False := eq_false (by decide)
@[simp] theorem ne_away_follow : (("away" : Str) = ("follow" : Str)) = False := eq_false (by decide)
@[simp] theorem ne_away_next : (("away" : Str) = ("next" : Str)) = False := eq_false (by decide)
@[simp] theorem ne_away_hold : (("away" : Str) = ("hold" : Str)) = False := eq_false (by decide)
@[simp] theorem ne_away_till : (("away" : Str) = ("till" : Str)) = False := eq_false (by decide)
@[simp] theorem ne_away_newest : (("away" : Str) = ("newest" : Str)) = False := eq_false (by decide)
@[simp] theorem ne_away_oldest : (("away" : Str) = ("oldest" : Str)) = False := eq_false (by decide)
@[simp] theorem ne_away_late : (("away" : Str) = ("late" : Str)) = False := eq_false (by decide)
@[simp] theorem ne_away_bad : (("away" : Str) = ("bad" : Str)) = False := eq_false (by decide)
@[simp] theorem ne_away_good : (("away" : Str) = ("good" : Str)) = False := eq_false (by decide)
@[simp] theorem ne_away_count : (("away" : Str) = ("count" : Str)) = False := eq_false (by decide)
@[simp] theorem ne_away_order : (("away" : Str) = ("order" : Str)) = False := eq_false (by decide)
@[simp] theorem ne_away_room : (("away" : Str) = ("room" : Str)) = False := eq_false (by decide)
@[simp] theorem ne_away_value : (("away" : Str) = ("value" : Str)) = False := eq_false (by decide)
@[simp] theorem ne_away_until : (("away" : Str) = ("until" : Str)) = False := eq_false (by decide)
@[simp] theorem ne_away_stretch : (("away" : Str) = ("stretch" : Str)) = False := eq_false (by decide)
@[simp] theorem ne_away_offset : (("away" : Str) = ("offset" : Str)) = False := eq_false (by decide)
@[simp] theorem ne_away_ring : (("away" : Str) = ("ring" : Str)) = False := eq_false (by decide)
@[simp] theorem ne_away_hour : (("away" : Str) = ("hour" : Str)) = False := eq_false (by decide)
@[simp] theorem ne_home_plan : (("home" : Str) = ("plan" : Str)) = False := eq_false (by decide)
@[simp] theorem ne_home_turn : (("home" : Str) = ("turn" : Str)) = False := eq_false (by decide)
@[simp] theorem ne_home_back : (("home" : Str) = ("back" : Str)) = False := eq_false (by decide)
@[simp] theorem ne_home_away : (("home" : Str) = ("away" : Str)) = False := eq_false (by decide)
@[simp] theorem ne_home_follow : (("home" : Str) = ("follow" : Str)) = False := eq_false (by decide)
@[simp] theorem ne_home_next : (("home" : Str) = ("next" : Str)) = False := eq_false (by decide)
@[simp] theorem ne_home_hold : (("home" : Str) = ("hold" : Str)) = False := eq_false (by decide)
@[simp] theorem ne_home_till : (("home" : Str) = ("till" : Str)) = False := eq_false (by decide)
@[simp] theorem ne_home_newest : (("home" : Str) = ("newest" : Str)) = False := eq_false (by decide)
@[simp] theorem ne_home_oldest : (("home" : Str) = ("oldest" : Str)) = False := eq_false (by decide)
@[simp] theorem ne_home_late : (("home" : Str) = ("late" : Str)) = False := eq_false (by decide)
@[simp] theorem ne_home_bad : (("home" : Str) = ("bad" : Str)) = False := eq_false (by decide)
@[simp] theorem ne_home_good : (("home" : Str) = ("good" : Str)) = False := eq_false (by decide)
@[simp] theorem ne_home_count : (("home" : Str) = ("count" : Str)) = False := eq_false (by decide)
@[simp] theorem ne_home_order : (("home" : Str) = ("order" : Str)) = False := eq_false (by decide)
@[simp] theorem ne_home_room : (("home" : Str) = ("room" : Str)) = False := eq_false (by decide)
@[simp] theorem ne_home_value : (("home" : Str) = ("value" : Str)) = False := eq_false (by decide)
@[simp] theorem ne_home_until : (("home" : Str) = ("until" : Str)) = False := eq_false (by decide)
@[simp] theorem ne_home_stretch : (("home" : Str) = ("stretch" : Str)) = False := eq_false (by decide)
@[simp] theorem ne_home_offset : (("home" : Str) = ("offset" : Str)) = False := eq_false (by decide)
@[simp] theorem ne_home_ring : (("home" : Str) = ("ring" : Str)) = False := eq_false (by decide)
@[simp] theorem ne_home_hour : (("home" : Str) = ("hour" : Str)) = False := eq_false (by decide)
@[simp] theorem ne_follow_plan : (("follow" : Str) = ("plan" : Str)) = False := eq_false (by decide)
@[simp] theorem ne_follow_turn : (("follow" : Str) = ("turn" : Str)) = False := eq_false (by decide)
@[simp] theorem ne_follow_back : (("follow" : Str) = ("back" : Str)) = False := eq_false (by decide)
@[simp] theorem ne_follow_away : (("follow" : Str) = ("away" : Str)) = False := eq_false (by decide)
@[simp] theorem ne_follow_home : (("follow" : Str) = ("home" : Str)) = False := eq_false (by decide)
@[simp] theorem ne_follow_next : (("follow" : Str) = ("next" : Str)) = False := eq_false (by decide)
@[simp] theorem ne_follow_hold : (("follow" : Str) = ("hold" : Str)) = False := eq_false (by decide)
@[simp] theorem ne_follow_till : (("follow" : Str) = ("till" : Str)) = False := eq_false (by decide)
@[simp] theorem ne_follow_newest : (("follow" : Str) = ("newest" : Str)) = False := eq_false (by decide)
@[simp] theorem ne_follow_oldest : (("follow" : Str) = ("oldest" : Str)) = False := eq_false (by decide)
@[simp] theorem ne_follow_late : (("follow" : Str) = ("late" : Str)) = False := eq_false (by decide)
@[simp] theorem ne_follow_bad : (("follow" : Str) = ("bad" : Str)) = False := eq_false (by decide)
@[simp] theorem ne_follow_good : (("follow" : Str) = ("good" : Str)) = False := eq_false (by decide)
@[simp] theorem ne_follow_count : (("follow" : Str) = ("count" : Str)) = False := eq_false (by decide)
@[simp] theorem ne_follow_order : (("follow" : Str) = ("order" : Str)) = False := eq_false (by decide)
@[simp] theorem ne_follow_room : (("follow" : Str) = ("room" : Str)) = False := eq_false (by decide)
@[simp] theorem ne_follow_value : (("follow" : Str) = ("value" : Str)) = False := eq_false (by decide)
@[simp] theorem ne_follow_until : (("follow" : Str) = ("until" : Str)) = False := eq_false (by decide)
@[simp] theorem ne_follow_stretch : (("follow" : Str) = ("stretch" : Str)) = False := eq_false (by decide)
@[simp] theorem ne_follow_offset : (("follow" : Str) = ("offset" : Str)) = False := eq_false (by decide)
@[simp] theorem ne_follow_ring : (("follow" : Str) = ("ring" : Str)) = False := eq_false (by decide)
@[simp] theorem ne_follow_hour : (("follow" : Str) = ("hour" : Str)) = False := eq_false (by decide)
@[simp] theorem ne_next_plan : (("next" : Str) = ("plan" : Str)) = False := eq_false (by decide)
@[simp] theorem ne_next_turn : (("next" : Str) = ("turn" : Str)) = False := eq_false (by decide)
@[simp] theorem ne_next_back : (("next" : Str) = ("back" : Str)) = False := eq_false (by decide)
@[simp] theorem ne_next_away : (("next" : Str) = ("away" : Str)) = False := eq_false (by decide)
@[simp] theorem ne_next_home : (("next" : Str) = ("home" : Str)) = False := eq_false (by decide)
@[simp] theorem ne_next_follow : (("next" : Str) = ("follow" : Str)) = False := eq_false (by decide)
@[simp] theorem ne_next_hold : (("next" : Str) = ("hold" : Str)) = False := eq_false (by decide)
@[simp] theorem ne_next_till : (("next" : Str) = ("till" : Str)) = False := eq_false (by decide)
@[simp] theorem ne_next_newest : (("next" : Str) = ("newest" : Str)) = False := eq_false (by decide)
@[simp] theorem ne_next_oldest : (("next" : Str) = ("oldest" : Str)) = False := eq_false (by decide)
@[simp] theorem ne_next_late : (("next" : Str) = ("late" : Str)) = False := eq_false (by decide)
@[simp] theorem ne_next_bad : (("next" : Str) = ("bad" : Str)) = False := eq_false (by decide)
@[simp] theorem ne_next_good : (("next" : Str) = ("good" : Str)) = False := eq_false (by decide)
@[simp] theorem ne_next_count : (("next" : Str) = ("count" : Str)) = False := eq_false (by decide)
@[simp] theorem ne_next_order : (("next" : Str) = ("order" : Str)) = False := eq_false (by decide)
@[simp] theorem ne_next_room : (("next" : Str) = ("room" : Str)) = False := eq_false (by decide)
@[simp] theorem ne_next_value : (("next" : Str) = ("value" : Str)) = False := eq_false (by decide)
@[simp] theorem ne_next_until : (("next" : Str) = ("until" : Str)) = False := eq_false (by decide)
@[simp] theorem ne_next_stretch : (("next" : Str) = ("stretch" : Str)) = False := eq_false (by decide)
@[simp] theorem ne_next_offset : (("next" : Str) = ("offset" : Str)) = False := eq_false (by decide)
@[simp] theorem ne_next_ring : (("next" : Str) = ("ring" : Str)) = False := eq_false (by decide)
@[simp] theorem ne_next_hour : (("next" : Str) = ("hour" : Str)) = False := eq_false (by decide)
@[simp] theorem ne_hold_plan : (("hold" : Str) = ("plan" : Str)) = False := eq_false (by decide)
@[simp] theorem ne_hold_turn : (("hold" : Str) = ("turn" : Str)) = False := eq_false (by decide)
@[simp] theorem ne_hold_back : (("hold" : Str) = ("back" : Str)) = False := eq_false (by decide)
@[simp] theorem ne_hold_away : (("hold" : Str) = ("away" : Str)) = False := eq_false (by decide)
@[simp] theorem ne_hold_home : (("hold" : Str) = ("home" : Str)) = False := eq_false (by decide)
@[simp] theorem ne_hold_follow : (("hold" : Str) = ("follow" : Str)) = False := eq_false (by decide)
@[simp] theorem ne_hold_next : (("hold" : Str) = ("next" : Str)) = False := eq_false (by decide)
@[simp] theorem ne_hold_till : (("hold" : Str) = ("till" : Str)) = False := eq_false (by decide)
@[simp] theorem ne_hold_newest : (("hold" : Str) = ("newest" : Str)) = False := eq_false (by decide)
@[simp] theorem ne_hold_oldest : (("hold" : Str) = ("oldest" : Str)) = False := eq_false (by decide)
@[simp] theorem ne_hold_late : (("hold" : Str) = ("late" : Str)) = False := eq_false (by decide)
@[simp] theorem ne_hold_bad : (("hold" : Str) = ("bad" : Str)) = False := eq_false (by decide)
@[simp] theorem ne_hold_good : (("hold" : Str) = ("good" : Str)) = False := eq_false (by decide)
@[simp] theorem ne_hold_count : (("hold" : Str) = ("count" : Str)) = False := eq_false (by decide)
@[simp] theorem ne_hold_order : (("hold" : Str) = ("order" : Str)) = False := eq_false (by decide)
@[simp] theorem ne_hold_room : (("hold" : Str) = ("room" : Str)) = False := eq_false (by decide)
@[simp] theorem ne_hold_value : (("hold" : Str) = ("value" : Str)) = False := eq_false (by decide)
@[simp] theorem ne_hold_until : (("hold" : Str) = ("until" : Str)) = False := eq_false (by decide)
@[simp] theorem ne_hold_stretch : (("hold" : Str) = ("stretch" : Str)) = False := eq_false (by decide)
@[simp] theorem ne_hold_offset : (("hold" : Str) = ("offset" : Str)) = False := eq_false (by decide)
@[simp] theorem ne_hold_ring : (("hold" : Str) = ("ring" : Str)) = False := eq_false (by decide)
@[simp] theorem ne_hold_hour : (("hold" : Str) = ("hour" : Str)) = False := eq_false (by decide)
@[simp] theorem ne_till_plan : (("till" : Str) = ("plan" : Str)) = False := eq_false (by decide)
@[simp] theorem ne_till_turn : (("till" : Str) = ("turn" : Str)) = False := eq_false (by decide)
@[simp] theorem ne_till_back : (("till" : Str) = ("back" : Str)) = False := eq_false (by decide)
@[simp] theorem ne_till_away : (("till" : Str) = ("away" : Str)) = False := eq_false (by decide)
@[simp] theorem ne_till_home : (("till" : Str) = ("home" : Str)) = False := eq_false (by decide)
@[simp] theorem ne_till_follow : (("till" : Str) = ("follow" : Str)) = False := eq_false (by decide)
@[simp] theorem ne_till_next : (("till" : Str) = ("next" : Str)) = False := eq_false (by decide)
@[simp] theorem ne_till_hold : (("till" : Str) = ("hold" : Str)) = False := eq_false (by decide)
@[simp] theorem ne_till_newest : (("till" : Str) = ("newest" : Str)) = False := eq_false (by decide)
@[simp] theorem ne_till_oldest : (("till" : Str) = ("oldest" : Str)) = False := eq_false (by decide)
@[simp] theorem ne_till_late : (("till" : Str) = ("late" : Str)) = False := eq_false (by decide)
@[simp] theorem ne_till_bad : (("till" : Str) = ("bad" : Str)) = False := eq_false (by decide)
@[simp] theorem ne_till_good : (("till" : Str) = ("good" : Str)) = False := eq_false (by decide)
@[simp] theorem ne_till_count : (("till" : Str) = ("count" : Str)) = False := eq_false (by decide)
@[simp] theorem ne_till_order : (("till" : Str) = ("order" : Str)) = False := eq_false (by decide)
@[simp] theorem ne_till_room : (("till" : Str) = ("room" : Str)) = False := eq_false (by decide)
@[simp] theorem ne_till_value : (("till" : Str) = ("value" : Str)) = False := eq_false (by decide)
@[simp] theorem ne_till_until : (("till" : Str) = ("until" : Str)) = False := eq_false (by decide)
@[simp] theorem ne_till_stretch : (("till" : Str) = ("stretch" : Str)) = False := eq_false (by decide)
@[simp] theorem ne_till_offset : (("till" : Str) = ("offset" : Str)) = False := eq_false (by decide)
@[simp] theorem ne_till_ring : (("till" : Str) = ("ring" : Str)) = False := eq_false (by decide)
@[simp] theorem ne_till_hour : (("till" : Str) = ("hour" : Str)) = False := eq_false (by decide)
@[simp] theorem ne_newest_plan : (("newest" : Str) = ("plan" : Str)) = False := eq_false (by decide)
@[simp] theorem ne_newest_turn : (("newest" : Str) = ("turn" : Str)) = False := eq_false (by decide)
@[simp] theorem ne_newest_back : (("newest" : Str) = ("back" : Str)) = False := eq_false (by decide)
@[simp] theorem ne_newest_away : (("newest" : Str) = ("away" : Str)) = False := eq_false (by decide)
@[simp] theorem ne_newest_home : (("newest" : Str) = ("home" : Str)) = False := eq_false (by decide)
@[simp] theorem ne_newest_follow : (("newest" : Str) = ("follow" : Str)) = False := eq_false (by decide)
@[simp] theorem ne_newest_next : (("newest" : Str) = ("next" : Str)) = False := eq_false (by decide)
@[simp] theorem ne_newest_hold : (("newest" : Str) = ("hold" : Str)) = False := eq_false (by decide)
@[simp] theorem ne_newest_till : (("newest" : Str) = ("till" : Str)) = False := eq_false (by decide)
@[simp] theorem ne_newest_oldest : (("newest" : Str) = ("oldest" : Str)) = False := eq_false (by decide)
@[simp] theorem ne_newest_late : (("newest" : Str) = ("late" : Str)) = False := eq_false (by decide)
@[simp] theorem ne_newest_bad : (("newest" : Str) = ("bad" : Str)) = False := eq_false (by decide)
@[simp] theorem ne_newest_good : (("newest" : Str) = ("good" : Str)) = False := eq_false (by decide)
@[simp] theorem ne_newest_count : (("newest" : Str) = ("count" : Str)) = False := eq_false (by decide)
@[simp] theorem ne_newest_order : (("newest" : Str) = ("order" : Str)) = False := eq_false (by decide)
@[simp] theorem ne_newest_room : (("newest" : Str) = ("room" : Str)) = False := eq_false (by decide)
@[simp] theorem ne_newest_value : (("newest" : Str) = ("value" : Str)) = False := eq_false (by decide)
@[simp] theorem ne_newest_until : (("newest" : Str) = ("until" : Str)) = False := eq_false (by decide)
@[simp] theorem ne_newest_stretch : (("newest" : Str) = ("stretch" : Str)) = False := eq_false (by decide)
@[simp] theorem ne_newest_offset : (("newest" : Str) = ("offset" : Str)) = False := eq_false (by decide)
@[simp] theorem ne_newest_ring : (("newest" : Str) = ("ring" : Str)) = False := eq_false (by decide)
@[simp] theorem ne_newest_hour : (("newest" : Str) = ("hour" : Str)) = False := eq_false (by decide)
@[simp] theorem ne_oldest_plan : (("oldest" : Str) = ("plan" : Str)) = False := eq_false (by decide)
@[simp] theorem ne_oldest_turn : (("oldest" : Str) = ("turn" : Str)) = False := eq_false (by decide)
@[simp] theorem ne_oldest_back : (("oldest" : Str) = ("back" : Str)) = False := eq_false (by decide)
@[simp] theorem ne_oldest_away : (("oldest" : Str) = ("away" : Str)) = False := eq_false (by decide)
@[simp] theorem ne_oldest_home : (("oldest" : Str) = ("home" : Str)) = False := eq_false (by decide)
@[simp] theorem ne_oldest_follow : (("oldest" : Str) = ("follow" : Str)) = False := eq_false (by decide)
@[simp] theorem ne_oldest_next : (("oldest" : Str) = ("next" : Str)) = False := eq_false (by decide)
@[simp] theorem ne_oldest_hold : (("oldest" : Str) = ("hold" : Str)) = False := eq_false (by decide)
@[simp] theorem ne_oldest_till : (("oldest" : Str) = ("till" : Str)) = False := eq_false (by decide)
@[simp] theorem ne_oldest_newest : (("oldest" : Str) = ("newest" : Str)) = False := eq_false (by decide)
@[simp] theorem ne_oldest_late : (("oldest" : Str) = ("late" : Str)) = False := eq_false (by decide)
@[simp] theorem ne_oldest_bad : (("oldest" : Str) = ("bad" : Str)) = False := eq_false (by decide)
@[simp] theorem ne_oldest_good : (("oldest" : Str) = ("good" : Str)) = False := eq_false (by decide)
@[simp] theorem ne_oldest_count : (("oldest" : Str) = ("count" : Str)) = False := eq_false (by decide)
@[simp] theorem ne_oldest_order : (("oldest" : Str) = ("order" : Str)) = False := eq_false (by decide)
@[simp] theorem ne_oldest_room : (("oldest" : Str) = ("room" : Str)) = False := eq_false (by decide)
@[simp] theorem ne_oldest_value : (("oldest" : Str) = ("value" : Str)) = False := eq_false (by decide)
@[simp] theorem ne_oldest_until : (("oldest" : Str) = ("until" : Str)) = False := eq_false (by decide)
@[simp] theorem ne_oldest_stretch : (("oldest" : Str) = ("stretch" : Str)) = False := eq_false (by decide)
@[simp] theorem ne_oldest_offset : (("oldest" : Str) = ("offset" : Str)) = False := eq_false (by decide)
@[simp] theorem ne_oldest_ring : (("oldest" : Str) = ("ring" : Str)) = False := eq_false (by decide)
@[simp] theorem ne_oldest_hour : (("oldest" : Str) = ("hour" : Str)) = False := eq_false (by decide)
@[simp] theorem ne_late_plan : (("late" : Str) = ("plan" : Str)) = False := eq_false (by decide)
@[simp] theorem ne_late_turn : (("late" : Str) = ("turn" : Str)) = False := eq_false (by decide)
@[simp] theorem ne_late_back : (("late" : Str) = ("back" : Str)) = False := eq_false (by decide)
@[simp] theorem ne_late_away : (("late" : Str) = ("away" : Str)) = False := eq_false (by decide)
@[simp] theorem ne_late_home : (("late" : Str) = ("home" : Str)) = False := eq_false (by decide)
@[simp] theorem ne_late_follow : (("late" : Str) = ("follow" : Str)) = False := eq_false (by decide)
@[simp] theorem ne_late_next : (("late" : Str) = ("next" : Str)) = False := eq_false (by decide)
@[simp] theorem ne_late_hold : (("late" : Str) = ("hold" : Str)) = False := eq_false (by decide)
@[simp] theorem ne_late_till : (("late" : Str) = ("till" : Str)) = False := eq_false (by decide)
@[simp] theorem ne_late_newest : (("late" : Str) = ("newest" : Str)) = False := eq_false (by decide)
@[simp] theorem ne_late_oldest : (("late" : Str) = ("oldest" : Str)) = False := eq_false (by decide)
@[simp] theorem ne_late_bad : (("late" : Str) = ("bad" : Str)) = False := eq_false (by decide)
@[simp] theorem ne_late_good : (("late" : Str) = ("good" : Str)) = False := eq_false (by decide)
@[simp] theorem ne_late_count : (("late" : Str) = ("count" : Str)) = False := eq_false (by decide)
@[simp] theorem ne_late_order : (("late" : Str) = ("order" : Str)) = False := eq_false (by decide)
@[simp] theorem ne_late_room : (("late" : Str) = ("room" : Str)) = False := eq_false (by decide)
@[simp] theorem ne_late_value : (("late" : Str) = ("value" : Str)) = False := eq_false (by decide)
@[simp] theorem ne_late_until : (("late" : Str) = ("until" : Str)) = False := eq_false (by decide)
@[simp] theorem ne_late_stretch : (("late" : Str) = ("stretch" : Str)) = False := eq_false (by decide)
@[simp] theorem ne_late_offset : (("late" : Str) = ("offset" : Str)) = False := eq_false (by decide)
@[simp] theorem ne_late_ring : (("late" : Str) = ("ring" : Str)) = False := eq_false (by decide)
@[simp] theorem ne_late_hour : (("late" : Str) = ("hour" : Str)) = False := eq_false (by decide)
@[simp] theorem ne_bad_plan : (("bad" : Str) = ("plan" : Str)) = False := eq_false (by decide)
@[simp] theorem ne_bad_turn : (("bad" : Str) = ("turn" : Str)) = False := eq_false (by decide)
@[simp] theorem ne_bad_back : (("bad" : Str) = ("back" : Str)) = False := eq_false (by decide)
@[simp] theorem ne_bad_away : (("bad" : Str) = ("away" : Str)) = False := eq_false (by decide)
@[simp] theorem ne_bad_home : (("bad" : Str) = ("home" : Str)) = False := eq_false (by decide)
@[simp] theorem ne_bad_follow : (("bad" : Str) = ("follow" : Str)) = False := eq_false (by decide)
@[simp] theorem ne_bad_next : (("bad" : Str) = ("next" : Str)) = False := eq_false (by decide)
@[simp] theorem ne_bad_hold : (("bad" : Str) = ("hold" : Str)) = False := eq_false (by decide)
@[simp] theorem ne_bad_till : (("bad" : Str) = ("till" : Str)) = False := eq_false (by decide)
@[simp] theorem ne_bad_newest : (("bad" : Str) = ("newest" : Str)) = False := eq_false (by decide)
@[simp] theorem ne_bad_oldest : (("bad" : Str) = ("oldest" : Str)) = False := eq_false (by decide)
@[simp] theorem ne_bad_late : (("bad" : Str) = ("late" : Str)) = False := eq_false (by decide)
@[simp] theorem ne_bad_good : (("bad" : Str) = ("good" : Str)) = False := eq_false (by decide)
@[simp] theorem ne_bad_count : (("bad" : Str) = ("count" : Str)) = False := eq_false (by decide)
@[simp] theorem ne_bad_order : (("bad" : Str) = ("order" : Str)) = False := eq_false (by decide)
@[simp] theorem ne_bad_room : (("bad" : Str) = ("room" : Str)) = False := eq_false (by decide)
@[simp] theorem ne_bad_value : (("bad" : Str) = ("value" : Str)) = False := eq_false (by decide)
@[simp] theorem ne_bad_until : (("bad" : Str) = ("until" : Str)) = False := eq_false (by decide)
@[simp] theorem ne_bad_stretch : (("bad" : Str) = ("stretch" : Str)) = False := eq_false (by decide)
@[simp] theorem ne_bad_offset : (("bad" : Str) = ("offset" : Str)) = False := eq_false (by decide)
@[simp] theorem ne_bad_ring : (("bad" : Str) = ("ring" : Str)) = False := eq_false (by decide)
@[simp] theorem ne_bad_hour : (("bad" : Str) = ("hour" : Str)) = False := eq_false (by decide)
@[simp] theorem ne_good_plan : (("good" : Str) = ("plan" : Str)) = False := eq_false (by decide)
@[simp] theorem ne_good_turn : (("good" : Str) = ("turn" : Str)) = False := eq_false (by decide)
@[simp] theorem ne_good_back : (("good" : Str) = ("back" : Str)) = False := eq_false (by decide)
@[simp] theorem ne_good_away : (("good" : Str) = ("away" : Str)) = False := eq_false (by decide)
@[simp] theorem ne_good_home : (("good" : Str) = ("home" : Str)) = False := eq_false (by decide)
@[simp] theorem ne_good_follow : (("good" : Str) = ("follow" : Str)) = False := eq_false (by decide)
@[simp] theorem ne_good_next : (("good" : Str) = ("next" : Str)) = False := eq_false (by decide)
@[simp] theorem ne_good_hold : (("good" : Str) = ("hold" : Str)) = False := eq_false (by decide)
@[simp] theorem ne_good_till : (("good" : Str) = ("till" : Str)) = False := eq_false (by decide)
@[simp] theorem ne_good_newest : (("good" : Str) = ("newest" : Str)) = False := eq_false (by decide)
@[simp] theorem ne_good_oldest : (("good" : Str) = ("oldest" : Str)) = False := eq_false (by decide)
@[simp] theorem ne_good_late : (("good" : Str) = ("late" : Str)) = False := eq_false (by decide)
@[simp] theorem ne_good_bad : (("good" : Str) = ("bad" : Str)) = False := eq_false (by decide)
@[simp] theorem ne_good_count : (("good" : Str) = ("count" : Str)) = False := eq_false (by decide)
@[simp] theorem ne_good_order : (("good" : Str) = ("order" : Str)) = False := eq_false (by decide)
@[simp] theorem ne_good_room : (("good" : Str) = ("room" : Str)) = False := eq_false (by decide)
@[simp] theorem ne_good_value : (("good" : Str) = ("value" : Str)) = False := eq_false (by decide)
@[simp] theorem ne_good_until : (("good" : Str) = ("until" : Str)) = False := eq_false (by decide)
@[simp] theorem ne_good_stretch : (("good" : Str) = ("stretch" : Str)) = False := eq_false (by decide)
@[simp] theorem ne_good_offset : (("good" : Str) = ("offset" : Str)) = False := eq_false (by decide)
@[simp] theorem ne_good_ring : (("good" : Str) = ("ring" : Str)) = False := eq_false (by decide)
@[simp] theorem ne_good_hour : (("good" : Str) = ("hour" : Str)) = False := eq_false (by decide)
@[simp] theorem ne_count_plan : (("count" : Str) = ("plan" : Str)) = False := eq_false (by decide)
@[simp] theorem ne_count_turn : (("count" : Str) = ("turn" : Str)) = False := eq_false (by decide)
@[simp] theorem ne_count_back : (("count" : Str) = ("back" : Str)) = False := eq_false (by decide)
@[simp] theorem ne_count_away : (("count" : Str) = ("away" : Str)) = False := eq_false (by decide)
@[simp] theorem ne_count_home : (("count" : Str) = ("home" : Str)) = False := eq_false (by decide)
@[simp] theorem ne_count_follow : (("count" : Str) = ("follow" : Str)) = False := eq_false (by decide)
@[simp] theorem ne_count_next : (("count" : Str) = ("next" : Str)) = False := eq_false (by decide)
@[simp] theorem ne_count_hold : (("count" : Str) = ("hold" : Str)) = False := eq_false (by decide)
@[simp] theorem ne_count_till : (("count" : Str) = ("till" : Str)) = False := eq_false (by decide)
@[simp] theorem ne_count_newest : (("count" : Str) = ("newest" : Str)) = False := eq_false (by decide)
@[simp] theorem ne_count_oldest : (("count" : Str) = ("oldest" : Str)) = False := eq_false (by decide)
@[simp] theorem ne_count_late : (("count" : Str) = ("late" : Str)) = False := eq_false (by decide)
@[simp] theorem ne_count_bad : (("count" : Str) = ("bad" : Str)) = False := eq_false (by decide)
@[simp] theorem ne_count_good : (("count" : Str) = ("good" : Str)) = False := eq_false (by decide)
@[simp] theorem ne_count_order : (("count" : Str) = ("order" : Str)) = False := eq_false (by decide)
@[simp] theorem ne_count_room : (("count" : Str) = ("room" : Str)) = False := eq_false (by decide)
@[simp] theorem ne_count_value : (("count" : Str) = ("value" : Str)) = False := eq_false (by decide)
@[simp] theorem ne_count_until : (("count" : Str) = ("until" : Str)) = False := eq_false (by decide)
@[simp] theorem ne_count_stretch : (("count" : Str) = ("stretch" : Str)) = False := eq_false (by decide)
@[simp] theorem ne_count_offset : (("count" : Str) = ("offset" : Str)) = False := eq_false (by decide)
@[simp] theorem ne_count_ring : (("count" : Str) = ("ring" : Str)) = False := eq_false (by decide)
@[simp] theorem ne_count_hour : (("count" : Str) = ("hour" : Str)) = False := eq_false (by decide)
@[simp] theorem ne_order_plan : (("order" : Str) = ("plan" : Str)) = False := eq_false (by decide)
@[simp] theorem ne_order_turn : (("order" : Str) = ("turn" : Str)) = False := eq_false (by decide)
@[simp] theorem ne_order_back : (("order" : Str) = ("back" : Str)) = False := eq_false (by decide)
@[simp] theorem ne_order_away : (("order" : Str) = ("away" : Str)) = False := eq_false (by decide)
@[simp] theorem ne_order_home : (("order" : Str) = ("home" : Str)) = False := eq_false (by decide)
@[simp] theorem ne_order_follow : (("order" : Str) = ("follow" : Str)) = False := eq_false (by decide)
@[simp] theorem ne_order_next : (("order" : Str) = ("next" : Str)) = False := eq_false (by decide)
@[simp] theorem ne_order_hold : (("order" : Str) = ("hold" : Str)) = False := eq_false (by decide)
@[simp] theorem ne_order_till : (("order" : Str) = ("till" : Str)) = False := eq_false (by decide)
@[simp] theorem ne_order_newest : (("order" : Str) = ("newest" : Str)) = False := eq_false (by decide)
@[simp] theorem ne_order_oldest : (("order" : Str) = ("oldest" : Str)) = False := eq_false (by decide)
@[simp] theorem ne_order_late : (("order" : Str) = ("late" : Str)) = False := eq_false (by decide)
@[simp] theorem ne_order_bad : (("order" : Str) = ("bad" : Str)) = False := eq_false (by decide)
@[simp] theorem ne_order_good : (("order" : Str) = ("good" : Str)) = False := eq_false (by decide)
@[simp] theorem ne_order_count : (("order" : Str) = ("count" : Str)) = False := eq_false (by decide)
@[simp] theorem ne_order_room : (("order" : Str) = ("room" : Str)) = False := eq_false (by decide)
@[simp] theorem ne_order_value : (("order" : Str) = ("value" : Str)) = False := eq_false (by decide)
@[simp] theorem ne_order_until : (("order" : Str) = ("until" : Str)) = False := eq_false (by decide)
@[simp] theorem ne_order_stretch : (("order" : Str) = ("stretch" : Str)) = False := eq_false (by decide)
@[simp] theorem ne_order_offset : (("order" : Str) = ("offset" : Str)) = False := eq_false (by decide)
@[simp] theorem ne_order_ring : (("order" : Str) = ("ring" : Str)) = False := eq_false (by decide)
@[simp] theorem ne_order_hour : (("order" : Str) = ("hour" : Str)) = False := eq_false (by decide)
@[simp] theorem ne_room_plan : (("room" : Str) = ("plan" : Str)) = False := eq_false (by decide)
@[simp] theorem ne_room_turn : (("room" : Str) = ("turn" : Str)) = False := eq_false (by decide)
@[simp] theorem ne_room_back : (("room" : Str) = ("back" : Str)) = False := eq_false (by decide)
@[simp] theorem ne_room_away : (("room" : Str) = ("away" : Str)) = False := eq_false (by decide)
@[simp] theorem ne_room_home : (("room" : Str) = ("home" : Str)) = False := eq_false (by decide)
@[simp] theorem ne_room_follow : (("room" : Str) = ("follow" : Str)) = False := eq_false (by decide)
@[simp] theorem ne_room_next : (("room" : Str) = ("next" : Str)) = False := eq_false (by decide)
@[simp] theorem ne_room_hold : (("room" : Str) = ("hold" : Str)) = False := eq_false (by decide)
@[simp] theorem ne_room_till : (("room" : Str) = ("till" : Str)) = False := eq_false (by decide)
@[simp] theorem ne_room_newest : (("room" : Str) = ("newest" : Str)) = False := eq_false (by decide)
@[simp] theorem ne_room_oldest : (("room" : Str) = ("oldest" : Str)) = False := eq_false (by decide)
@[simp] theorem ne_room_late : (("room" : Str) = ("late" : Str)) = False := eq_false (by decide)
@[simp] theorem ne_room_bad : (("room" : Str) = ("bad" : Str)) = False := eq_false (by decide)
@[simp] theorem ne_room_good : (("room" : Str) = ("good" : Str)) = False := eq_false (by decide)
@[simp] theorem ne_room_count : (("room" : Str) = ("count" : Str)) = False := eq_false (by decide)
@[simp] theorem ne_room_order : (("room" : Str) = ("order" : Str)) = False := eq_false (by decide)
@[simp] theorem ne_room_value : (("room" : Str) = ("value" : Str)) = False := eq_false (by decide)
@[simp] theorem ne_room_until : (("room" : Str) = ("until" : Str)) = False := eq_false (by decide)
@[simp] theorem ne_room_stretch : (("room" : Str) = ("stretch" : Str)) = False := eq_false (by decide)
@[simp] theorem ne_room_offset : (("room" : Str) = ("offset" : Str)) = False := eq_false (by decide)
@[simp] theorem ne_room_ring : (("room" : Str) = ("ring" : Str)) = False := eq_false (by decide)
@[simp] theorem ne_room_hour : (("room" : Str) = ("hour" : Str)) = False := eq_false (by decide)
@[simp] theorem ne_value_plan : (("value" : Str) = ("plan" : Str)) = False := eq_false (by decide)
@[simp] theorem ne_value_turn : (("value" : Str) = ("turn" : Str)) = False := eq_false (by decide)
@[simp] theorem ne_value_back : (("value" : Str) = ("back" : Str)) = False := eq_false (by decide)
@[simp] theorem ne_value_away : (("value" : Str) = ("away" : Str)) = False := eq_false (by decide)
@[simp] theorem ne_value_home : (("value" : Str) = ("home" : Str)) = False := eq_false (by decide)
@[simp] theorem ne_value_follow : (("value" : Str) = ("follow" : Str)) = False := eq_false (by decide)
@[simp] theorem ne_value_next : (("value" : Str) = ("next" : Str)) = False := eq_false (by decide)
@[simp] theorem ne_value_hold : (("value" : Str) = ("hold" : Str)) = False := eq_false (by decide)
@[simp] theorem ne_value_till : (("value" : Str) = ("till" : Str)) = False := eq_false (by decide)
@[simp] theorem ne_value_newest : (("value" : Str) = ("newest" : Str)) = False := eq_false (by decide)
@[simp] theorem ne_value_oldest : (("value" : Str) = ("oldest" : Str)) = False := eq_false (by decide)
@[simp] theorem ne_value_late : (("value" : Str) = ("late" : Str)) = False := eq_false (by decide)
@[simp] theorem ne_value_bad : (("value" : Str) = ("bad" : Str)) = False := eq_false (by decide)
@[simp] theorem ne_value_good : (("value" : Str) = ("good" : Str)) = False := eq_false (by decide)
@[simp] theorem ne_value_count : (("value" : Str) = ("count" : Str)) = False := eq_false (by decide)
@[simp] theorem ne_value_order : (("value" : Str) = ("order" : Str)) = False := eq_false (by decide)
@[simp] theorem ne_value_room : (("value" : Str) = ("room" : Str)) = False := eq_false (by decide)
@[simp] theorem ne_value_until : (("value" : Str) = ("until" : Str)) = False := eq_false (by decide)
@[simp] theorem ne_value_stretch : (("value" : Str) = ("stretch" : Str)) = False := eq_false (by decide)
@[simp] theorem ne_value_offset : (("value" : Str) = ("offset" : Str)) = False := eq_false (by decide)
@[simp] theorem ne_value_ring : (("value" : Str) = ("ring" : Str)) = False := eq_false (by decide)
@[simp] theorem ne_value_hour : (("value" : Str) = ("hour" : Str)) = False := eq_false (by decide)
@[simp] theorem ne_until_plan : (("until" : Str) = ("plan" : Str)) = False := eq_false (by decide)
@[simp] theorem ne_until_turn : (("until" : Str) = ("turn" : Str)) = False := eq_false (by decide)
@[simp] theorem ne_until_back : (("until" : Str) = ("back" : Str)) = False := eq_false (by decide)
@[simp] theorem ne_until_away : (("until" : Str) = ("away" : Str)) = False := eq_false (by decide)
@[simp] theorem ne_until_home : (("until" : Str) = ("home" : Str)) = False := eq_false (by decide)
@[simp] theorem ne_until_follow : (("until" : Str) = ("follow" : Str)) = False := eq_false (by decide)
@[simp] theorem ne_until_next : (("until" : Str) = ("next" : Str)) = False := eq_false (by decide)
@[simp] theorem ne_until_hold : (("until" : Str) = ("hold" : Str)) = False := eq_false (by decide)
@[simp] theorem ne_until_till : (("until" : Str) = ("till" : Str)) = False := eq_false (by decide)
@[simp] theorem ne_until_newest : (("until" : Str) = ("newest" : Str)) = False := eq_false (by decide)
@[simp] theorem ne_until_oldest : (("until" : Str) = ("oldest" : Str)) = False := eq_false (by decide)
@[simp] theorem ne_until_late : (("until" : Str) = ("late" : Str)) = False := eq_false (by decide)
@[simp] theorem ne_until_bad : (("until" : Str) = ("bad" : Str)) = False := eq_false (by decide)
@[simp] theorem ne_until_good : (("until" : Str) = ("good" : Str)) = False := eq_false (by decide)
@[simp] theorem ne_until_count : (("until" : Str) = ("count" : Str)) = False := eq_false (by decide)
@[simp] theorem ne_until_order : (("until" : Str) = ("order" : Str)) = False := eq_false (by decide)
@[simp] theorem ne_until_room : (("until" : Str) = ("room" : Str)) = False := eq_false (by decide)
@[simp] theorem ne_until_value : (("until" : Str) = ("value" : Str)) = False := eq_false (by decide)
@[simp] theorem ne_until_stretch : (("until" : Str) = ("stretch" : Str)) = False := eq_false (by decide)
@[simp] theorem ne_until_offset : (("until" : Str) = ("offset" : Str)) = False := eq_false (by decide)
@[simp] theorem ne_until_ring : (("until" : Str) = ("ring" : Str)) = False := eq_false (by decide)
@[simp] theorem ne_until_hour : (("until" : Str) = ("hour" : Str)) = False := eq_false (by decide)
@[simp] theorem ne_stretch_plan : (("stretch" : Str) = ("plan" : Str)) = False := eq_false (by decide)
@[simp] theorem ne_stretch_turn : (("stretch" : Str) = ("turn" : Str)) = False := eq_false (by decide)
@[simp] theorem ne_stretch_back : (("stretch" : Str) = ("back" : Str)) = False := eq_false (by decide)
@[simp] theorem ne_stretch_away : (("stretch" : Str) = ("away" : Str)) = False := eq_false (by decide)
@[simp] theorem ne_stretch_home : (("stretch" : Str) = ("home" : Str)) = False := eq_false (by decide)
@[simp] theorem ne_stretch_follow : (("stretch" : Str) = ("follow" : Str)) = False := eq_false (by decide)
@[simp] theorem ne_stretch_next : (("stretch" : Str) = ("next" : Str)) = False := eq_false (by decide)
@[simp] theorem ne_stretch_hold : (("stretch" : Str) = ("hold" : Str)) = False := eq_false (by decide)
@[simp] theorem ne_stretch_till : (("stretch" : Str) = ("till" : Str)) = False := eq_false (by decide)
@[simp] theorem ne_stretch_newest : (("stretch" : Str) = ("newest" : Str)) = False := eq_false (by decide)
@[simp] theorem ne_stretch_oldest : (("stretch" : Str) = ("oldest" : Str)) = False := eq_false (by decide)
@[simp] theorem ne_stretch_late : (("stretch" : Str) = ("late" : Str)) = False := eq_false (by decide)
@[simp] theorem ne_stretch_bad : (("stretch" : Str) = ("bad" : Str)) = False := eq_false (by decide)
@[simp] theorem ne_stretch_good : (("stretch" : Str) = ("good" : Str)) = False := eq_false (by decide)
@[simp] theorem ne_stretch_count : (("stretch" : Str) = ("count" : Str)) = False := eq_false (by decide)
@[simp] theorem ne_stretch_order : (("stretch" : Str) = ("order" : Str)) = False := eq_false (by decide)
@[simp] theorem ne_stretch_room : (("stretch" : Str) = ("room" : Str)) = False := eq_false (by decide)
@[simp] theorem ne_stretch_value : (("stretch" : Str) = ("value" : Str)) = False := eq_false (by decide)
@[simp] theorem ne_stretch_until : (("stretch" : Str) = ("until" : Str)) = False := eq_false (by decide)
@[simp] theorem ne_stretch_offset : (("stretch" : Str) = ("offset" : Str)) = False := eq_false (by decide)
@[simp] theorem ne_stretch_ring : (("stretch" : Str) = ("ring" : Str)) = False := eq_false (by decide)
@[simp] theorem ne_stretch_hour : (("stretch" : Str) = ("hour" : Str)) = False := eq_false (by decide)
@[simp] theorem ne_offset_plan : (("offset" : Str) = ("plan" : Str)) = False := eq_false (by decide)
@[simp] theorem ne_offset_turn : (("offset" : Str) = ("turn" : Str)) = False := eq_false (by decide)
@[simp] theorem ne_offset_back : (("offset" : Str) = ("back" : Str)) = False := eq_false (by decide)
@[simp] theorem ne_offset_away : (("offset" : Str) = ("away" : Str)) = False := eq_false (by decide)
@[simp] theorem ne_offset_home : (("offset" : Str) = ("home" : Str)) = False := eq_false (by decide)
@[simp] theorem ne_offset_follow : (("offset" : Str) = ("follow" : Str)) = False := eq_false (by decide)
@[simp] theorem ne_offset_next : (("offset" : Str) = ("next" : Str)) = False := eq_false (by decide)
@[simp] theorem ne_offset_hold : (("offset" : Str) = ("hold" : Str)) = False := eq_false (by decide)
@[simp] theorem ne_offset_till : (("offset" : Str) = ("till" : Str)) = False := eq_false (by decide)
@[simp] theorem ne_offset_newest : (("offset" : Str) = ("newest" : Str)) = False := eq_false (by decide)
@[simp] theorem ne_offset_oldest : (("offset" : Str) = ("oldest" : Str)) = False := eq_false (by decide)
@[simp] theorem ne_offset_late : (("offset" : Str) = ("late" : Str)) = False := eq_false (by decide)
@[simp] theorem ne_offset_bad : (("offset" : Str) = ("bad" : Str)) = False := eq_false (by decide)
@[simp] theorem ne_offset_good : (("offset" : Str) = ("good" : Str)) = False := eq_false (by decide)
@[simp] theorem ne_offset_count : (("offset" : Str) = ("count" : Str)) = False := eq_false (by decide)
@[simp] theorem ne_offset_order : (("offset" : Str) = ("order" : Str)) = False := eq_false (by decide)
@[simp] theorem ne_offset_room : (("offset" : Str) = ("room" : Str)) = False := eq_false (by decide)
@[simp] theorem ne_offset_value : (("offset" : Str) = ("value" : Str)) = False := eq_false (by decide)
@[simp] theorem ne_offset_until : (("offset" : Str) = ("until" : Str)) = False := eq_false (by decide)
@[simp] theorem ne_offset_stretch : (("offset" : Str) = ("stretch" : Str)) = False := eq_false (by decide)
@[simp] theorem ne_offset_ring : (("offset" : Str) = ("ring" : Str)) = False := eq_false (by decide)
@[simp] theorem ne_offset_hour : (("offset" : Str) = ("hour" : Str)) = False := eq_false (by decide)
@[simp] theorem ne_ring_plan : (("ring" : Str) = ("plan" : Str)) = False := eq_false (by decide)
@[simp] theorem ne_ring_turn : (("ring" : Str) = ("turn" : Str)) = False := eq_false (by decide)
@[simp] theorem ne_ring_back : (("ring" : Str) = ("back" : Str)) = False := eq_false (by decide)
@[simp] theorem ne_ring_away : (("ring" : Str) = ("away" : Str)) = False := eq_false (by decide)
@[simp] theorem ne_ring_home : (("ring" : Str) = ("home" : Str)) = False := eq_false (by decide)
@[simp] theorem ne_ring_follow : (("ring" : Str) = ("follow" : Str)) = False := eq_false (by decide)
@[simp] theorem ne_ring_next : (("ring" : Str) = ("next" : Str)) = False := eq_false (by decide)
@[simp] theorem ne_ring_hold : (("ring" : Str) = ("hold" : Str)) = False := eq_false (by decide)
@[simp] theorem ne_ring_till : (("ring" : Str) = ("till" : Str)) = False := eq_false (by decide)
@[simp] theorem ne_ring_newest : (("ring" : Str) = ("newest" : Str)) = False := eq_false (by decide)
@[simp] theorem ne_ring_oldest : (("ring" : Str) = ("oldest" : Str)) = False := eq_false (by decide)
@[simp] theorem ne_ring_late : (("ring" : Str) = ("late" : Str)) = False := eq_false (by decide)
@[simp] theorem ne_ring_bad : (("ring" : Str) = ("bad" : Str)) = False := eq_false (by decide)
@[simp] theorem ne_ring_good : (("ring" : Str) = ("good" : Str)) = False := eq_false (by decide)
@[simp] theorem ne_ring_count : (("ring" : Str) = ("count" : Str)) = False := eq_false (by decide)
@[simp] theorem ne_ring_order : (("ring" : Str) = ("order" : Str)) = False := eq_false (by decide)
@[simp] theorem ne_ring_room : (("ring" : Str) = ("room" : Str)) = False := eq_false (by decide)
@[simp] theorem ne_ring_value : (("ring" : Str) = ("value" : Str)) = False := eq_false (by decide)
@[simp] theorem ne_ring_until : (("ring" : Str) = ("until" : Str)) = False := eq_false (by decide)
@[simp] theorem ne_ring_stretch : (("ring" : Str) = ("stretch" : Str)) = False := eq_false (by decide)
@[simp] theorem ne_ring_offset : (("ring" : Str) = ("offset" : Str)) = False := eq_false (by decide)
@[simp] theorem ne_ring_hour : (("ring" : Str) = ("hour" : Str)) = False := eq_false (by decide)
@[simp] theorem ne_hour_plan : (("hour" : Str) = ("plan" : Str)) = False := eq_false (by decide)
@[simp] theorem ne_hour_turn : (("hour" : Str) = ("turn" : Str)) = False := eq_false (by decide)
@[simp] theorem ne_hour_back : (("hour" : Str) = ("back" : Str)) = False := eq_false (by decide)
@[simp] theorem ne_hour_away : (("hour" : Str) = ("away" : Str)) = False := eq_false (by decide)
@[simp] theorem ne_hour_home : (("hour" : Str) = ("home" : Str)) = False := eq_false (by decide)
@[simp] theorem ne_hour_follow : (("hour" : Str) = ("follow" : Str)) = False := eq_false (by decide)
@[simp] theorem ne_hour_next : (("hour" : Str) = ("next" : Str)) = False := eq_false (by decide)
@[simp] theorem ne_hour_hold : (("hour" : Str) = ("hold" : Str)) = False := eq_false (by decide)
@[simp] theorem ne_hour_till : (("hour" : Str) = ("till" : Str)) = False := eq_false (by decide)
@[simp] theorem ne_hour_newest : (("hour" : Str) = ("newest" : Str)) = False := eq_false (by decide)
@[simp] theorem ne_hour_oldest : (("hour" : Str) = ("oldest" : Str)) = False := eq_false (by decide)
@[simp] theorem ne_hour_late : (("hour" : Str) = ("late" : Str)) = False := eq_false (by decide)
@[simp] theorem ne_hour_bad : (("hour" : Str) = ("bad" : Str)) = False := eq_false (by decide)
@[simp] theorem ne_hour_good : (("hour" : Str) = ("good" : Str)) = False := eq_false (by decide)
@[simp] theorem ne_hour_count : (("hour" : Str) = ("count" : Str)) = False := eq_false (by decide)
@[simp] theorem ne_hour_order : (("hour" : Str) = ("order" : Str)) = False := eq_false (by decide)
@[simp] theorem ne_hour_room : (("hour" : Str) = ("room" : Str)) = False := eq_false (by decide)
@[simp] theorem ne_hour_value : (("hour" : Str) = ("value" : Str)) = False := eq_false (by decide)
@[simp] theorem ne_hour_until : (("hour" : Str) = ("until" : Str)) = False := eq_false (by decide)
@[simp] theorem ne_hour_stretch : (("hour" : Str) = ("stretch" : Str)) = False := eq_false (by decide)
@[simp] theorem ne_hour_offset : (("hour" : Str) = ("offset" : Str)) = False := eq_false (by decide)
@[simp] theorem ne_hour_ring : (("hour" : Str) = ("ring" : Str)) = False := eq_false (by decide)
@[simp] theorem ne_rooms_away : (("rooms" : Str) = ("away" : Str)) = False := eq_false (by decide)
@[simp] theorem ne_away_rooms : (("away" : Str) = ("rooms" : Str)) = False := eq_false (by decide)
@[simp] theorem ne_rooms_back : (("rooms" : Str) = ("back" : Str)) = False := eq_false (by decide)
@[simp] theorem ne_back_rooms : (("back" : Str) = ("rooms" : Str)) = False := eq_false (by decide)
@[simp] theorem ne_rooms_bad : (("rooms" : Str) = ("bad" : Str)) = False := eq_false (by decide)
@[simp] theorem ne_bad_rooms : (("bad" : Str) = ("rooms" : Str)) = False := eq_false (by decide)
@[simp] theorem ne_rooms_count : (("rooms" : Str) = ("count" : Str)) = False := eq_false (by decide)
@[simp] theorem ne_count_rooms : (("count" : Str) = ("rooms" : Str)) = False := eq_false (by decide)
@[simp] theorem ne_rooms_follow : (("rooms" : Str) = ("follow" : Str)) = False := eq_false (by decide)
@[simp] theorem ne_follow_rooms : (("follow" : Str) = ("rooms" : Str)) = False := eq_false (by decide)
@[simp] theorem ne_rooms_good : (("rooms" : Str) = ("good" : Str)) = False := eq_false (by decide)
@[simp] theorem ne_good_rooms : (("good" : Str) = ("rooms" : Str)) = False := eq_false (by decide)
@[simp] theorem ne_rooms_hold : (("rooms" : Str) = ("hold" : Str)) = False := eq_false (by decide)
@[simp] theorem ne_hold_rooms : (("hold" : Str) = ("rooms" : Str)) = False := eq_false (by decide)
@[simp] theorem ne_rooms_home : (("rooms" : Str) = ("home" : Str)) = False := eq_false (by decide)
@[simp] theorem ne_home_rooms : (("home" : Str) = ("rooms" : Str)) = False := eq_false (by decide)
@[simp] theorem ne_rooms_hour : (("rooms" : Str) = ("hour" : Str)) = False := eq_false (by decide)
@[simp] theorem ne_hour_rooms : (("hour" : Str) = ("rooms" : Str)) = False := eq_false (by decide)
@[simp] theorem ne_rooms_late : (("rooms" : Str) = ("late" : Str)) = False := eq_false (by decide)
@[simp] theorem ne_late_rooms : (("late" : Str) = ("rooms" : Str)) = False := eq_false (by decide)
@[simp] theorem ne_rooms_newest : (("rooms" : Str) = ("newest" : Str)) = False := eq_false (by decide)
@[simp] theorem ne_newest_rooms : (("newest" : Str) = ("rooms" : Str)) = False := eq_false (by decide)
@[simp] theorem ne_rooms_next : (("rooms" : Str) = ("next" : Str)) = False := eq_false (by decide)
@[simp] theorem ne_next_rooms : (("next" : Str) = ("rooms" : Str)) = False := eq_false (by decide)
@[simp] theorem ne_rooms_offset : (("rooms" : Str) = ("offset" : Str)) = False := eq_false (by decide)
@[simp] theorem ne_offset_rooms : (("offset" : Str) = ("rooms" : Str)) = False := eq_false (by decide)
@[simp] theorem ne_rooms_oldest : (("rooms" : Str) = ("oldest" : Str)) = False := eq_false (by decide)
@[simp] theorem ne_oldest_rooms : (("oldest" : Str) = ("rooms" : Str)) = False := eq_false (by decide)
@[simp] theorem ne_rooms_order : (("rooms" : Str) = ("order" : Str)) = False := eq_false (by decide)
@[simp] theorem ne_order_rooms : (("order" : Str) = ("rooms" : Str)) = False := eq_false (by decide)
@[simp] theorem ne_rooms_plan : (("rooms" : Str) = ("plan" : Str)) = False := eq_false (by decide)
@[simp] theorem ne_plan_rooms : (("plan" : Str) = ("rooms" : Str)) = False := eq_false (by decide)
@[simp] theorem ne_rooms_ring : (("rooms" : Str) = ("ring" : Str)) = False := eq_false (by decide)
@[simp] theorem ne_ring_rooms : (("ring" : Str) = ("rooms" : Str)) = False := eq_false (by decide)
@[simp] theorem ne_rooms_room : (("rooms" : Str) = ("room" : Str)) = False := eq_false (by decide)
@[simp] theorem ne_room_rooms : (("room" : Str) = ("rooms" : Str)) = False := eq_false (by decide)
@[simp] theorem ne_rooms_stretch : (("rooms" : Str) = ("stretch" : Str)) = False := eq_false (by decide)
@[simp] theorem ne_stretch_rooms : (("stretch" : Str) = ("rooms" : Str)) = False := eq_false (by decide)
@[simp] theorem ne_rooms_till : (("rooms" : Str) = ("till" : Str)) = False := eq_false (by decide)
@[simp] theorem ne_till_rooms : (("till" : Str) = ("rooms" : Str)) = False := eq_false (by decide)
@[simp] theorem ne_rooms_turn : (("rooms" : Str) = ("turn" : Str)) = False := eq_false (by decide)
@[simp] theorem ne_turn_rooms : (("turn" : Str) = ("rooms" : Str)) = False := eq_false (by decide)
@[simp] theorem ne_rooms_until : (("rooms" : Str) = ("until" : Str)) = False := eq_false (by decide)
@[simp] theorem ne_until_rooms : (("until" : Str) = ("rooms" : Str)) = False := eq_false (by decide)
@[simp] theorem ne_rooms_value : (("rooms" : Str) = ("value" : Str)) = False := eq_false (by decide)
@[simp] theorem ne_value_rooms : (("value" : Str) = ("rooms" : Str)) = False := eq_false (by decide)
@[simp] theorem ne_rooms_deeds : (("rooms" : Str) = ("deeds" : Str)) = False := eq_false (by decide)
@[simp] theorem ne_deeds_away : (("deeds" : Str) = ("away" : Str)) = False := eq_false (by decide)
@[simp] theorem ne_away_deeds : (("away" : Str) = ("deeds" : Str)) = False := eq_false (by decide)
@[simp] theorem ne_deeds_back : (("deeds" : Str) = ("back" : Str)) = False := eq_false (by decide)
@[simp] theorem ne_back_deeds : (("back" : Str) = ("deeds" : Str)) = False := eq_false (by decide)
@[simp] theorem ne_deeds_bad : (("deeds" : Str) = ("bad" : Str)) = False := eq_false (by decide)
@[simp] theorem ne_bad_deeds : (("bad" : Str) = ("deeds" : Str)) = False := eq_false (by decide)
@[simp] theorem ne_deeds_count : (("deeds" : Str) = ("count" : Str)) = False := eq_false (by decide)
@[simp] theorem ne_count_deeds : (("count" : Str) = ("deeds" : Str)) = False := eq_false (by decide)
@[simp] theorem ne_deeds_follow : (("deeds" : Str) = ("follow" : Str)) = False := eq_false (by decide)
@[simp] theorem ne_follow_deeds : (("follow" : Str) = ("deeds" : Str)) = False := eq_false (by decide)
@[simp] theorem ne_deeds_good : (("deeds" : Str) = ("good" : Str)) = False := eq_false (by decide)
@[simp] theorem ne_good_deeds : (("good" : Str) = ("deeds" : Str)) = False := eq_false (by decide)
@[simp] theorem ne_deeds_hold : (("deeds" : Str) = ("hold" : Str)) = False := eq_false (by decide)
@[simp] theorem ne_hold_deeds : (("hold" : Str) = ("deeds" : Str)) = False := eq_false (by decide)
@[simp] theorem ne_deeds_home : (("deeds" : Str) = ("home" : Str)) = False := eq_false (by decide)
@[simp] theorem ne_home_deeds : (("home" : Str) = ("deeds" : Str)) = False := eq_false (by decide)
@[simp] theorem ne_deeds_hour : (("deeds" : Str) = ("hour" : Str)) = False := eq_false (by decide)
@[simp] theorem ne_hour_deeds : (("hour" : Str) = ("deeds" : Str)) = False := eq_false (by decide)
@[simp] theorem ne_deeds_late : (("deeds" : Str) = ("late" : Str)) = False := eq_false (by decide)
@[simp] theorem ne_late_deeds : (("late" : Str) = ("deeds" : Str)) = False := eq_false (by decide)
@[simp] theorem ne_deeds_newest : (("deeds" : Str) = ("newest" : Str)) = False := eq_false (by decide)
@[simp] theorem ne_newest_deeds : (("newest" : Str) = ("deeds" : Str)) = False := eq_false (by decide)
@[simp] theorem ne_deeds_next : (("deeds" : Str) = ("next" : Str)) = False := eq_false (by decide)
@[simp] theorem ne_next_deeds : (("next" : Str) = ("deeds" : Str)) = False := eq_false (by decide)
@[simp] theorem ne_deeds_offset : (("deeds" : Str) = ("offset" : Str)) = False := eq_false (by decide)
@[simp] theorem ne_offset_deeds : (("offset" : Str) = ("deeds" : Str)) = False := eq_false (by decide)
@[simp] theorem ne_deeds_oldest : (("deeds" : Str) = ("oldest" : Str)) = False := eq_false (by decide)
@[simp] theorem ne_oldest_deeds : (("oldest" : Str) = ("deeds" : Str)) = False := eq_false (by decide)
@[simp] theorem ne_deeds_order : (("deeds" : Str) = ("order" : Str)) = False := eq_false (by decide)
@[simp] theorem ne_order_deeds : (("order" : Str) = ("deeds" : Str)) = False := eq_false (by decide)
@[simp] theorem ne_deeds_plan : (("deeds" : Str) = ("plan" : Str)) = False := eq_false (by decide)
@[simp] theorem ne_plan_deeds : (("plan" : Str) = ("deeds" : Str)) = False := eq_false (by decide)
@[simp] theorem ne_deeds_ring : (("deeds" : Str) = ("ring" : Str)) = False := eq_false (by decide)
@[simp] theorem ne_ring_deeds : (("ring" : Str) = ("deeds" : Str)) = False := eq_false (by decide)
@[simp] theorem ne_deeds_room : (("deeds" : Str) = ("room" : Str)) = False := eq_false (by decide)
@[simp] theorem ne_room_deeds : (("room" : Str) = ("deeds" : Str)) = False := eq_false (by decide)
@[simp] theorem ne_deeds_stretch : (("deeds" : Str) = ("stretch" : Str)) = False := eq_false (by decide)
@[simp] theorem ne_stretch_deeds : (("stretch" : Str) = ("deeds" : Str)) = False := eq_false (by decide)
@[simp] theorem ne_deeds_till : (("deeds" : Str) = ("till" : Str)) = False := eq_false (by decide)
@[simp] theorem ne_till_deeds : (("till" : Str) = ("deeds" : Str)) = False := eq_false (by decide)
@[simp] theorem ne_deeds_turn : (("deeds" : Str) = ("turn" : Str)) = False := eq_false (by decide)
@[simp] theorem ne_turn_deeds : (("turn" : Str) = ("deeds" : Str)) = False := eq_false (by decide)
@[simp] theorem ne_deeds_until : (("deeds" : Str) = ("until" : Str)) = False := eq_false (by decide)
@[simp] theorem ne_until_deeds : (("until" : Str) = ("deeds" : Str)) = False := eq_false (by decide)
@[simp] theorem ne_deeds_value : (("deeds" : Str) = ("value" : Str)) = False := eq_false (by decide)
@[simp] theorem ne_value_deeds : (("value" : Str) = ("deeds" : Str)) = False := eq_false (by decide)
@[simp] theorem ne_deeds_rooms : (("deeds" : Str) = ("rooms" : Str)) = False := eq_false (by decide)
/-! ### deeds -/
inductive Un where
  | next | hold | till (e : Int)
  deriving DecidableEq
inductive Deed where
  | plan (r : Int) (p : Pl) (h : Int) | turn (r v : Int) (u : Un) (h : Int) | back (r h : Int) | away (b : Int) (e : Option Int) (v h : Int) | home (h : Int) | follow (r : Int) (o : Option Int) (f h : Int)
  deriving DecidableEq
def Deed.hour : Deed → Int
  | .plan _ _ h => h
  | .turn _ _ _ h => h
  | .back _ h => h
  | .away _ _ _ h => h
  | .home h => h
  | .follow _ _ _ h => h
def uD : Un → D
  | .next => .tup [.str "next"]
  | .hold => .tup [.str "hold"]
  | .till e => .tup [.str "till", .int e]
def oD : Option Int → D
  | none => .non
  | some i => .int i
def pD (p : Pl) : D := .tup (p.map mk)
def dD : Deed → D
  | .plan r p h => .tup [.str "plan", .int r, pD p, .int h]
  | .turn r v u h => .tup [.str "turn", .int r, .int v, uD u, .int h]
  | .back r h => .tup [.str "back", .int r, .int h]
  | .away b e v h => .tup [.str "away", .int b, oD e, .int v, .int h]
  | .home h => .tup [.str "home", .int h]
  | .follow r o f h => .tup [.str "follow", .int r, oD o, .int f, .int h]
def PlOk (p : Pl) : Prop := p.length ≤ 14 ∧ Ris p ∧ Bnd p
def BIG : Int := 1000000000
/-- it can be done in a house of so many rooms, at this hour or later (rings aside) -/
def Deed.ok (rooms now : Int) : Deed → Prop
  | .plan r p h => (0 ≤ r ∧ r < rooms) ∧ PlOk p ∧ now ≤ h ∧ h ≤ BIG
  | .turn r v u h => (0 ≤ r ∧ r < rooms) ∧ (0 ≤ v ∧ v ≤ 9) ∧ (match u with
    | .till e => h < e ∧ e ≤ 2 * BIG
    | _ => True) ∧ now ≤ h ∧ h ≤ BIG
  | .back r h => (0 ≤ r ∧ r < rooms) ∧ now ≤ h ∧ h ≤ BIG
  | .away b e v h => (0 ≤ v ∧ v ≤ 9) ∧ (h ≤ b ∧ b ≤ 2 * BIG) ∧ (match e with
    | some e => b < e ∧ e ≤ 2 * BIG
    | none => True) ∧ now ≤ h ∧ h ≤ BIG
  | .home h => now ≤ h ∧ h ≤ BIG
  | .follow r o f h => (0 ≤ r ∧ r < rooms) ∧ (match o with
    | some o => 0 ≤ o ∧ o < rooms
    | none => True) ∧ (-9 ≤ f ∧ f ≤ 9) ∧ now ≤ h ∧ h ≤ BIG
def nowOf (ds : List Deed) : Int := (ds.getLast?.map Deed.hour).getD 0
theorem nowOf_snoc (ds : List Deed) (d : Deed) : nowOf (ds ++ [d]) = d.hour := by simp [nowOf]
/-! ### readers -/
def numD (v : D) (a b : Int) : Option Int := match v with
  | .int i => if a ≤ i ∧ i ≤ b then some i else none
  | _ => none
theorem numD_none {v : D} {a b : Int} (h : numD v a b = none) : numB v a b = false := by
  unfold numD at h
  split at h
  · rename_i i
    split at h
    · cases h
    · rename_i hn
      unfold numB
      rw [Bool.eq_false_iff]
      intro z
      simp at z
      exact hn z
  · rename_i hne
    unfold numB
    split
    · exact absurd rfl (hne _)
    · rfl
theorem numD_some {v : D} {a b i : Int} (h : numD v a b = some i) : numB v a b = true ∧ v = .int i ∧ a ≤ i ∧ i ≤ b := by
  unfold numD at h
  split at h
  · split at h
    · rename_i hn
      cases h
      exact ⟨by simp [numB, hn.1, hn.2], rfl, hn⟩
    · cases h
  · cases h
theorem numD_int {a b i : Int} (h : a ≤ i ∧ i ≤ b) : numD (.int i) a b = some i := by simp [numD, h]
open Classical in
def plD (v : D) : Option Pl := if h : plB v = true then some (Classical.choose (pl_form h)) else none
theorem plD_none {v : D} (h : plD v = none) : plB v = false := by
  unfold plD at h
  split at h
  · cases h
  · rename_i hn
    simpa using hn
theorem plD_some {v : D} {p : Pl} (h : plD v = some p) : plB v = true ∧ v = pD p ∧ PlOk p := by
  unfold plD at h
  split at h
  · rename_i hp
    cases h
    obtain ⟨h1, h2, h3, h4⟩ := Classical.choose_spec (pl_form hp)
    exact ⟨hp, h1, h2, h3, h4⟩
  · cases h
theorem mk_inj : ∀ {p q : Pl}, p.map mk = q.map mk → p = q
  | [], [], _ => rfl
  | [], _ :: _, h => by simp at h
  | _ :: _, [], h => by simp at h
  | a :: p, b :: q, h => by
    simp only [List.map_cons, List.cons.injEq] at h
    have e : a = b := by
      have h1 := h.1
      unfold mk at h1
      simp at h1
      exact Prod.ext h1.1 h1.2
    rw [e, mk_inj h.2]
theorem plD_pD {p : Pl} (h : PlOk p) : plD (pD p) = some p := by
  have hp : plB (pD p) = true := pl_of h.1 h.2.1 h.2.2
  cases e : plD (pD p) with
  | none => rw [plD_none e] at hp; cases hp
  | some q =>
    have z := (plD_some e).2.1
    unfold pD at z
    simp only [D.tup.injEq] at z
    rw [mk_inj z]
def untD (v : D) : Option Un := match v with
  | .tup (.str s :: r) => if s = "till" then (match r with
      | [x] => (numD x 0 (2 * BIG)).map .till
      | _ => none)
    else if s = "next" then (if r = [] then some .next else none) else if s = "hold" then (if r = [] then some .hold else none) else none
  | _ => none
/-! ### what a deed that is asked does -/
abbrev Try := Sum Nat Deed
def tryPlan (rooms now : Int) (a b c : D) : Try := match numD a 0 (rooms - 1) with
  | none => .inl 4
  | some r => match plD b with
    | none => .inl 1
    | some p => match numD c now BIG with
      | none => .inl 5
      | some h => .inr (.plan r p h)
def tryTurn (rooms now : Int) (a b c d : D) : Try := match numD a 0 (rooms - 1) with
  | none => .inl 4
  | some r => match numD b 0 9 with
    | none => .inl 6
    | some v => match untD c with
      | none => .inl 7
      | some u => match numD d now BIG with
        | none => .inl 5
        | some h => match u with
          | .till e => if e ≤ h then .inl 7 else .inr (.turn r v u h)
          | _ => .inr (.turn r v u h)
def tryBack (rooms now : Int) (a b : D) : Try := match numD a 0 (rooms - 1) with
  | none => .inl 4
  | some r => match numD b now BIG with
    | none => .inl 5
    | some h => .inr (.back r h)
def strD (a b : D) : Option (Int × Option Int) := match numD a 0 (2 * BIG) with
  | none => none
  | some x => match b with
    | .non => some (x, none)
    | b => (numD b (x + 1) (2 * BIG)).map fun y => (x, some y)
def tryAway (now : Int) (a b c d : D) : Try := match numD c 0 9 with
  | none => .inl 6
  | some v => match strD a b with
    | none => .inl 8
    | some (x, y) => match numD d now BIG with
      | none => .inl 5
      | some h => if x < h then .inl 8 else .inr (.away x y v h)
def tryHome (now : Int) (a : D) : Try := match numD a now BIG with
  | none => .inl 5
  | some h => .inr (.home h)
/-- the room that is followed, with the offset -/
def folAt (room : Int) : Deed → Option (Option (Int × Int))
  | .follow r o f _ => if r = room then some (o.map fun x => (x, f)) else none
  | _ => none
def followedBy (ds : List Deed) (room : Int) : Option (Int × Int) := ((ds.reverse.findSome? (folAt room)).getD none)
/-- does the chain from a room hit another one -/
def hits (ds : List Deed) (room : Int) : Nat → Option Int → Option Bool
  | _, none => some false
  | 0, some _ => none
  | n + 1, some x => if x = room then some true else hits ds room n ((followedBy ds x).map (·.1))
def othD (rooms : Int) (b : D) : Option (Option Int) := match b with
  | .non => some none
  | b => (numD b 0 (rooms - 1)).map some
def tryFollow (ds : List Deed) (rooms now : Int) (a b c d : D) : Try := match numD a 0 (rooms - 1) with
  | none => .inl 4
  | some r => match othD rooms b with
    | none => .inl 4
    | some o => match numD c (-9) 9 with
      | none => .inl 9
      | some f => if hits ds r 3 o = some true then .inl 10 else match numD d now BIG with
        | none => .inl 5
        | some h => .inr (.follow r o f h)
/-! ### a house in the state -/
structure Hs (st : AS) (l k : Nat) (rooms : Int) (order : Str) (ds : List Deed) : Prop where
  at_ : st[l]? = some (.ins 0 [("rooms", .int rooms), ("order", .str order), ("deeds", .ref k)])
  lst : st[k]? = some (.lst (ds.map dD))
theorem Hs.fR {st : AS} {l k : Nat} {rooms : Int} {order : Str} {ds : List Deed} (h : Hs st l k rooms order ds) : fldD st "rooms" (.ref l) = some (.int rooms) := by
  unfold fldD
  simp only [h.at_]
  rfl
theorem Hs.fO {st : AS} {l k : Nat} {rooms : Int} {order : Str} {ds : List Deed} (h : Hs st l k rooms order ds) : fldD st "order" (.ref l) = some (.str order) := by
  unfold fldD
  simp only [h.at_]
  rfl
theorem Hs.fD {st : AS} {l k : Nat} {rooms : Int} {order : Str} {ds : List Deed} (h : Hs st l k rooms order ds) : fldD st "deeds" (.ref l) = some (.ref k) := by
  unfold fldD
  simp only [h.at_]
  rfl
end Pg
end
end

section
set_option Elab.async false
set_option linter.all false
set_option maxRecDepth 100000
set_option maxHeartbeats 1000000
/-! HoA: runs of the house's small defs. -/
noncomputable section
namespace Pg
open PySem Ws
structure HHo (P : Tbl) : Prop extends HPl P where
  check_order : P 8 = some f_check_order
  is_value : P 9 = some f_is_value
  is_until : P 10 = some f_is_until
  is_stretch : P 11 = some f_is_stretch
  hour_of : P 12 = some f_hour_of
  followed_by : P 17 = some f_followed_by
  init : P 19 = some f_House_init
  now : P 20 = some f_House_now
  check_room : P 21 = some f_House_check_room
  check_hour : P 22 = some f_House_check_hour
  plan_room : P 23 = some f_House_plan_room
  turn : P 24 = some f_House_turn
  back : P 25 = some f_House_back
  away : P 26 = some f_House_away
  home : P 27 = some f_House_home
  follow : P 28 = some f_House_follow
  do_deed : P 34 = some f_do_deed
theorem rl_pl : ∀ p : Pl, reflessAll (p.map mk) = true
  | [] => rfl
  | a :: p => by simp [mk, rl_pl p]
@[simp] theorem rl_pD (p : Pl) : (pD p).refless = true := rl_pl p
@[simp] theorem rl_uD (u : Un) : (uD u).refless = true := by cases u <;> rfl
@[simp] theorem rl_oD (o : Option Int) : (oD o).refless = true := by cases o <;> rfl
@[simp] theorem rl_dD (d : Deed) : (dD d).refless = true := by cases d <;> simp [dD]
theorem rl_ds : ∀ ds : List Deed, reflessAll (ds.map dD) = true
  | [] => rfl
  | d :: ds => by simp [rl_ds ds]
/-- a written list of ours is kept -/
theorem gcR_set {st : AS} {k : Nat} {xs : List D} (h : reflessAll xs = true) : gcR st (.ok .non (st.set k (.lst xs))) = .ok .non (st.set k (.lst xs)) := by
  have g : GcOk st (st.set k (.lst xs)) := fun i hi => by
    by_cases e : i = k
    · subst e
      exact .inr ⟨_, List.getElem?_set_self hi, reflessAll_low xs h⟩
    · exact .inl (List.getElem?_set_ne (Ne.symm e))
  rw [gcR_cut g rfl]
  congr 1
  rw [List.take_of_length_le]
  rw [List.length_set]; exact Nat.le_refl _
theorem Hs.set {st : AS} {l k : Nat} {rooms : Int} {order : Str} {ds : List Deed} (h : Hs st l k rooms order ds) (es : List Deed) : Hs (st.set k (.lst (es.map dD))) l k rooms order es := by
  have hk : k < st.length := (List.getElem?_eq_some_iff.mp h.lst).1
  have hne : k ≠ l := fun e => by
    have h1 := h.at_
    rw [← e, h.lst] at h1
    cases h1
  exact ⟨by rw [List.getElem?_set_ne hne]; exact h.at_, List.getElem?_set_self hk⟩
@[simp] theorem truR_tup (ds : List D) (st : AS) : truR (.ok (.tup ds) st) = .ok (!ds.isEmpty) st := rfl
@[simp] theorem truR_non (st : AS) : truR (.ok .non st) = .ok false st := rfl
section
variable {P : Tbl} (H : HHo P)
include H
theorem r_is_value {m : Nat} (hm : 2 ≤ m) (st : AS) (v : D) (h : tyB st v = true) : callF P m 9 [v] st = .ok (.bl (numB v 0 9)) st := by
  obtain ⟨n, rfl⟩ := Nat.exists_eq_add_of_le' hm
  rw [callF_eq H.is_value (n + 1) _ rfl]
  unfold f_is_value
  simp [r_is_number H.toHPl n st v 0 9 h, gcR_same]
/-- what is_until may be asked -/
def tyU (st : AS) (v : D) : Bool := tyB st v && match v with
  | .tup (x :: y :: _) => tyB st x && tyB st y
  | .tup [x] => tyB st x
  | _ => true
theorem r_is_until {m : Nat} (hm : 2 ≤ m) (st : AS) (v : D) (h : tyU st v = true) : callF P m 10 [v] st = .ok (.bl (untD v).isSome) st := by
  obtain ⟨n, rfl⟩ := Nat.exists_eq_add_of_le' hm
  rw [callF_eq H.is_until (n + 1) _ rfl]
  unfold f_is_until
  unfold tyU at h
  rw [Bool.and_eq_true] at h
  have isiN : ∀ x : D, tyB st x = true → (∀ s, x ≠ .str s) → isiD st "str" x = some false := fun x hx hn => by
    cases x with
    | str s => exact absurd rfl (hn s)
    | ref l => exact isi_ref hx rfl rfl
    | clo f cs => simp [tyB] at hx
    | kls f => simp [tyB] at hx
    | _ => simp
  cases v with
  | tup ds =>
    match ds, h with
    | [], h => simp [untD, gcR_same]
    | x :: r, h =>
      have hx : tyB st x = true := by
        have h2 := h.2
        cases r with
        | nil => exact h2
        | cons y r => dsimp only at h2; rw [Bool.and_eq_true] at h2; exact h2.1
      by_cases hs : ∃ s, x = .str s
      · obtain ⟨s, rfl⟩ := hs
        by_cases h1 : s = "till"
        · subst h1
          match r, h with
          | [], h => simp [untD, gcR_same]
          | [y], h =>
            have hy : tyB st y = true := by
              have h2 := h.2
              dsimp only at h2
              rw [Bool.and_eq_true] at h2; exact h2.2
            have hb : numB y 0 2000000000 = (numD y 0 (2 * BIG)).isSome := by
              cases e : numD y 0 (2 * BIG) with
              | none => exact numD_none e
              | some i => exact (numD_some e).1
            simp [untD, gcR_same, r_is_number H.toHPl n st y 0 2000000000 hy, hb]
          | y :: z :: r, h =>
            have e : ¬ (r.length + 1 + 1 + 1 : Int) = 2 := by omega
            simp [untD, gcR_same, e]
        · by_cases h2 : s = "next"
          · subst h2
            cases r with
            | nil => simp [untD, gcR_same, inD, inF, eqF]
            | cons y r =>
              have e : ¬ (r.length + 1 + 1 : Int) = 1 := by omega
              simp [untD, gcR_same, inD, inF, eqF, e]
          · by_cases h3 : s = "hold"
            · subst h3
              cases r with
              | nil => simp [untD, gcR_same, inD, inF, eqF]
              | cons y r =>
                have e : ¬ (r.length + 1 + 1 : Int) = 1 := by omega
                simp [untD, gcR_same, inD, inF, eqF, e]
            · have h2' : ¬ ("next" : Str) = s := fun z => h2 z.symm
              have h3' : ¬ ("hold" : Str) = s := fun z => h3 z.symm
              simp [untD, gcR_same, inD, inF, eqF, h1, h2, h3, h2', h3']
      · have hn : ∀ s, x ≠ .str s := fun s e => hs ⟨s, e⟩
        have e : untD (.tup (x :: r)) = none := by
          unfold untD
          split
          · rename_i s r' he
            simp only [D.tup.injEq, List.cons.injEq] at he
            exact absurd he.1 (hn s)
          · rfl
        rw [e]
        simp [gcR_same, isiN x hx hn]
  | ref l => simp [untD, gcR_same, isi_ref h.1]
  | clo f cs => simp [tyB] at h
  | kls f => simp [tyB] at h
  | _ => simp [untD, gcR_same]
theorem r_is_stretch {m : Nat} (hm : 2 ≤ m) (st : AS) (a b : D) (ha : tyB st a = true) (hb : tyB st b = true) : callF P m 11 [a, b] st = .ok (.bl (strD a b).isSome) st := by
  obtain ⟨n, rfl⟩ := Nat.exists_eq_add_of_le' hm
  rw [callF_eq H.is_stretch (n + 1) _ rfl]
  unfold f_is_stretch
  cases e : numD a 0 (2 * BIG) with
  | none =>
    have e1 : numB a 0 2000000000 = false := numD_none e
    simp [strD, e, e1, r_is_number H.toHPl n st a 0 2000000000 ha, gcR_same]
  | some x =>
    obtain ⟨e1, rfl, h1, h2⟩ := numD_some e
    have e1' : numB (.int x) 0 2000000000 = true := e1
    cases b with
    | non => simp [strD, e, e1', r_is_number H.toHPl n st (.int x) 0 2000000000 ha, gcR_same]
    | _ =>
      rename_i z
      simp only [strD, e, Option.isSome_map]
      cases e2 : numD _ (x + 1) (2 * BIG) with
      | none =>
        have e3 := numD_none e2
        have e3' : numB _ (x + 1) 2000000000 = false := e3
        simp [e1', r_is_number H.toHPl n st (.int x) 0 2000000000 ha, gcR_same, r_is_number H.toHPl n st _ (x + 1) 2000000000 hb, e3']
      | some y =>
        have e3 := (numD_some e2).1
        have e3' : numB _ (x + 1) 2000000000 = true := e3
        simp [e1', r_is_number H.toHPl n st (.int x) 0 2000000000 ha, gcR_same, r_is_number H.toHPl n st _ (x + 1) 2000000000 hb, e3']
theorem r_hour_of {m : Nat} (hm : 1 ≤ m) (st : AS) (d : Deed) : callF P m 12 [dD d] st = .ok (.int d.hour) st := by
  obtain ⟨n, rfl⟩ := Nat.exists_eq_add_of_le' hm
  rw [callF_eq H.hour_of n _ rfl]
  unfold f_hour_of
  have e : ixD st (dD d) (.int (-1)) = some (.int d.hour) := by cases d <;> rfl
  simp [e, gcR_same]
variable {st : AS} {l k : Nat} {rooms : Int} {order : Str} {ds : List Deed}
theorem r_now {m : Nat} (hm : 2 ≤ m) (h : Hs st l k rooms order ds) : callF P m 20 [.ref l] st = .ok (.int (nowOf ds)) st := by
  obtain ⟨n, rfl⟩ := Nat.exists_eq_add_of_le' hm
  rw [callF_eq H.now (n + 1) _ rfl]
  unfold f_House_now
  rcases List.eq_nil_or_concat ds with rfl | ⟨es, d, rfl⟩
  · simp [h.fD, truR, tru_lst h.lst, nowOf, gcR_same]
  · have hl := h.lst
    rw [List.concat_eq_append, List.map_append, List.map_singleton] at hl
    have e : ixD st (.ref k) (.int (-1)) = some (dD d) := by rw [ixD_lst hl]; exact atI_last _
    simp [h.fD, truR, tru_lst hl, nowOf, gcR_same, e, r_hour_of H (show 1 ≤ n + 1 by omega)]
theorem r_check_room {m : Nat} (hm : 2 ≤ m) (h : Hs st l k rooms order ds) (v : D) (hv : tyB st v = true) : callF P m 21 [.ref l, v] st = if numB v 0 (rooms - 1) = true then .ok .non st else .exn 4 .non st := by
  obtain ⟨n, rfl⟩ := Nat.exists_eq_add_of_le' hm
  rw [callF_eq H.check_room (n + 1) _ rfl]
  unfold f_House_check_room
  cases hb : numB v 0 (rooms - 1) with
  | true => simp [h.fR, r_is_number H.toHPl n st v 0 (rooms - 1) hv, hb, gcR_same]
  | false => simp [h.fR, r_is_number H.toHPl n st v 0 (rooms - 1) hv, hb, gcR_exn]
theorem r_check_hour {m : Nat} (hm : 3 ≤ m) (h : Hs st l k rooms order ds) (v : D) (hv : tyB st v = true) : callF P m 22 [.ref l, v] st = if numB v (nowOf ds) BIG = true then .ok .non st else .exn 5 .non st := by
  obtain ⟨n, rfl⟩ := Nat.exists_eq_add_of_le' hm
  rw [callF_eq H.check_hour (n + 2) _ rfl]
  unfold f_House_check_hour
  have e : callF P (n + 2) 1 [v, .int (nowOf ds), .int 1000000000] st = .ok (.bl (numB v (nowOf ds) BIG)) st := r_is_number H.toHPl (n + 1) st v (nowOf ds) 1000000000 hv
  cases hb : numB v (nowOf ds) BIG with
  | true => simp [h.at_, r_now H (show 2 ≤ n + 2 by omega) h, e, hb, gcR_same]
  | false => simp [h.at_, r_now H (show 2 ≤ n + 2 by omega) h, e, hb, gcR_exn]
end
end Pg
end
end

section
set_option Elab.async false
set_option linter.all false
set_option maxRecDepth 100000
set_option maxHeartbeats 1000000
/-! HoB: runs of the deeds. -/
noncomputable section
namespace Ws
open PySem
/-- a loop that looks for the first item that tells something -/
theorem forL_find {α : Type} {w : Option (Nat × List D)} {asg : D → Env → Option Env} {tmp : List Nat} {body : Env → AS → RS} {st : AS} {E0 : Env} (hw : watchOk w st) (enc : α → D) (en : α → Env) (f : α → Option D) : ∀ (xs : List α),
    (∀ x ∈ xs, asg (enc x) E0 = some (en x) ∧ match f x with
      | some d => body (en x) st = .ret d st
      | none => ∃ e, body (en x) st = .next e st ∧ wipeE e tmp = E0) → ∀ env, wipeE env tmp = E0 → forL w asg tmp body (xs.map enc) env st = match xs.findSome? f with
      | some d => .ret d st
      | none => .next E0 st
  | [], _, env, he => by
    rw [List.map_nil]
    unfold forL
    rw [if_pos hw, he]
    rfl
  | x :: xs, h, env, he => by
    obtain ⟨h1, h2⟩ := h x List.mem_cons_self
    rw [List.map_cons]
    unfold forL
    rw [if_pos hw, he, h1]
    dsimp only
    cases hf : f x with
    | some d =>
      rw [hf] at h2
      dsimp only at h2
      rw [h2, List.findSome?_cons, hf]
    | none =>
      rw [hf] at h2
      obtain ⟨e, h3, h4⟩ := h2
      rw [h3, List.findSome?_cons, hf]
      exact forL_find hw enc en f xs (fun y hy => h y (List.mem_cons_of_mem _ hy)) e h4
end Ws
namespace Pg
open PySem Ws
def foD : Option (Int × Int) → D
  | none => .non
  | some p => .tup [.int p.1, .int p.2]
@[simp] theorem rl_foD (o : Option (Int × Int)) : (foD o).refless = true := by cases o <;> rfl
@[simp] theorem isNon_oD (o : Option Int) : isNon (oD o) = o.isNone := by cases o <;> rfl
@[simp] theorem isNon_foD (o : Option (Int × Int)) : isNon (foD o) = o.isNone := by cases o <;> rfl
/-- what stands at the places of a deed -/
theorem ix_word (d : Deed) : ∃ w, ixD ([] : AS) (dD d) (.int 0) = some (.str w) := by cases d <;> exact ⟨_, rfl⟩
section
variable {P : Tbl} (H : HHo P)
include H
theorem r_followed_by {m : Nat} (hm : 1 ≤ m) {st : AS} {k : Nat} {ds : List Deed} (h : st[k]? = some (.lst (ds.map dD))) (room : Int) : callF P m 17 [.ref k, .int room] st = .ok (foD (followedBy ds room)) st := by
  obtain ⟨n, rfl⟩ := Nat.exists_eq_add_of_le' hm
  rw [callF_eq H.followed_by n _ rfl]
  unfold f_followed_by
  have hs : slrD st (.ref k) = .ok (.ref st.length) (st ++ [.lst (ds.reverse.map dD)]) := by
    unfold slrD
    simp only [h, newL, List.map_reverse]
  have hg : (st ++ [O.lst (ds.reverse.map dD)])[st.length]? = some (.lst (ds.reverse.map dD)) := getLast_app st _
  simp only [exSs, exS, evSrc, evE, startE, bind_ok, stm_ok]
  simp only [List.map_cons, List.map_nil, List.length_cons, List.length_nil, List.replicate, List.cons_append, List.nil_append, List.getElem?_cons_zero, bind_ok, hs, items_lst hg, stm_ok]
  have hw : watchOk (some (st.length, ds.reverse.map dD)) (st ++ [O.lst (ds.reverse.map dD)]) := items_lst hg
  rw [forL_find (st := st ++ [O.lst (ds.reverse.map dD)]) (E0 := [some (.ref k), some (.int room), none]) hw dD (fun x => [some (.ref k), some (.int room), some (dD x)]) (fun d => (folAt room d).map foD) ds.reverse (fun x _ => ⟨rfl, ?_⟩) _ rfl]
  · unfold followedBy
    have e : ∀ l : List Deed, l.findSome? (fun d => (folAt room d).map foD) = (l.findSome? (folAt room)).map foD := fun l => by
      induction l with
      | nil => rfl
      | cons a l ih =>
        rw [List.findSome?_cons, List.findSome?_cons]
        cases folAt room a with
        | none => exact ih
        | some z => rfl
    rw [e]
    cases ds.reverse.findSome? (folAt room) with
    | none => simp; exact gcR_app _ _ rfl
    | some z => simp; exact gcR_app _ _ (rl_foD z)
  · cases x with
    | follow r o f hh =>
      by_cases hr : r = room
      · subst hr
        cases o with
        | none => simp [folAt, dD, oD, foD]
        | some o => simp [folAt, dD, oD, foD]
      · simp [folAt, dD, hr]
    | _ => simp [folAt, dD]
variable {st : AS} {l k : Nat} {rooms : Int} {order : Str} {ds : List Deed}
theorem r_append {m : Nat} (h : Hs st l k rooms order ds) (hz : ds.length < 1000) {env : Ws.Env} (h0 : env[0]? = some (some (.ref l))) {es : Es} {d : Deed} (he : evEs (callF P m) es env st = .ok [dD d] st) :
    evE (callF P m) (.bm .append (.fld "deeds" (.var 0)) es) env st = .ok .non (st.set k (.lst ((ds ++ [d]).map dD))) := by
  have hb : bmT st .append (.ref k) = true := by unfold bmT; simp only [h.lst]
  have hlt : (ds.map dD).length < szMax := by rw [List.length_map]; unfold szMax; omega
  simp only [evE, h0, bind_ok, h.fD, ofD_some, hb, if_true, he, bmD, appD, h.lst, if_pos hlt]
  simp
/-- the outcome of a deed -/
def outD (st : AS) (k : Nat) (ds : List Deed) : Try → Res D
  | .inl c => .exn c .non st
  | .inr d => .ok .non (st.set k (.lst ((ds ++ [d]).map dD)))
theorem gc_done {d : Deed} : gcR st (.ok .non (st.set k (.lst ((ds ++ [d]).map dD)))) = .ok .non (st.set k (.lst ((ds ++ [d]).map dD))) := gcR_set (rl_ds _)
theorem r_plan_room {m : Nat} (hm : 5 ≤ m) (h : Hs st l k rooms order ds) (hz : ds.length < 1000) (a b c : D) (ha : tyB st a = true) (hb : tyPl st b = true) (hc : tyB st c = true) :
    callF P m 23 [.ref l, a, b, c] st = outD st k ds (tryPlan rooms (nowOf ds) a b c) := by
  obtain ⟨n, rfl⟩ := Nat.exists_eq_add_of_le' hm
  refine run_of H.plan_room rfl ?_
  unfold f_House_plan_room
  have r1 := r_check_room H (show 2 ≤ n + 4 by omega) h a ha
  have r2 := r_check_plan H.toHPl n st b hb
  have r3 := r_check_hour H (show 3 ≤ n + 4 by omega) h c hc
  unfold tryPlan
  cases e1 : numD a 0 (rooms - 1) with
  | none =>
    rw [numD_none e1] at r1
    exact to_exprX (n := 4) (p := .non) (st' := st) (by simp [h.at_, r1]) (gcR_exn _ _ _)
  | some i =>
    obtain ⟨b1, rfl, _⟩ := numD_some e1
    rw [b1] at r1
    refine to_expr (d := .non) (st' := st) (by simp [h.at_, r1]) ?_
    cases e2 : plD b with
    | none =>
      rw [plD_none e2] at r2
      exact to_exprX (n := 1) (p := .non) (st' := st) (by simp [r2]) (gcR_exn _ _ _)
    | some p =>
      obtain ⟨b2, rfl, _⟩ := plD_some e2
      rw [b2] at r2
      refine to_expr (d := .non) (st' := st) (by simp [r2]) ?_
      cases e3 : numD c (nowOf ds) BIG with
      | none =>
        rw [numD_none e3] at r3
        exact to_exprX (n := 5) (p := .non) (st' := st) (by simp [h.at_, r3]) (gcR_exn _ _ _)
      | some j =>
        obtain ⟨b3, rfl, _⟩ := numD_some e3
        rw [b3] at r3
        refine to_expr (d := .non) (st' := st) (by simp [h.at_, r3]) ?_
        exact to_expr (r_append H (d := .plan i p j) h hz rfl (by simp [dD])) (to_nil (gc_done H))
theorem r_turn {m : Nat} (hm : 5 ≤ m) (h : Hs st l k rooms order ds) (hz : ds.length < 1000) (a b c d : D) (ha : tyB st a = true) (hb : tyB st b = true) (hc : tyU st c = true) (hd : tyB st d = true) :
    callF P m 24 [.ref l, a, b, c, d] st = outD st k ds (tryTurn rooms (nowOf ds) a b c d) := by
  obtain ⟨n, rfl⟩ := Nat.exists_eq_add_of_le' hm
  refine run_of H.turn rfl ?_
  unfold f_House_turn
  have r1 := r_check_room H (show 2 ≤ n + 4 by omega) h a ha
  have r2 := r_is_value H (show 2 ≤ n + 4 by omega) st b hb
  have r4 := r_is_until H (show 2 ≤ n + 4 by omega) st c hc
  have r3 := r_check_hour H (show 3 ≤ n + 4 by omega) h d hd
  unfold tryTurn
  cases e1 : numD a 0 (rooms - 1) with
  | none =>
    rw [numD_none e1] at r1
    exact to_exprX (n := 4) (p := .non) (st' := st) (by simp [h.at_, r1]) (gcR_exn _ _ _)
  | some i =>
    obtain ⟨b1, rfl, _⟩ := numD_some e1
    rw [b1] at r1
    refine to_expr (d := .non) (st' := st) (by simp [h.at_, r1]) ?_
    cases e2 : numD b 0 9 with
    | none =>
      rw [numD_none e2] at r2
      refine to_iteT (st' := st) (by simp [r2]) ?_
      unfold Wp
      simp [gcR_exn, outD]
    | some v =>
      obtain ⟨b2, rfl, _⟩ := numD_some e2
      rw [b2] at r2
      refine to_iteN (st' := st) (by simp [r2]) ?_
      cases e4 : untD c with
      | none =>
        rw [e4] at r4
        refine to_iteT (st' := st) (by simp [r4]) ?_
        unfold Wp
        simp [gcR_exn, outD]
      | some u =>
        rw [e4] at r4
        refine to_iteN (st' := st) (by simp [r4]) ?_
        have hu : c = uD u := by
          unfold untD at e4
          split at e4
          · rename_i s r
            split at e4
            · rename_i hs
              subst hs
              split at e4
              · rename_i x
                rw [Option.map_eq_some_iff] at e4
                obtain ⟨z, h1, rfl⟩ := e4
                rw [(numD_some h1).2.1]; rfl
              · cases e4
            · split at e4
              · rename_i hs
                subst hs
                split at e4
                · rename_i hr
                  subst hr
                  cases e4; rfl
                · cases e4
              · split at e4
                · rename_i hs
                  subst hs
                  split at e4
                  · rename_i hr
                    subst hr
                    cases e4; rfl
                  · cases e4
                · cases e4
          · cases e4
        subst hu
        cases e3 : numD d (nowOf ds) BIG with
        | none =>
          rw [numD_none e3] at r3
          exact to_exprX (n := 5) (p := .non) (st' := st) (by simp [h.at_, r3]) (gcR_exn _ _ _)
        | some j =>
          obtain ⟨b3, rfl, _⟩ := numD_some e3
          rw [b3] at r3
          refine to_expr (d := .non) (st' := st) (by simp [h.at_, r3]) ?_
          cases u with
          | next =>
            refine to_iteN (st' := st) (by simp [uD]) ?_
            exact to_expr (r_append H (d := .turn i v .next j) h hz rfl (by simp [dD])) (to_nil (gc_done H))
          | hold =>
            refine to_iteN (st' := st) (by simp [uD]) ?_
            exact to_expr (r_append H (d := .turn i v .hold j) h hz rfl (by simp [dD])) (to_nil (gc_done H))
          | till e =>
            by_cases he : e ≤ j
            · refine to_iteT (st' := st) (by simp [uD, he]) ?_
              unfold Wp
              simp [gcR_exn, outD, he]
            · refine to_iteN (st' := st) (by simp [uD, he]) ?_
              simp only [he, if_false]
              exact to_expr (r_append H (d := .turn i v (.till e) j) h hz rfl (by simp [dD])) (to_nil (gc_done H))
theorem r_back {m : Nat} (hm : 5 ≤ m) (h : Hs st l k rooms order ds) (hz : ds.length < 1000) (a b : D) (ha : tyB st a = true) (hb : tyB st b = true) :
    callF P m 25 [.ref l, a, b] st = outD st k ds (tryBack rooms (nowOf ds) a b) := by
  obtain ⟨n, rfl⟩ := Nat.exists_eq_add_of_le' hm
  refine run_of H.back rfl ?_
  unfold f_House_back
  have r1 := r_check_room H (show 2 ≤ n + 4 by omega) h a ha
  have r3 := r_check_hour H (show 3 ≤ n + 4 by omega) h b hb
  unfold tryBack
  cases e1 : numD a 0 (rooms - 1) with
  | none =>
    rw [numD_none e1] at r1
    exact to_exprX (n := 4) (p := .non) (st' := st) (by simp [h.at_, r1]) (gcR_exn _ _ _)
  | some i =>
    obtain ⟨b1, rfl, _⟩ := numD_some e1
    rw [b1] at r1
    refine to_expr (d := .non) (st' := st) (by simp [h.at_, r1]) ?_
    cases e3 : numD b (nowOf ds) BIG with
    | none =>
      rw [numD_none e3] at r3
      exact to_exprX (n := 5) (p := .non) (st' := st) (by simp [h.at_, r3]) (gcR_exn _ _ _)
    | some j =>
      obtain ⟨b3, rfl, _⟩ := numD_some e3
      rw [b3] at r3
      refine to_expr (d := .non) (st' := st) (by simp [h.at_, r3]) ?_
      exact to_expr (r_append H (d := .back i j) h hz rfl (by simp [dD])) (to_nil (gc_done H))
theorem r_home {m : Nat} (hm : 5 ≤ m) (h : Hs st l k rooms order ds) (hz : ds.length < 1000) (a : D) (ha : tyB st a = true) :
    callF P m 27 [.ref l, a] st = outD st k ds (tryHome (nowOf ds) a) := by
  obtain ⟨n, rfl⟩ := Nat.exists_eq_add_of_le' hm
  refine run_of H.home rfl ?_
  unfold f_House_home
  have r3 := r_check_hour H (show 3 ≤ n + 4 by omega) h a ha
  unfold tryHome
  cases e3 : numD a (nowOf ds) BIG with
  | none =>
    rw [numD_none e3] at r3
    exact to_exprX (n := 5) (p := .non) (st' := st) (by simp [h.at_, r3]) (gcR_exn _ _ _)
  | some j =>
    obtain ⟨b3, rfl, _⟩ := numD_some e3
    rw [b3] at r3
    refine to_expr (d := .non) (st' := st) (by simp [h.at_, r3]) ?_
    exact to_expr (r_append H (d := .home j) h hz rfl (by simp [dD])) (to_nil (gc_done H))
theorem r_away {m : Nat} (hm : 5 ≤ m) (h : Hs st l k rooms order ds) (hz : ds.length < 1000) (a b c d : D) (ha : tyB st a = true) (hb : tyB st b = true) (hc : tyB st c = true) (hd : tyB st d = true) :
    callF P m 26 [.ref l, a, b, c, d] st = outD st k ds (tryAway (nowOf ds) a b c d) := by
  obtain ⟨n, rfl⟩ := Nat.exists_eq_add_of_le' hm
  refine run_of H.away rfl ?_
  unfold f_House_away
  have r2 := r_is_value H (show 2 ≤ n + 4 by omega) st c hc
  have r4 := r_is_stretch H (show 2 ≤ n + 4 by omega) st a b ha hb
  have r3 := r_check_hour H (show 3 ≤ n + 4 by omega) h d hd
  unfold tryAway
  cases e2 : numD c 0 9 with
  | none =>
    rw [numD_none e2] at r2
    refine to_iteT (st' := st) (by simp [r2]) ?_
    unfold Wp
    simp [gcR_exn, outD]
  | some v =>
    obtain ⟨b2, rfl, _⟩ := numD_some e2
    rw [b2] at r2
    refine to_iteN (st' := st) (by simp [r2]) ?_
    cases e4 : strD a b with
    | none =>
      rw [e4] at r4
      refine to_iteT (st' := st) (by simp [r4]) ?_
      unfold Wp
      simp [gcR_exn, outD]
    | some xy =>
      obtain ⟨x, y⟩ := xy
      rw [e4] at r4
      refine to_iteN (st' := st) (by simp [r4]) ?_
      have hxy : a = .int x ∧ b = oD y := by
        unfold strD at e4
        split at e4
        · cases e4
        · rename_i x' hx
          obtain ⟨_, rfl, _⟩ := numD_some hx
          split at e4
          · cases e4; exact ⟨rfl, rfl⟩
          · rw [Option.map_eq_some_iff] at e4
            obtain ⟨y', h1, h2⟩ := e4
            cases h2
            exact ⟨rfl, (numD_some h1).2.1⟩
      obtain ⟨rfl, rfl⟩ := hxy
      cases e3 : numD d (nowOf ds) BIG with
      | none =>
        rw [numD_none e3] at r3
        exact to_exprX (n := 5) (p := .non) (st' := st) (by simp [h.at_, r3]) (gcR_exn _ _ _)
      | some j =>
        obtain ⟨b3, rfl, _⟩ := numD_some e3
        rw [b3] at r3
        refine to_expr (d := .non) (st' := st) (by simp [h.at_, r3]) ?_
        by_cases he : x < j
        · refine to_iteT (st' := st) (by simp [he]) ?_
          unfold Wp
          simp [gcR_exn, outD, he]
        · refine to_iteN (st' := st) (by simp [he]) ?_
          simp only [he, if_false]
          exact to_expr (r_append H (d := .away x y v j) h hz rfl (by simp [dD])) (to_nil (gc_done H))
end
end Pg
end
end

section
set_option Elab.async false
set_option linter.all false
set_option maxRecDepth 100000
set_option maxHeartbeats 1000000
/-! HoC: follow, a deed done, a house made, replay. -/
noncomputable section
namespace Pg
open PySem Ws
theorem WF_eq (j : Nat) (h : j ≤ 1000) : ∃ n, WF = n + j + 1 := ⟨999999 - j, by unfold WF; omega⟩
section
variable {P : Tbl} (H : HHo P)
include H
variable {st : AS} {l k : Nat} {rooms : Int} {order : Str} {ds : List Deed}
/-- the loop of follow -/
def folT : T := .notN (.var 5)
def folB : Ss := (.cons (.ite (.cmp .eq (.var 5) (.var 1))
      (.cons (.raise 10 none .no) .nil)
      .nil)
    (.cons (.asg (.name 6) (.call 17 (.cons (.fld "deeds" (.var 0)) (.cons (.var 5) .nil))))
    (.cons (.asg (.name 5) (.ite (.isN (.var 6)) (.lit .non) (.ix (.var 6) (.lit (.int 0))))) .nil)))
theorem fol_while {m : Nat} (hm : 1 ≤ m) (h : Hs st l k rooms order ds) (r : Int) (b c d : D) : ∀ (j : Nat) (o : Option Int) (x : Bool), hits ds r j o = some x → ∀ (n : Nat) (env : Ws.Env), wipeE env [6] = [some (.ref l), some (.int r), some b, some c, some d, some (oD o), none] →
    ∃ z, whileL (fun env st => evT (callF P m) folT env st) [6] (fun env st => exSs (callF P m) folB env st) (n + j + 1) env st = if x = true then .exn 10 .non [some (.ref l), some (.int r), some b, some c, some d, some (oD z), none] st else .next [some (.ref l), some (.int r), some b, some c, some d, some .non, none] st
  | j, none, x, hx, n, env, he => by
    have hx' : x = false := by cases j <;> simp [hits] at hx <;> exact hx
    subst hx'
    refine ⟨none, ?_⟩
    unfold whileL
    rw [he]
    simp [folT, oD]
  | 0, some y, x, hx, n, env, he => by simp [hits] at hx
  | j + 1, some y, x, hx, n, env, he => by
    unfold hits at hx
    unfold whileL
    rw [he]
    by_cases hy : y = r
    · subst hy
      rw [if_pos rfl] at hx
      cases hx
      refine ⟨some y, ?_⟩
      simp [folT, folB, oD]
    · rw [if_neg hy] at hx
      obtain ⟨z, hz⟩ := fol_while hm h r b c d j ((followedBy ds y).map (·.1)) x hx n [some (.ref l), some (.int r), some b, some c, some d, some (oD ((followedBy ds y).map (·.1))), some (foD (followedBy ds y))] rfl
      refine ⟨z, ?_⟩
      rw [← hz]
      have rf := r_followed_by H hm h.lst y
      cases hf : followedBy ds y with
      | none => rw [hf] at rf; simp [folT, folB, oD, hy, h.fD, rf, foD]; rfl
      | some q => rw [hf] at rf; simp [folT, folB, oD, hy, h.fD, rf, foD]; rfl
theorem r_follow {m : Nat} (hm : 5 ≤ m) (h : Hs st l k rooms order ds) (hz : ds.length < 1000) (a b c d : D) (ha : tyB st a = true) (hb : tyB st b = true) (hc : tyB st c = true) (hd : tyB st d = true)
    (hh : ∀ r o, numD a 0 (rooms - 1) = some r → othD rooms b = some o → ∃ x, hits ds r 3 o = some x) :
    callF P m 28 [.ref l, a, b, c, d] st = outD st k ds (tryFollow ds rooms (nowOf ds) a b c d) := by
  obtain ⟨n, rfl⟩ := Nat.exists_eq_add_of_le' hm
  refine run_of H.follow rfl ?_
  unfold f_House_follow
  have r1 := r_check_room H (show 2 ≤ n + 4 by omega) h a ha
  have r2 := r_check_room H (show 2 ≤ n + 4 by omega) h b hb
  have r4 := r_is_number H.toHPl (n + 3) st c (-9) 9 hc
  have r3 := r_check_hour H (show 3 ≤ n + 4 by omega) h d hd
  unfold tryFollow
  cases e1 : numD a 0 (rooms - 1) with
  | none =>
    rw [numD_none e1] at r1
    exact to_exprX (n := 4) (p := .non) (st' := st) (by simp [h.at_, r1]) (gcR_exn _ _ _)
  | some i =>
    obtain ⟨b1, rfl, _⟩ := numD_some e1
    rw [b1] at r1
    refine to_expr (d := .non) (st' := st) (by simp [h.at_, r1]) ?_
    -- the other room
    have goon : ∀ o : Option Int, b = oD o → othD rooms b = some o → Wp (exSs (callF P (n + 4)) (.cons (.ite (.nt (.of (.call 1 (.cons (.var 3) (.cons (.neg (.lit (.int 9))) (.cons (.lit (.int 9)) .nil))))))
        (.cons (.raise 9 none .no) .nil)
        .nil)
      (.cons (.asg (.name 5) (.var 2))
      (.cons (.whil folT [6] folB)
      (.cons (.expr (.meth 0 22 (.var 0) (.cons (.var 4) .nil)))
      (.cons (.expr (.bm .append (.fld "deeds" (.var 0)) (.cons (.tup (.cons (.lit (.str "follow")) (.cons (.var 1) (.cons (.var 2) (.cons (.var 3) (.cons (.var 4) .nil)))))) .nil))) .nil)))))
      [some (.ref l), some (.int i), some b, some c, some d, none, none] st) (fun r => gcR st r.res = outD st k ds (match numD c (-9) 9 with
      | none => .inl 9
      | some f => if hits ds i 3 o = some true then .inl 10 else match numD d (nowOf ds) BIG with
        | none => .inl 5
        | some h => .inr (.follow i o f h))) := fun o ho hoth => by
      subst ho
      cases e2 : numD c (-9) 9 with
      | none =>
        rw [numD_none e2] at r4
        refine to_iteT (st' := st) (by simp [r4]) ?_
        unfold Wp
        simp [gcR_exn, outD]
      | some f =>
        obtain ⟨b2, rfl, _⟩ := numD_some e2
        rw [b2] at r4
        refine to_iteN (st' := st) (by simp [r4]) ?_
        refine to_asg (d := oD o) (st' := st) rfl ?_
        obtain ⟨x, hx⟩ := hh i o e1 hoth
        obtain ⟨wn, hwn⟩ := WF_eq 3 (by omega)
        obtain ⟨z, hz2⟩ := fol_while H (show 1 ≤ n + 4 by omega) h i (oD o) (.int f) d 3 o x hx wn [some (.ref l), some (.int i), some (oD o), some (.int f), some d, some (oD o), none] rfl
        have ew : exS (callF P (n + 4)) (.whil folT [6] folB) [some (.ref l), some (.int i), some (oD o), some (.int f), some d, some (oD o), none] st = if x = true then .exn 10 .non [some (.ref l), some (.int i), some (oD o), some (.int f), some d, some (oD z), none] st else .next [some (.ref l), some (.int i), some (oD o), some (.int f), some d, some .non, none] st := by
          rw [← hz2, ← hwn]
          rfl
        show Wp (exSs (callF P (n + 4)) (.cons (.whil folT [6] folB) _) [some (.ref l), some (.int i), some (oD o), some (.int f), some d, some (oD o), none] st) _
        unfold Wp
        rw [exSs_cons, ew]
        cases x with
        | true =>
          rw [if_pos rfl, hx]
          simp [gcR_exn, outD]
        | false =>
          rw [if_neg Bool.false_ne_true, hx, seq_next]
          simp only [Option.some.injEq, Bool.false_eq_true, if_false]
          show Wp _ (fun r => gcR st r.res = outD st k ds (match numD d (nowOf ds) BIG with
            | none => .inl 5
            | some h => .inr (.follow i o f h)))
          cases e3 : numD d (nowOf ds) BIG with
          | none =>
            rw [numD_none e3] at r3
            exact to_exprX (n := 5) (p := .non) (st' := st) (by simp [h.at_, r3]) (gcR_exn _ _ _)
          | some j =>
            obtain ⟨b3, rfl, _⟩ := numD_some e3
            rw [b3] at r3
            refine to_expr (d := .non) (st' := st) (by simp [h.at_, r3]) ?_
            exact to_expr (r_append H (d := .follow i o f j) h hz rfl (by simp [dD])) (to_nil (gc_done H))
    cases e5 : othD rooms b with
    | none =>
      have hbn : isNon b = false ∧ numB b 0 (rooms - 1) = false := by
        unfold othD at e5
        split at e5
        · cases e5
        · rename_i hne
          rw [Option.map_eq_none_iff] at e5
          refine ⟨?_, numD_none e5⟩
          cases b with
          | non => exact absurd rfl hne
          | _ => rfl
      rw [hbn.2] at r2
      refine to_iteT (st' := st) (by show Res.ok (!isNon b) st = _; rw [hbn.1]; rfl) ?_
      exact to_exprX (n := 4) (p := .non) (st' := st) (by simp [h.at_, r2]) (gcR_exn _ _ _)
    | some o =>
      have hbo : b = oD o := by
        unfold othD at e5
        split at e5
        · cases e5; rfl
        · rw [Option.map_eq_some_iff] at e5
          obtain ⟨y, h1, rfl⟩ := e5
          exact (numD_some h1).2.1
      cases o with
      | none =>
        refine to_iteN (st' := st) (by simp [hbo, oD]) ?_
        exact goon none hbo e5
      | some y =>
        have hby : numB b 0 (rooms - 1) = true := by
          unfold othD at e5
          split at e5
          · cases e5
          · rw [Option.map_eq_some_iff] at e5
            obtain ⟨y', h1, h2⟩ := e5
            exact (numD_some h1).1
        rw [hby] at r2
        refine to_iteT (st' := st) (by simp [hbo, oD]) ?_
        refine to_expr (d := .non) (st' := st) (by simp [h.at_, r2]) (to_nil ?_)
        exact goon (some y) hbo e5
end
end Pg
end
end

section
set_option Elab.async false
set_option linter.all false
set_option maxRecDepth 100000
set_option maxHeartbeats 1000000
/-! HoD: rooms that follow: no rings. -/
noncomputable section
namespace Pg
open PySem Ws
/-- the room that is followed -/
def fol (ds : List Deed) (x : Int) : Option Int := (followedBy ds x).map (·.1)
def Acy (ds : List Deed) : Prop := ∀ x, ((fol ds x).bind fun y => (fol ds y).bind (fol ds)) = none
/-- all that is followed is a room -/
def FolIn (rooms : Int) (ds : List Deed) : Prop := (∀ x y, fol ds x = some y → 0 ≤ y ∧ y < rooms) ∧ ∀ x y, fol ds x = some y → 0 ≤ x ∧ x < rooms
theorem followedBy_snoc (ds : List Deed) (d : Deed) (x : Int) : followedBy (ds ++ [d]) x = match folAt x d with
    | some r => r
    | none => followedBy ds x := by
  unfold followedBy
  rw [List.reverse_append, List.reverse_singleton, List.singleton_append, List.findSome?_cons]
  cases folAt x d <;> rfl
theorem hits_some (ds : List Deed) (r : Int) (a : Acy ds) (o : Option Int) : ∃ x, hits ds r 3 o = some x := by
  cases o with
  | none => exact ⟨false, rfl⟩
  | some y =>
    have ay := a y
    unfold hits
    by_cases h1 : y = r
    · exact ⟨true, by rw [if_pos h1]⟩
    rw [if_neg h1]
    show ∃ x, hits ds r 2 (fol ds y) = some x
    cases e1 : fol ds y with
    | none => exact ⟨false, rfl⟩
    | some z =>
      unfold hits
      by_cases h2 : z = r
      · exact ⟨true, by rw [if_pos h2]⟩
      rw [if_neg h2]
      show ∃ x, hits ds r 1 (fol ds z) = some x
      cases e2 : fol ds z with
      | none => exact ⟨false, rfl⟩
      | some u =>
        unfold hits
        by_cases h3 : u = r
        · exact ⟨true, by rw [if_pos h3]⟩
        rw [if_neg h3]
        show ∃ x, hits ds r 0 (fol ds u) = some x
        rw [e1] at ay
        simp only [Option.bind_some] at ay
        rw [e2] at ay
        simp only [Option.bind_some] at ay
        rw [ay]
        exact ⟨false, rfl⟩
/-! ### three rooms -/
abbrev F3 := Option (Fin 3)
def app3 (a b c : F3) : Fin 3 → F3
  | 0 => a
  | 1 => b
  | 2 => c
def ac3 (g : Fin 3 → F3) : Bool := [0, 1, 2].all fun i => ((g i).bind fun j => (g j).bind g).isNone
def nohit3 (g : Fin 3 → F3) (r : Fin 3) (o : F3) : Bool := match o with
  | none => true
  | some x => x != r && (match g x with
    | none => true
    | some y => y != r && (match g y with
      | none => true
      | some z => z != r))
def upd3 (g : Fin 3 → F3) (r : Fin 3) (o : F3) : Fin 3 → F3 := fun i => if i = r then o else g i
def all3 : List F3 := [none, some 0, some 1, some 2]
theorem three : (all3.all fun a => all3.all fun b => all3.all fun c => all3.all fun o => [0, 1, 2].all fun r => !(ac3 (app3 a b c) && nohit3 (app3 a b c) r o) || ac3 (upd3 (app3 a b c) r o)) = true := by decide +kernel
theorem mem3 : ∀ i : Fin 3, i ∈ ([0, 1, 2] : List (Fin 3)) := by decide
theorem mem_all3 (o : F3) : o ∈ all3 := by
  cases o with
  | none => exact List.mem_cons_self
  | some i => revert i; decide
theorem three' (g : Fin 3 → F3) (r : Fin 3) (o : F3) (h1 : ac3 g = true) (h2 : nohit3 g r o = true) : ac3 (upd3 g r o) = true := by
  have e : app3 (g 0) (g 1) (g 2) = g := by
    funext i
    match i with
    | 0 => rfl
    | 1 => rfl
    | 2 => rfl
  have t := List.all_eq_true.mp (List.all_eq_true.mp (List.all_eq_true.mp (List.all_eq_true.mp (List.all_eq_true.mp three (g 0) (mem_all3 _)) (g 1) (mem_all3 _)) (g 2) (mem_all3 _)) o (mem_all3 _)) r (mem3 r)
  rw [e, h1, h2] at t
  simpa using t
def iF (i : Fin 3) : Int := (i.val : Int)
theorem toF {x : Int} (h0 : 0 ≤ x) (h3 : x < 3) : ∃ i : Fin 3, iF i = x := ⟨⟨x.toNat, by omega⟩, by unfold iF; simp; omega⟩
theorem iF_inj {i j : Fin 3} (h : iF i = iF j) : i = j := by
  unfold iF at h
  exact Fin.ext (by omega)
theorem model3 {f : Int → Option Int} (h : ∀ x y, f x = some y → 0 ≤ y ∧ y < 3) : ∃ g : Fin 3 → F3, ∀ i, f (iF i) = (g i).map iF := by
  have k : ∀ i : Fin 3, ∃ o : F3, f (iF i) = o.map iF := fun i => by
    cases e : f (iF i) with
    | none => exact ⟨none, rfl⟩
    | some y =>
      obtain ⟨j, hj⟩ := toF (h _ _ e).1 (h _ _ e).2
      exact ⟨some j, by rw [Option.map_some, hj]⟩
  exact ⟨fun i => Classical.choose (k i), fun i => Classical.choose_spec (k i)⟩
theorem bind3 {f : Int → Option Int} {g : Fin 3 → F3} (h : ∀ i, f (iF i) = (g i).map iF) (i : Fin 3) : ((f (iF i)).bind fun y => (f y).bind f) = ((g i).bind fun j => (g j).bind g).map iF := by
  rw [h i]
  cases g i with
  | none => rfl
  | some j =>
    simp only [Option.map_some, Option.bind_some]
    rw [h j]
    cases g j with
    | none => rfl
    | some k => simp only [Option.map_some, Option.bind_some]; exact h k
theorem ac_of {f : Int → Option Int} {g : Fin 3 → F3} (h : ∀ i, f (iF i) = (g i).map iF) (hd : ∀ x y, f x = some y → 0 ≤ x ∧ x < 3) : (∀ x, ((f x).bind fun y => (f y).bind f) = none) ↔ ac3 g = true := by
  unfold ac3
  constructor
  · intro a
    rw [List.all_eq_true]
    intro i _
    have z := a (iF i)
    rw [bind3 h i, Option.map_eq_none_iff] at z
    rw [z]; rfl
  · intro a x
    cases e : f x with
    | none => rfl
    | some y =>
      obtain ⟨i, hi⟩ := toF (hd _ _ e).1 (hd _ _ e).2
      have m := mem3 i
      have z := List.all_eq_true.mp a i m
      have z2 := bind3 h i
      rw [Option.isNone_iff_eq_none.mp z, hi, e] at z2
      exact z2
theorem nohit_of {ds : List Deed} {g : Fin 3 → F3} (h : ∀ i, fol ds (iF i) = (g i).map iF) (r : Fin 3) (o : F3) (hh : hits ds (iF r) 3 (o.map iF) = some false) : nohit3 g r o = true := by
  have ne : ∀ {i : Fin 3}, iF i ≠ iF r → (i != r) = true := fun {i} q => by
    simp only [bne_iff_ne, ne_eq]
    exact fun e => q (by rw [e])
  cases o with
  | none => rfl
  | some x =>
    unfold hits at hh
    dsimp only [Option.map_some] at hh
    split at hh
    · cases hh
    rename_i h1
    have hh2 : hits ds (iF r) 2 (fol ds (iF x)) = some false := hh
    unfold nohit3
    dsimp only
    rw [ne h1, Bool.true_and]
    rw [h x] at hh2
    cases e1 : g x with
    | none => rfl
    | some y =>
      rw [e1] at hh2
      unfold hits at hh2
      dsimp only [Option.map_some] at hh2
      split at hh2
      · cases hh2
      rename_i h2
      have hh3 : hits ds (iF r) 1 (fol ds (iF y)) = some false := hh2
      dsimp only
      rw [ne h2, Bool.true_and]
      rw [h y] at hh3
      cases e2 : g y with
      | none => rfl
      | some z =>
        rw [e2] at hh3
        unfold hits at hh3
        dsimp only [Option.map_some] at hh3
        split at hh3
        · cases hh3
        rename_i h3
        exact ne h3
/-! ### a deed more -/
def noRing (ds : List Deed) : Deed → Prop
  | .follow r o _ _ => hits ds r 3 o = some false
  | _ => True
theorem fol_snoc_other {ds : List Deed} {d : Deed} (h : ∀ x, folAt x d = none) : fol (ds ++ [d]) = fol ds := by
  funext x
  unfold fol
  rw [followedBy_snoc, h x]
theorem fol_snoc_follow (ds : List Deed) (r : Int) (o : Option Int) (f h x : Int) : fol (ds ++ [.follow r o f h]) x = if x = r then o else fol ds x := by
  unfold fol
  rw [followedBy_snoc]
  unfold folAt
  by_cases e : r = x
  · subst e
    simp only [if_true]
    cases o <;> rfl
  · have e2 : ¬ x = r := fun z => e z.symm
    simp only [e, e2, if_false]
theorem folIn_snoc {rooms now : Int} {ds : List Deed} {d : Deed} (h : FolIn rooms ds) (ok : d.ok rooms now) : FolIn rooms (ds ++ [d]) := by
  cases d with
  | follow r o f hh =>
    obtain ⟨k1, k2, _⟩ := ok
    refine ⟨fun x y e => ?_, fun x y e => ?_⟩
    · rw [fol_snoc_follow] at e
      split at e
      · subst e; exact k2
      · exact h.1 x y e
    · rw [fol_snoc_follow] at e
      split at e
      · rename_i z; rw [z]; exact k1
      · exact h.2 x y e
  | _ => unfold FolIn; rw [fol_snoc_other (fun _ => rfl)]; exact h
theorem acy_snoc {rooms now : Int} {ds : List Deed} {d : Deed} (hr : rooms ≤ 3) (h : FolIn rooms ds) (a : Acy ds) (ok : d.ok rooms now) (nr : noRing ds d) : Acy (ds ++ [d]) := by
  have h' := folIn_snoc h ok
  cases d with
  | follow r o f hh =>
    obtain ⟨k1, k2, _⟩ := ok
    obtain ⟨g, hg⟩ := model3 (f := fol ds) fun x y e => ⟨(h.1 x y e).1, by have := (h.1 x y e).2; omega⟩
    have ag := (ac_of hg fun x y e => ⟨(h.2 x y e).1, by have := (h.2 x y e).2; omega⟩).mp a
    obtain ⟨rF, hrF⟩ := toF k1.1 (by omega)
    obtain ⟨oF, hoF⟩ : ∃ oF : F3, o = oF.map iF := by
      cases o with
      | none => exact ⟨none, rfl⟩
      | some y =>
        obtain ⟨j, hj⟩ := toF k2.1 (show y < 3 by have := k2.2; omega)
        exact ⟨some j, by rw [Option.map_some, hj]⟩
    subst hrF hoF
    have nh := nohit_of hg rF oF nr
    have ag' := three' g rF oF ag nh
    refine (ac_of (g := upd3 g rF oF) (fun i => ?_) fun x y e => ⟨(h'.2 x y e).1, by have := (h'.2 x y e).2; omega⟩).mpr ag'
    rw [fol_snoc_follow]
    unfold upd3
    by_cases e : i = rF
    · subst e
      rw [if_pos rfl, if_pos rfl]
    · rw [if_neg (fun z => e (iF_inj z)), if_neg e]
      exact hg i
  | _ => unfold Acy; rw [fol_snoc_other (fun _ => rfl)]; exact a
end Pg
end
end

section
set_option Elab.async false
set_option linter.all false
set_option maxRecDepth 100000
set_option maxHeartbeats 1000000
/-! HoE: a house made, a deed done, replay. -/
noncomputable section
namespace Pg
open PySem Ws
/-! ### logs that can be done -/
inductive Good (rooms : Int) : List Deed → Prop
  | nil : Good rooms []
  | snoc {ds : List Deed} {d : Deed} : Good rooms ds → d.ok rooms (nowOf ds) → noRing ds d → Good rooms (ds ++ [d])
theorem Good.inv {rooms : Int} {ds : List Deed} {d : Deed} (h : Good rooms (ds ++ [d])) : Good rooms ds ∧ d.ok rooms (nowOf ds) ∧ noRing ds d := by
  generalize e : ds ++ [d] = es at h
  cases h with
  | nil => simp at e
  | snoc h1 h2 h3 =>
    obtain ⟨e1, e2⟩ := List.append_inj' e rfl
    simp only [List.cons.injEq, and_true] at e2
    subst e1 e2
    exact ⟨h1, h2, h3⟩
theorem Good.folAcy {rooms : Int} {ds : List Deed} (hr : rooms ≤ 3) (h : Good rooms ds) : FolIn rooms ds ∧ Acy ds := by
  induction h with
  | nil => exact ⟨⟨fun x y e => (by cases e), fun x y e => (by cases e)⟩, fun x => rfl⟩
  | snoc h1 h2 h3 ih => exact ⟨folIn_snoc ih.1 h2, acy_snoc hr ih.1 ih.2 h2 h3⟩
theorem Good.preN {rooms : Int} : ∀ (n : Nat) {es ds : List Deed}, es.length = n → Good rooms (ds ++ es) → Good rooms ds
  | 0, es, ds, hn, h => by
    have e : es = [] := List.length_eq_zero_iff.mp hn
    subst e
    simpa using h
  | n + 1, es, ds, hn, h => by
    rcases List.eq_nil_or_concat es with rfl | ⟨fs, f, rfl⟩
    · simp at hn
    · rw [List.concat_eq_append, ← List.append_assoc] at h
      exact Good.preN n (by simpa using hn) h.inv.1
theorem Good.pre {rooms : Int} {es ds : List Deed} (h : Good rooms (ds ++ es)) : Good rooms ds := Good.preN _ rfl h
theorem Good.take {rooms : Int} {ds : List Deed} (h : Good rooms ds) (i : Nat) : Good rooms (ds.take i) := by
  rw [← List.take_append_drop i ds] at h
  exact h.pre
/-- the deed as its words are asked -/
def tryD (ds : List Deed) (rooms : Int) : Deed → Try
  | .plan r p h => tryPlan rooms (nowOf ds) (.int r) (pD p) (.int h)
  | .turn r v u h => tryTurn rooms (nowOf ds) (.int r) (.int v) (uD u) (.int h)
  | .back r h => tryBack rooms (nowOf ds) (.int r) (.int h)
  | .away b e v h => tryAway (nowOf ds) (.int b) (oD e) (.int v) (.int h)
  | .home h => tryHome (nowOf ds) (.int h)
  | .follow r o f h => tryFollow ds rooms (nowOf ds) (.int r) (oD o) (.int f) (.int h)
theorem untD_uD {u : Un} (h : ∀ e, u = .till e → 0 ≤ e ∧ e ≤ 2 * BIG) : untD (uD u) = some u := by
  cases u with
  | next => simp [untD, uD]
  | hold => simp [untD, uD]
  | till e => simp [untD, uD, numD_int (h e rfl)]
theorem tryD_ok {ds : List Deed} {rooms : Int} {d : Deed} (h0 : 0 ≤ nowOf ds) (h : d.ok rooms (nowOf ds)) (nr : noRing ds d) : tryD ds rooms d = .inr d := by
  cases d with
  | plan r p hh =>
    obtain ⟨k1, k2, k3⟩ := h
    simp [tryD, tryPlan, numD_int (show 0 ≤ r ∧ r ≤ rooms - 1 by omega), plD_pD k2, numD_int k3]
  | turn r v u hh =>
    obtain ⟨k1, k2, k3, k4⟩ := h
    have hu : untD (uD u) = some u := untD_uD fun e he => by
      subst he
      have := k3
      dsimp only at this
      omega
    simp only [tryD, tryTurn, numD_int (show 0 ≤ r ∧ r ≤ rooms - 1 by omega), numD_int k2, hu, numD_int k4]
    cases u with
    | till e =>
      have : ¬ e ≤ hh := by
        have := k3
        dsimp only at this
        omega
      simp [this]
    | _ => rfl
  | back r hh =>
    obtain ⟨k1, k2⟩ := h
    simp [tryD, tryBack, numD_int (show 0 ≤ r ∧ r ≤ rooms - 1 by omega), numD_int k2]
  | away b e v hh =>
    obtain ⟨k1, k2, k3, k4⟩ := h
    have hb : numD (.int b) 0 (2 * BIG) = some b := numD_int ⟨by omega, k2.2⟩
    have hs : strD (.int b) (oD e) = some (b, e) := by
      cases e with
      | none => simp [strD, hb, oD]
      | some e =>
        dsimp only at k3
        simp [strD, hb, oD, numD_int (show b + 1 ≤ e ∧ e ≤ 2 * BIG by omega)]
    have hlt : ¬ b < hh := by omega
    simp [tryD, tryAway, numD_int k1, hs, numD_int k4, hlt]
  | home hh => simp [tryD, tryHome, numD_int (show nowOf ds ≤ hh ∧ hh ≤ BIG from h)]
  | follow r o f hh =>
    obtain ⟨k1, k2, k3, k4⟩ := h
    have ho : othD rooms (oD o) = some o := by
      cases o with
      | none => rfl
      | some y =>
        dsimp only at k2
        simp [othD, oD, numD_int (show 0 ≤ y ∧ y ≤ rooms - 1 by omega)]
    have hn : ¬ hits ds r 3 o = some true := by
      have : hits ds r 3 o = some false := nr
      rw [this]; simp
    simp [tryD, tryFollow, numD_int (show 0 ≤ r ∧ r ≤ rooms - 1 by omega), ho, numD_int k3, hn, numD_int k4]
theorem Deed.ok_hour {rooms now : Int} {d : Deed} (h : d.ok rooms now) : now ≤ d.hour ∧ d.hour ≤ BIG := by
  cases d with
  | plan => exact h.2.2
  | turn => exact h.2.2.2
  | back => exact h.2
  | away => exact h.2.2.2
  | home => exact h
  | follow => exact h.2.2.2
theorem Good.now {rooms : Int} {ds : List Deed} (h : Good rooms ds) : 0 ≤ nowOf ds := by
  induction h with
  | nil => exact Int.le_refl _
  | snoc h1 h2 h3 ih => rw [nowOf_snoc]; exact Int.le_trans ih (Deed.ok_hour h2).1
def ordB : D → Bool
  | .str s => s == "newest" || s == "away"
  | _ => false
theorem ty_uD (st : AS) (u : Un) : tyU st (uD u) = true := by cases u <;> rfl
theorem ty_oD (st : AS) (o : Option Int) : tyB st (oD o) = true := by cases o <;> rfl
section
variable {P : Tbl} (H : HHo P)
include H
variable {st : AS} {l k : Nat} {rooms : Int} {order : Str} {ds : List Deed}
theorem r_do_deed {m : Nat} (hm : 6 ≤ m) (h : Hs st l k rooms order ds) (hz : ds.length < 1000) (a : Acy ds) (d : Deed) : callF P m 34 [.ref l, dD d] st = outD st k ds (tryD ds rooms d) := by
  obtain ⟨n, rfl⟩ := Nat.exists_eq_add_of_le' hm
  rw [callF_eq H.do_deed (n + 5) _ rfl]
  unfold f_do_deed
  cases d with
  | plan r p hh =>
    have q := r_plan_room H (show 5 ≤ n + 5 by omega) h hz (.int r) (pD p) (.int hh) rfl (ty_pl st) rfl
    simp [dD, h.at_, q]
    unfold tryD
    dsimp only
    generalize tryPlan rooms (nowOf ds) (.int r) (pD p) (.int hh) = t
    cases t with
    | inl c => exact gcR_exn _ _ _
    | inr d => exact gc_done H
  | turn r v u hh =>
    have q := r_turn H (show 5 ≤ n + 5 by omega) h hz (.int r) (.int v) (uD u) (.int hh) rfl rfl (ty_uD st u) rfl
    simp [dD, h.at_, q]
    unfold tryD
    dsimp only
    generalize tryTurn rooms (nowOf ds) (.int r) (.int v) (uD u) (.int hh) = t
    cases t with
    | inl c => exact gcR_exn _ _ _
    | inr d => exact gc_done H
  | back r hh =>
    have q := r_back H (show 5 ≤ n + 5 by omega) h hz (.int r) (.int hh) rfl rfl
    simp [dD, h.at_, q]
    unfold tryD
    dsimp only
    generalize tryBack rooms (nowOf ds) (.int r) (.int hh) = t
    cases t with
    | inl c => exact gcR_exn _ _ _
    | inr d => exact gc_done H
  | away b e v hh =>
    have q := r_away H (show 5 ≤ n + 5 by omega) h hz (.int b) (oD e) (.int v) (.int hh) rfl (ty_oD st e) rfl rfl
    simp [dD, h.at_, q]
    unfold tryD
    dsimp only
    generalize tryAway (nowOf ds) (.int b) (oD e) (.int v) (.int hh) = t
    cases t with
    | inl c => exact gcR_exn _ _ _
    | inr d => exact gc_done H
  | home hh =>
    have q := r_home H (show 5 ≤ n + 5 by omega) h hz (.int hh) rfl
    simp [dD, h.at_, q]
    unfold tryD
    dsimp only
    generalize tryHome (nowOf ds) (.int hh) = t
    cases t with
    | inl c => exact gcR_exn _ _ _
    | inr d => exact gc_done H
  | follow r o f hh =>
    have q := r_follow H (show 5 ≤ n + 5 by omega) h hz (.int r) (oD o) (.int f) (.int hh) rfl (ty_oD st o) rfl rfl fun r o _ _ => hits_some ds r a o
    simp [dD, h.at_, q]
    unfold tryD
    dsimp only
    generalize tryFollow ds rooms (nowOf ds) (.int r) (oD o) (.int f) (.int hh) = t
    cases t with
    | inl c => exact gcR_exn _ _ _
    | inr d => exact gc_done H
theorem r_check_order {m : Nat} (hm : 1 ≤ m) (v : D) (hv : tyB st v = true) : callF P m 8 [v] st = if ordB v = true then .ok .non st else .exn 3 .non st := by
  obtain ⟨n, rfl⟩ := Nat.exists_eq_add_of_le' hm
  rw [callF_eq H.check_order n _ rfl]
  unfold f_check_order
  cases v with
  | str s =>
    by_cases h1 : s = "newest"
    · subst h1; simp [ordB, inD, inF, eqF, gcR_same]
    · by_cases h2 : s = "away"
      · subst h2; simp [ordB, inD, inF, eqF, gcR_same]
      · have h1' : ¬ ("newest" : Str) = s := fun z => h1 z.symm
        have h2' : ¬ ("away" : Str) = s := fun z => h2 z.symm
        simp [ordB, inD, inF, eqF, h1, h2, h1', h2', gcR_exn]
  | ref l => simp [ordB, isi_ref hv, gcR_exn]
  | clo f cs => simp [tyB] at hv
  | kls f => simp [tyB] at hv
  | _ => simp [ordB, gcR_exn]
/-- a house's fields -/
def hF (rooms : Int) (order : Str) (k : Nat) : O := .ins 0 [("rooms", .int rooms), ("order", .str order), ("deeds", .ref k)]
theorem r_init {m : Nat} (hm : 2 ≤ m) (hl : st[l]? = some (.ins 0 [])) (a b : D) (ha : tyB st a = true) (hb : tyB st b = true) : callF P m 19 [.ref l, a, b] st = match numD a 1 3 with
    | none => .exn 2 .non st
    | some r => match b with
      | .str s => if ordB b = true then .ok .non (st.set l (hF r s st.length) ++ [.lst []]) else .exn 3 .non st
      | _ => .exn 3 .non st := by
  obtain ⟨n, rfl⟩ := Nat.exists_eq_add_of_le' hm
  have hlt : l < st.length := (List.getElem?_eq_some_iff.mp hl).1
  refine run_of H.init rfl ?_
  unfold f_House_init
  have r1 := r_is_number H.toHPl n st a 1 3 ha
  have r2 := r_check_order H (st := st) (show 1 ≤ n + 1 by omega) b hb
  cases e1 : numD a 1 3 with
  | none =>
    rw [numD_none e1] at r1
    refine to_iteT (st' := st) (by simp [r1]) ?_
    unfold Wp
    simp [gcR_exn]
  | some r =>
    obtain ⟨b1, rfl, _⟩ := numD_some e1
    rw [b1] at r1
    refine to_iteN (st' := st) (by simp [r1]) ?_
    cases e2 : ordB b with
    | false =>
      rw [e2] at r2
      refine to_exprX (n := 3) (p := .non) (st' := st) (by simp [r2]) ?_
      dsimp only
      cases b <;> simp [gcR_exn, e2]
    | true =>
      rw [e2] at r2
      refine to_expr (d := .non) (st' := st) (by simp [r2]) ?_
      cases b with
      | str s =>
        have hn : ¬ GcOk st ((st.set l (hF r s st.length)) ++ [.lst []]) := fun g => by
          rcases g l hlt with z | ⟨o, z, lo⟩
          · rw [List.getElem?_append_left (by rw [List.length_set]; exact hlt), List.getElem?_set_self hlt, hl] at z
            simp [hF] at z
          · rw [List.getElem?_append_left (by rw [List.length_set]; exact hlt), List.getElem?_set_self hlt] at z
            cases z
            simp [hF, O.lowB, lowAll, D.lowB] at lo
        have key : gcR st (.ok .non ((st.set l (hF r s st.length)) ++ [.lst []])) = .ok .non ((st.set l (hF r s st.length)) ++ [.lst []]) := by
          unfold gcR
          dsimp only
          rw [if_neg hn]
        have h1 : (st.set l (.ins 0 [("rooms", .int r)]))[l]? = some (O.ins 0 [("rooms", .int r)]) := List.getElem?_set_self hlt
        have h2 : ((st.set l (.ins 0 [("rooms", .int r)])).set l (.ins 0 [("rooms", .int r), ("order", .str s)]))[l]? = some (O.ins 0 [("rooms", .int r), ("order", .str s)]) := List.getElem?_set_self (by rw [List.length_set]; exact hlt)
        refine to_setFld (v := .int r) (st1 := st) (st2 := st) rfl rfl hl (by simp) ?_
        refine to_setFld (v := .str s) rfl rfl h1 (by simp) ?_
        have h3 : (((st.set l (.ins 0 [("rooms", .int r)])).set l (.ins 0 [("rooms", .int r), ("order", .str s)])) ++ [O.lst []])[l]? = some (O.ins 0 [("rooms", .int r), ("order", .str s)]) := by
          rw [List.getElem?_append_left (by simpa using hlt)]
          exact h2
        refine to_setFld (v := .ref st.length) (l := l) (st2 := ((st.set l (.ins 0 [("rooms", .int r)])).set l (.ins 0 [("rooms", .int r), ("order", .str s)])) ++ [O.lst []]) (by simp [putF]) rfl h3 (by simp) ?_
        refine to_nil ?_
        have e4 : (((st.set l (.ins 0 [("rooms", .int r)])).set l (.ins 0 [("rooms", .int r), ("order", .str s)])) ++ [O.lst []]).set l (.ins 0 (putF "deeds" (.ref st.length) [("rooms", .int r), ("order", .str s)])) = (st.set l (hF r s st.length)) ++ [.lst []] := by
          rw [List.set_append_left _ _ (by simpa using hlt), List.set_set, List.set_set]
          rfl
        rw [e4]
        simp only [e2, if_true]
        exact key
      | _ => simp [ordB] at e2
end
end Pg
end
end

section
set_option Elab.async false
set_option linter.all false
set_option maxRecDepth 100000
set_option maxHeartbeats 1000000
/-! HoF: replay. -/
noncomputable section
namespace Pg
open PySem Ws
structure HRe (P : Tbl) : Prop extends HHo P where
  replay : P 35 = some f_replay
/-- a new house behind the state -/
def nh (st : AS) (rooms : Int) (order : Str) (ds : List Deed) : AS := st ++ [hF rooms order (st.length + 1), .lst (ds.map dD)]
theorem nh_hs (st : AS) (rooms : Int) (order : Str) (ds : List Deed) : Hs (nh st rooms order ds) st.length (st.length + 1) rooms order ds := by
  refine ⟨?_, ?_⟩
  · unfold nh
    rw [List.getElem?_append_right (Nat.le_refl _), Nat.sub_self]
    rfl
  · unfold nh
    rw [List.getElem?_append_right (by omega)]
    have e : st.length + 1 - st.length = 1 := by omega
    rw [e]; rfl
theorem nh_old {st : AS} {rooms : Int} {order : Str} {ds : List Deed} {i : Nat} (h : i < st.length) : (nh st rooms order ds)[i]? = st[i]? := List.getElem?_append_left h
theorem nh_len (st : AS) (rooms : Int) (order : Str) (ds : List Deed) : (nh st rooms order ds).length = st.length + 2 := by simp [nh]
theorem nh_set (st : AS) (rooms : Int) (order : Str) (ds es : List Deed) : (nh st rooms order ds).set (st.length + 1) (.lst (es.map dD)) = nh st rooms order es := by
  unfold nh
  rw [List.set_append_right _ _ (by omega)]
  have e : st.length + 1 - st.length = 1 := by omega
  rw [e]; rfl
/-- an instance that is handed out stays -/
theorem gcR_ins {st st' : AS} {r : Nat} {C : Nat} {fs : List (Str × D)} (hr : st.length ≤ r) (h : st'[r]? = some (.ins C fs)) : gcR st (.ok (.ref r) st') = .ok (.ref r) st' := by
  unfold gcR
  dsimp only
  split
  · simp [D.refless, hr, h, O.flat]
  · rfl
section
variable {P : Tbl} (H : HHo P)
include H
/-- House(rooms, order) -/
theorem r_make {m : Nat} (hm : 2 ≤ m) {env : Ws.Env} {st st' : AS} {es : Es} {a b : D} (he : evEs (callF P m) es env st = .ok [a, b] st') (ha : tyB st' a = true) (hb : tyB st' b = true) : evE (callF P m) (.make 0 19 es) env st = match numD a 1 3 with
    | none => .exn 2 .non (st' ++ [.ins 0 []])
    | some r => match b with
      | .str s => if ordB b = true then .ok (.ref st'.length) (nh st' r s []) else .exn 3 .non (st' ++ [.ins 0 []])
      | _ => .exn 3 .non (st' ++ [.ins 0 []]) := by
  have hl : (st' ++ [O.ins 0 []])[st'.length]? = some (.ins 0 []) := getLast_app _ _
  have tyA : ∀ v, tyB st' v = true → tyB (st' ++ [O.ins 0 []]) v = true := fun v hv => by
    cases v with
    | ref l =>
      unfold tyB at hv ⊢
      dsimp only at hv ⊢
      cases e : st'[l]? with
      | none => rw [e] at hv; cases hv
      | some o =>
        rw [List.getElem?_append_left (List.getElem?_eq_some_iff.mp e).1, e]
        rw [e] at hv; exact hv
    | _ => exact hv
  have q := r_init H hm (st := st' ++ [.ins 0 []]) hl a b (tyA a ha) (tyA b hb)
  simp only [evE, he, bind_ok, q]
  cases numD a 1 3 with
  | none => rfl
  | some r =>
    dsimp only
    cases b with
    | str s =>
      dsimp only
      cases ordB (.str s) with
      | false => rfl
      | true =>
        simp only [if_true, bind_ok]
        congr 1
        unfold nh
        rw [List.set_append_right _ _ (Nat.le_refl _), Nat.sub_self]
        simp
    | _ => rfl
end
section
variable {P : Tbl} (H : HRe P)
include H
theorem r_replay {m : Nat} (hm : 7 ≤ m) {st : AS} {kl : Nat} {rooms : Int} {order : Str} {ds : List Deed} (hl : st[kl]? = some (.lst (ds.map dD))) (hr : 1 ≤ rooms ∧ rooms ≤ 3) (ho : ordB (.str order) = true) (g : Good rooms ds) (hz : ds.length < 1000) :
    callF P m 35 [.int rooms, .str order, .ref kl] st = .ok (.ref st.length) (nh st rooms order ds) := by
  obtain ⟨n, rfl⟩ := Nat.exists_eq_add_of_le' hm
  have hkl : kl < st.length := (List.getElem?_eq_some_iff.mp hl).1
  refine run_of H.replay rfl ?_
  unfold f_replay
  have mk := r_make H.toHHo (m := n + 6) (by omega) (env := [some (.int rooms), some (.str order), some (.ref kl), none, none]) (st := st) (st' := st) (es := .cons (.var 0) (.cons (.var 1) .nil)) (a := .int rooms) (b := .str order) rfl rfl rfl
  rw [numD_int hr] at mk
  simp only [ho, if_true] at mk
  refine to_asg mk ?_
  have hl2 : (nh st rooms order [])[kl]? = some (.lst (ds.map dD)) := by rw [nh_old hkl]; exact hl
  refine to_for (xs := ds.map dD) (w := some (kl, ds.map dD)) (st' := nh st rooms order []) (by simp [items_lst hl2])
    (fun i env s => s = nh st rooms order (ds.take i) ∧ ∃ o, env = [some (.int rooms), some (.str order), some (.ref kl), some (.ref st.length), o]) ⟨rfl, none, rfl⟩ ?_ ?_ ?_
  · rintro i env s ⟨rfl, _⟩
    exact items_lst (by rw [nh_old hkl]; exact hl)
  · rintro i x env s hx ⟨rfl, o, rfl⟩
    rw [List.getElem?_map, Option.map_eq_some_iff] at hx
    obtain ⟨d, hd, rfl⟩ := hx
    refine ⟨[some (.int rooms), some (.str order), some (.ref kl), some (.ref st.length), some (dD d)], rfl, ?_⟩
    have gi := g.take (i + 1)
    have et : ds.take (i + 1) = ds.take i ++ [d] := by rw [List.take_add_one, hd]; rfl
    rw [et] at gi
    obtain ⟨g1, g2, g3⟩ := gi.inv
    have hlen : (ds.take i).length < 1000 := Nat.lt_of_le_of_lt (List.length_take_le' ..) hz
    have q := r_do_deed H.toHHo (show 6 ≤ n + 6 by omega) (nh_hs st rooms order (ds.take i)) hlen (g1.folAcy hr.2).2 d
    rw [tryD_ok g1.now g2 g3] at q
    unfold outD at q
    dsimp only at q
    rw [nh_set] at q
    refine to_expr (d := .non) (st' := nh st rooms order (ds.take i ++ [d])) (by simp only [evE, evEs, List.getElem?_cons_succ, List.getElem?_cons_zero, bind_ok, q]) (to_nil ?_)
    refine ⟨by rw [et], _, rfl⟩
  · rintro env s ⟨rfl, o, rfl⟩
    rw [List.length_map, List.take_length]
    refine to_ret (d := .ref st.length) rfl ?_
    exact gcR_ins (Nat.le_refl _) (nh_hs st rooms order ds).at_
end
end Pg
end
end

section
set_option Elab.async false
set_option linter.all false
set_option maxRecDepth 100000
set_option maxHeartbeats 1000000
/-! LoA: what the laws draw: plans, deeds, logs. -/
noncomputable section
namespace Pg
open PySem Ws
theorem zip_mk : ∀ (pl ks : List Int), List.zipWith (fun p k => D.tup [.int p, .int k]) pl ks = (pl.zip ks).map mk
  | [], _ => by simp
  | _ :: _, [] => by simp
  | p :: pl, k :: ks => by simp [zip_mk pl ks, mk]
theorem zip_ris : ∀ {pl ks : List Int}, pl.Pairwise (· < ·) → Ris (pl.zip ks)
  | [], _, _ => by simp [Ris]
  | _ :: _, [], _ => by simp [Ris]
  | p :: pl, k :: ks, h => by
    unfold Ris
    rw [List.zip_cons_cons, List.pairwise_cons]
    refine ⟨fun q hq => ?_, zip_ris (List.pairwise_cons.mp h).2⟩
    have := List.of_mem_zip (a := q.1) (b := q.2) hq
    exact (List.pairwise_cons.mp h).1 _ this.1
structure HDr (P : Tbl) : Prop where
  law_begin : P 90 = some beginF
  law_draw : P 91 = some drawF
  law_plan : P 92 = some f_law_plan
  law_until : P 93 = some f_law_until
  law_away : P 94 = some f_law_away
structure HLg (P : Tbl) : Prop extends HDr P where
  law_deed : P 99 = some f_law_deed
  law_follows : P 100 = some f_law_follows
  law_rings : P 101 = some f_law_rings
  law_log : P 102 = some f_law_log
/-- the draws' object and the script's numbers are old -/
theorem gc_draw {st st' : AS} {l s : Nat} {xs : List Int} (o : Old l st st') (d : Dw st' l s xs) (hl : l < st.length) (hs : s < st.length) {v : D} (hv : v.refless = true) : gcR st (.ok v st') = .ok v (st'.take st.length) ∧ Dw (st'.take st.length) l s xs ∧ But l st (st'.take st.length) := by
  obtain ⟨a, b, c, e, p⟩ := d.at_
  have g : GcOk st st' := fun i hi => by
    by_cases h : i = l
    · subst h
      refine .inr ⟨_, e, ?_⟩
      show (decide (s < st.length) && _) = true
      rw [decide_eq_true hs]; rfl
    · exact .inl (o.at_ i hi h)
  have hlen : (st'.take st.length).length = st.length := by rw [List.length_take]; exact Nat.min_eq_left o.le
  refine ⟨gcR_cut g hv, ⟨d.ne, by rw [List.getElem?_take_of_lt hs]; exact d.src, a, b, c, by rw [List.getElem?_take_of_lt hl]; exact e, p⟩, hlen, fun i hi => ?_⟩
  by_cases h : i < st.length
  · rw [List.getElem?_take_of_lt h]; exact o.at_ i h hi
  · rw [List.getElem?_eq_none (by rw [hlen]; omega), List.getElem?_eq_none (by omega)]
def dropSs2 : Nat → Ss → Ss
  | 0, s => s
  | n + 1, .cons _ r => dropSs2 n r
  | _ + 1, .nil => .nil
section
variable {P : Tbl} {st : AS} {l s : Nat} {xs : List Int}
theorem draw_m (H : HDr P) {m : Nat} (hm : 1 ≤ m) (h : Dw st l s xs) (many : Int) (h1 : 0 < many) (h2 : many < 1073741824) :
    ∃ k st', callF P m 91 [.ref l, .int many] st = .ok (.int k) st' ∧ 0 ≤ k ∧ k < many ∧ Dw st' l s xs ∧ But l st st' := by
  obtain ⟨n, rfl⟩ := Nat.exists_eq_add_of_le' hm
  exact draw_ok H.law_draw n h many h1 h2
theorem plan_ok (H : HDr P) {m : Nat} (hm : 2 ≤ m) (h : Dw st l s xs) : ∃ p st', callF P m 92 [.ref l] st = .ok (pD p) st' ∧ PlOk p ∧ p.length ≤ 4 ∧ Dw st' l s xs ∧ But l st st' := by
  obtain ⟨n, rfl⟩ := Nat.exists_eq_add_of_le' hm
  obtain ⟨r, pl, st1, p1, pr1, prl, prlt, pw, pb, pn, D2, o1⟩ := places_ok H.law_draw n h (dv := 0) (kv := 2) (x := "_law_k") (big := 168) (cnt := 5) (by omega) (by omega) (by omega) (by omega)
    (env := [some (.ref l), none, none, none]) rfl (by omega)
  obtain ⟨ks, st2, q1, q2, q3, D3, o2⟩ := planE_ok H.law_draw n D2 (dv := 0) (pv := 1) (kv := 3) (r := r) (x := "_law_place") (big := 10) (pl := pl) (by omega) (by omega)
    (env := [some (.ref l), some (.ref r), none, none]) rfl (by omega) (by simp) rfl pr1 prl
  rw [zip_mk] at q1
  have ok : PlOk (pl.zip ks) := ⟨by rw [List.length_zip]; omega, zip_ris pw, fun p hp => by
    have := List.of_mem_zip (a := p.1) (b := p.2) hp
    have h1 := pb _ this.1
    have h2 := q3 _ this.2
    omega⟩
  obtain ⟨g1, g2, g3⟩ := gc_draw (o1.trans o2) D3 h.lt h.lts (v := pD (pl.zip ks)) (rl_pD _)
  refine ⟨pl.zip ks, st2.take st.length, ?_, ok, by rw [List.length_zip]; omega, g2, g3⟩
  refine run_of H.law_plan rfl ?_
  unfold f_law_plan
  refine to_asg (st' := st1) (d := .ref r) p1 ?_
  refine to_ret (st' := st2) q1 ?_
  exact g1
theorem until_ok (H : HDr P) {m : Nat} (hm : 2 ≤ m) (h : Dw st l s xs) (hour : Int) : ∃ u st', callF P m 93 [.ref l, .int hour] st = .ok (uD u) st' ∧ (∀ e, u = .till e → hour < e ∧ e ≤ hour + 200) ∧ Dw st' l s xs ∧ But l st st' := by
  obtain ⟨n, rfl⟩ := Nat.exists_eq_add_of_le' hm
  obtain ⟨k, st1, r1, k1, k2, d1, b1⟩ := draw_m H (m := n + 1) (by omega) h 4 (by omega) (by omega)
  by_cases c1 : k ≤ 1
  · obtain ⟨g1, g2, g3⟩ := gc_draw b1.old d1 h.lt h.lts (v := uD .next) rfl
    refine ⟨.next, _, ?_, fun e he => (by cases he), g2, g3⟩
    refine run_of H.law_until rfl ?_
    unfold f_law_until
    refine to_asg (d := .int k) (st' := st1) (by simp [r1]) ?_
    refine to_iteT (st' := st1) (by simp [c1]) (to_ret (d := uD .next) (st' := st1) rfl ?_)
    exact g1
  · by_cases c2 : k = 2
    · obtain ⟨g1, g2, g3⟩ := gc_draw b1.old d1 h.lt h.lts (v := uD .hold) rfl
      refine ⟨.hold, _, ?_, fun e he => (by cases he), g2, g3⟩
      refine run_of H.law_until rfl ?_
      unfold f_law_until
      refine to_asg (d := .int k) (st' := st1) (by simp [r1]) ?_
      refine to_iteN (st' := st1) (by simp [c1]) ?_
      refine to_iteT (st' := st1) (by simp [c2]) (to_ret (d := uD .hold) (st' := st1) rfl ?_)
      exact g1
    · obtain ⟨j, st2, r2, j1, j2, d2, b2⟩ := draw_m H (m := n + 1) (by omega) d1 200 (by omega) (by omega)
      obtain ⟨g1, g2, g3⟩ := gc_draw (b1.trans b2).old d2 h.lt h.lts (v := uD (.till (hour + 1 + j))) rfl
      refine ⟨.till (hour + 1 + j), _, ?_, fun e he => (by cases he; omega), g2, g3⟩
      refine run_of H.law_until rfl ?_
      unfold f_law_until
      refine to_asg (d := .int k) (st' := st1) (by simp [r1]) ?_
      refine to_iteN (st' := st1) (by simp [c1]) ?_
      refine to_iteN (st' := st1) (by simp [c2]) ?_
      refine to_ret (d := uD (.till (hour + 1 + j))) (st' := st2) (by simp [r2, uD]) ?_
      exact g1
theorem away_ok (H : HDr P) {m : Nat} (hm : 2 ≤ m) (h : Dw st l s xs) (hour : Int) : ∃ b e v st', callF P m 94 [.ref l, .int hour] st = .ok (dD (.away b e v hour)) st' ∧ (hour ≤ b ∧ b < hour + 60) ∧ (∀ x, e = some x → b < x ∧ x ≤ b + 150) ∧ (0 ≤ v ∧ v ≤ 9) ∧ Dw st' l s xs ∧ But l st st' := by
  obtain ⟨n, rfl⟩ := Nat.exists_eq_add_of_le' hm
  obtain ⟨k, st1, r1, k1, k2, d1, b1⟩ := draw_m H (m := n + 1) (by omega) h 60 (by omega) (by omega)
  obtain ⟨j, st2, r2, j1, j2, d2, b2⟩ := draw_m H (m := n + 1) (by omega) d1 150 (by omega) (by omega)
  obtain ⟨c, st3, r3, c1, c2, d3, b3⟩ := draw_m H (m := n + 1) (by omega) d2 5 (by omega) (by omega)
  obtain ⟨v, st4, r4, v1, v2, d4, b4⟩ := draw_m H (m := n + 1) (by omega) d3 10 (by omega) (by omega)
  have bb := ((b1.trans b2).trans b3).trans b4
  by_cases hc : c = 0
  · obtain ⟨g1, g2, g3⟩ := gc_draw bb.old d4 h.lt h.lts (v := dD (.away (hour + k) none v hour)) (rl_dD _)
    refine ⟨hour + k, none, v, _, ?_, by omega, fun x hx => (by cases hx), by omega, g2, g3⟩
    refine run_of H.law_away rfl ?_
    unfold f_law_away
    refine to_asg (d := .int (hour + k)) (st' := st1) (by simp [r1]) ?_
    refine to_asg (d := .int (hour + k + 1 + j)) (st' := st2) (by simp [r2]) ?_
    refine to_iteT (st' := st3) (by simp [r3, hc]) ?_
    refine to_asg (d := .non) (st' := st3) rfl (to_nil ?_)
    refine to_ret (d := dD (.away (hour + k) none v hour)) (st' := st4) (by simp [r4, dD, oD]) ?_
    exact g1
  · obtain ⟨g1, g2, g3⟩ := gc_draw bb.old d4 h.lt h.lts (v := dD (.away (hour + k) (some (hour + k + 1 + j)) v hour)) (rl_dD _)
    refine ⟨hour + k, some (hour + k + 1 + j), v, _, ?_, by omega, fun x hx => (by cases hx; omega), by omega, g2, g3⟩
    refine run_of H.law_away rfl ?_
    unfold f_law_away
    refine to_asg (d := .int (hour + k)) (st' := st1) (by simp [r1]) ?_
    refine to_asg (d := .int (hour + k + 1 + j)) (st' := st2) (by simp [r2]) ?_
    refine to_iteN (st' := st3) (by simp [r3, hc]) ?_
    refine to_ret (d := dD (.away (hour + k) (some (hour + k + 1 + j)) v hour)) (st' := st4) (by simp [r4, dD, oD]) ?_
    exact g1
/-- drawn deeds are near -/
def Deed.near : Deed → Prop
  | .away b e _ h => b < h + 60 ∧ ∀ x, e = some x → x ≤ h + 210
  | .turn _ _ u h => ∀ e, u = .till e → e ≤ h + 200
  | .plan _ p _ => p.length ≤ 4
  | .follow _ _ f _ => -4 ≤ f ∧ f ≤ 4
  | _ => True
theorem deed_ok (H : HLg P) {m : Nat} (hm : 3 ≤ m) (h : Dw st l s xs) (rooms hour : Int) (hr : 1 ≤ rooms ∧ rooms ≤ 3) (hh : 0 ≤ hour ∧ hour ≤ 1000000) :
    ∃ d st', callF P m 99 [.ref l, .int rooms, .int hour] st = .ok (dD d) st' ∧ d.ok rooms hour ∧ d.hour = hour ∧ d.near ∧ Dw st' l s xs ∧ But l st st' := by
  obtain ⟨n, rfl⟩ := Nat.exists_eq_add_of_le' hm
  have hB : BIG = 1000000000 := rfl
  obtain ⟨r, st1, r1, r1a, r1b, d1, b1⟩ := draw_m H.toHDr (m := n + 2) (by omega) h rooms (by omega) (by omega)
  obtain ⟨w, st2, r2, w1, w2, d2, b2⟩ := draw_m H.toHDr (m := n + 2) (by omega) d1 10 (by omega) (by omega)
  have b12 := b1.trans b2
  have start : ∀ (d : Deed) (st' : AS), Dw st' l s xs → But l st st' → d.ok rooms hour → d.hour = hour → d.near →
      Wp (exSs (callF P (n + 2)) (dropSs2 2 f_law_deed.body) [some (.ref l), some (.int rooms), some (.int hour), some (.int r), some (.int w), none] st2) (fun r => gcR st r.res = .ok (dD d) (st'.take st.length)) →
      ∃ d st', callF P (n + 3) 99 [.ref l, .int rooms, .int hour] st = .ok (dD d) st' ∧ d.ok rooms hour ∧ d.hour = hour ∧ d.near ∧ Dw st' l s xs ∧ But l st st' := fun d st' dd bb ok he nr k => by
    obtain ⟨g1, g2, g3⟩ := gc_draw bb.old dd h.lt h.lts (v := dD d) (rl_dD _)
    refine ⟨d, _, ?_, ok, he, nr, g2, g3⟩
    refine run_of H.law_deed rfl ?_
    unfold f_law_deed
    refine to_asg (d := .int r) (st' := st1) (by simp [r1]) ?_
    refine to_asg (d := .int w) (st' := st2) (by simp [r2]) ?_
    exact k
  by_cases c1 : w ≤ 1
  · obtain ⟨p, st3, r3, p1, p2, d3, b3⟩ := plan_ok H.toHDr (m := n + 2) (by omega) d2
    refine start (.plan r p hour) st3 d3 (b12.trans b3) ⟨by omega, p1, by omega⟩ rfl p2 ?_
    unfold f_law_deed
    refine to_iteT (st' := st2) (by simp [c1]) (to_ret (d := dD (.plan r p hour)) (st' := st3) (by simp [r3, dD]) ?_)
    exact (gc_draw (b12.trans b3).old d3 h.lt h.lts (rl_dD _)).1
  by_cases c2 : w ≤ 4
  · obtain ⟨v, st3, r3, v1, v2, d3, b3⟩ := draw_m H.toHDr (m := n + 2) (by omega) d2 10 (by omega) (by omega)
    obtain ⟨u, st4, r4, u1, d4, b4⟩ := until_ok H.toHDr (m := n + 2) (by omega) d3 hour
    have bb := (b12.trans b3).trans b4
    refine start (.turn r v u hour) st4 d4 bb ⟨by omega, by omega, ?_, by omega⟩ rfl (fun e he => (u1 e he).2) ?_
    · cases u with
      | till e => have := u1 e rfl; exact ⟨by omega, by omega⟩
      | _ => trivial
    unfold f_law_deed
    refine to_iteN (st' := st2) (by simp [c1]) ?_
    refine to_iteT (st' := st2) (by simp [c2]) (to_ret (d := dD (.turn r v u hour)) (st' := st4) (by simp [r3, r4, dD]) ?_)
    exact (gc_draw bb.old d4 h.lt h.lts (rl_dD _)).1
  by_cases c3 : w = 5
  · refine start (.back r hour) st2 d2 b12 ⟨by omega, by omega⟩ rfl trivial ?_
    unfold f_law_deed
    refine to_iteN (st' := st2) (by simp [c1]) ?_
    refine to_iteN (st' := st2) (by simp [c2]) ?_
    refine to_iteT (st' := st2) (by simp [c3]) (to_ret (d := dD (.back r hour)) (st' := st2) (by simp [dD]) ?_)
    exact (gc_draw b12.old d2 h.lt h.lts (rl_dD _)).1
  by_cases c4 : w = 6
  · obtain ⟨b, e, v, st3, r3, q1, q2, q3, d3, b3⟩ := away_ok H.toHDr (m := n + 2) (by omega) d2 hour
    refine start (.away b e v hour) st3 d3 (b12.trans b3) ⟨by omega, by omega, ?_, by omega⟩ rfl ⟨q1.2, fun x hx => by have := q2 x hx; omega⟩ ?_
    · cases e with
      | none => trivial
      | some x => have := q2 x rfl; exact ⟨by omega, by omega⟩
    unfold f_law_deed
    refine to_iteN (st' := st2) (by simp [c1]) ?_
    refine to_iteN (st' := st2) (by simp [c2]) ?_
    refine to_iteN (st' := st2) (by simp [c3]) ?_
    refine to_iteT (st' := st2) (by simp [c4]) (to_ret (d := dD (.away b e v hour)) (st' := st3) (by simp [r3]) ?_)
    exact (gc_draw (b12.trans b3).old d3 h.lt h.lts (rl_dD _)).1
  by_cases c5 : w = 7
  · refine start (.home hour) st2 d2 b12 (show hour ≤ hour ∧ hour ≤ BIG by omega) rfl trivial ?_
    unfold f_law_deed
    refine to_iteN (st' := st2) (by simp [c1]) ?_
    refine to_iteN (st' := st2) (by simp [c2]) ?_
    refine to_iteN (st' := st2) (by simp [c3]) ?_
    refine to_iteN (st' := st2) (by simp [c4]) ?_
    refine to_iteT (st' := st2) (by simp [c5]) (to_ret (d := dD (.home hour)) (st' := st2) (by simp [dD]) ?_)
    exact (gc_draw b12.old d2 h.lt h.lts (rl_dD _)).1
  obtain ⟨o, st3, r3, o1, o2, d3, b3⟩ := draw_m H.toHDr (m := n + 2) (by omega) d2 (rooms + 1) (by omega) (by omega)
  obtain ⟨f, st4, r4, f1, f2, d4, b4⟩ := draw_m H.toHDr (m := n + 2) (by omega) d3 9 (by omega) (by omega)
  have bb := (b12.trans b3).trans b4
  by_cases c6 : o = rooms
  · refine start (.follow r none (f - 4) hour) st4 d4 bb ⟨by omega, trivial, by omega, by omega⟩ rfl (show -4 ≤ f - 4 ∧ f - 4 ≤ 4 by omega) ?_
    unfold f_law_deed
    refine to_iteN (st' := st2) (by simp [c1]) ?_
    refine to_iteN (st' := st2) (by simp [c2]) ?_
    refine to_iteN (st' := st2) (by simp [c3]) ?_
    refine to_iteN (st' := st2) (by simp [c4]) ?_
    refine to_iteN (st' := st2) (by simp [c5]) ?_
    refine to_asg (d := .int o) (st' := st3) (by simp [r3]) ?_
    refine to_iteT (st' := st3) (by simp [c6]) (to_asg (d := .non) (st' := st3) rfl (to_nil ?_))
    refine to_ret (d := dD (.follow r none (f - 4) hour)) (st' := st4) (by simp [r4, dD, oD]) ?_
    exact (gc_draw bb.old d4 h.lt h.lts (rl_dD _)).1
  · refine start (.follow r (some o) (f - 4) hour) st4 d4 bb ⟨by omega, (show 0 ≤ o ∧ o < rooms by omega), by omega, by omega⟩ rfl (show -4 ≤ f - 4 ∧ f - 4 ≤ 4 by omega) ?_
    unfold f_law_deed
    refine to_iteN (st' := st2) (by simp [c1]) ?_
    refine to_iteN (st' := st2) (by simp [c2]) ?_
    refine to_iteN (st' := st2) (by simp [c3]) ?_
    refine to_iteN (st' := st2) (by simp [c4]) ?_
    refine to_iteN (st' := st2) (by simp [c5]) ?_
    refine to_asg (d := .int o) (st' := st3) (by simp [r3]) ?_
    refine to_iteN (st' := st3) (by simp [c6]) ?_
    refine to_ret (d := dD (.follow r (some o) (f - 4) hour)) (st' := st4) (by simp [r4, dD, oD]) ?_
    exact (gc_draw bb.old d4 h.lt h.lts (rl_dD _)).1
end
end Pg
end
end

section
set_option Elab.async false
set_option linter.all false
set_option maxRecDepth 100000
set_option maxHeartbeats 1000000
/-! LoB: the laws' own looks for rings; the drawn log. -/
noncomputable section
namespace Ws
open PySem
theorem Dw.setO {st : AS} {l s : Nat} {xs : List Int} (h : Dw st l s xs) {q : Nat} (h1 : q ≠ l) (h2 : q ≠ s) (o : O) : Dw (st.set q o) l s xs := by
  obtain ⟨a, b, c, e, p⟩ := h.at_
  exact ⟨h.ne, by rw [List.getElem?_set_ne h2]; exact h.src, a, b, c, by rw [List.getElem?_set_ne h1]; exact e, p⟩
theorem Old.setN {l : Nat} {a b : AS} (h : Old l a b) {q : Nat} (hq : a.length ≤ q) (o : O) : Old l a (b.set q o) := ⟨by rw [List.length_set]; exact h.le, fun i hi hn => by rw [List.getElem?_set_ne (by omega)]; exact h.at_ i hi hn⟩
end Ws
namespace Pg
open PySem Ws
section
variable {P : Tbl} (H : HLg P)
include H
theorem r_law_follows {m : Nat} (hm : 1 ≤ m) {st : AS} {k : Nat} {ds : List Deed} (h : st[k]? = some (.lst (ds.map dD))) (room : Int) : callF P m 100 [.ref k, .int room] st = .ok (foD (followedBy ds room)) st := by
  obtain ⟨n, rfl⟩ := Nat.exists_eq_add_of_le' hm
  rw [callF_eq H.law_follows n _ rfl]
  unfold f_law_follows
  have hs : slrD st (.ref k) = .ok (.ref st.length) (st ++ [.lst (ds.reverse.map dD)]) := by
    unfold slrD
    simp only [h, newL, List.map_reverse]
  have hg : (st ++ [O.lst (ds.reverse.map dD)])[st.length]? = some (.lst (ds.reverse.map dD)) := getLast_app st _
  simp only [exSs, exS, evSrc, evE, startE, bind_ok, stm_ok]
  simp only [List.map_cons, List.map_nil, List.length_cons, List.length_nil, List.replicate, List.cons_append, List.nil_append, List.getElem?_cons_zero, bind_ok, hs, items_lst hg, stm_ok]
  have hw : watchOk (some (st.length, ds.reverse.map dD)) (st ++ [O.lst (ds.reverse.map dD)]) := items_lst hg
  rw [forL_find (st := st ++ [O.lst (ds.reverse.map dD)]) (E0 := [some (.ref k), some (.int room), none]) hw dD (fun x => [some (.ref k), some (.int room), some (dD x)]) (fun d => (folAt room d).map foD) ds.reverse (fun x _ => ⟨rfl, ?_⟩) _ rfl]
  · unfold followedBy
    have e : ∀ l : List Deed, l.findSome? (fun d => (folAt room d).map foD) = (l.findSome? (folAt room)).map foD := fun l => by
      induction l with
      | nil => rfl
      | cons a l ih =>
        rw [List.findSome?_cons, List.findSome?_cons]
        cases folAt room a with
        | none => exact ih
        | some z => rfl
    rw [e]
    cases ds.reverse.findSome? (folAt room) with
    | none => simp; exact gcR_app _ _ rfl
    | some z => simp; exact gcR_app _ _ (rl_foD z)
  · cases x with
    | follow r o f hh =>
      by_cases hr : r = room
      · subst hr
        cases o with
        | none => simp [folAt, dD, oD, foD]
        | some o => simp [folAt, dD, oD, foD]
      · simp [folAt, dD, hr]
    | _ => simp [folAt, dD]
def ringB (ds : List Deed) : Deed → Bool
  | .follow r o _ _ => decide (hits ds r 3 o = some true)
  | _ => false
def rgT : T := .notN (.var 2)
def rgB : Ss := (.cons (.ite (.cmp .eq (.var 2) (.ix (.var 1) (.lit (.int 1))))
      (.cons (.ret (.lit (.bl true))) .nil)
      .nil)
    (.cons (.asg (.name 3) (.call 100 (.cons (.var 0) (.cons (.var 2) .nil))))
    (.cons (.asg (.name 2) (.lit .non))
    (.cons (.ite (.notN (.var 3))
      (.cons (.asg (.name 2) (.ix (.var 3) (.lit (.int 0)))) .nil)
      .nil) .nil))))
theorem rg_while {m : Nat} (hm : 1 ≤ m) {st : AS} {k : Nat} {ds : List Deed} (h : st[k]? = some (.lst (ds.map dD))) (r : Int) (x0 x1 x2 : D) : ∀ (j : Nat) (o : Option Int) (x : Bool), hits ds r j o = some x → ∀ (n : Nat) (env : Ws.Env), wipeE env [3] = [some (.ref k), some (D.tup [.str "follow", .int r, x0, x1, x2]), some (oD o), none] →
    whileL (fun env st => evT (callF P m) rgT env st) [3] (fun env st => exSs (callF P m) rgB env st) (n + j + 1) env st = if x = true then .ret (.bl true) st else .next [some (.ref k), some (D.tup [.str "follow", .int r, x0, x1, x2]), some .non, none] st
  | j, none, x, hx, n, env, he => by
    have hx' : x = false := by cases j <;> simp [hits] at hx <;> exact hx
    subst hx'
    unfold whileL
    rw [he]
    simp [rgT, oD]
  | 0, some y, x, hx, n, env, he => by simp [hits] at hx
  | j + 1, some y, x, hx, n, env, he => by
    unfold hits at hx
    unfold whileL
    rw [he]
    by_cases hy : y = r
    · subst hy
      rw [if_pos rfl] at hx
      cases hx
      simp [rgT, rgB, oD, dD]
    · rw [if_neg hy] at hx
      have hz := rg_while hm h r x0 x1 x2 j ((followedBy ds y).map (·.1)) x hx n [some (.ref k), some (D.tup [.str "follow", .int r, x0, x1, x2]), some (oD ((followedBy ds y).map (·.1))), some (foD (followedBy ds y))] rfl
      rw [← hz]
      have rf := r_law_follows H hm h y
      cases hf : followedBy ds y with
      | none => rw [hf] at rf; simp [rgT, rgB, oD, hy, rf, foD, dD]; rfl
      | some q => rw [hf] at rf; simp [rgT, rgB, oD, hy, rf, foD, dD]; rfl
theorem r_law_rings_any {m : Nat} (hm : 2 ≤ m) {st : AS} {k : Nat} {ds : List Deed} (h : st[k]? = some (.lst (ds.map dD))) (a : Acy ds) (r : Int) (o : Option Int) (x1 x2 : D) : callF P m 101 [.ref k, .tup [.str "follow", .int r, oD o, x1, x2]] st = .ok (.bl (decide (hits ds r 3 o = some true))) st := by
  obtain ⟨n, rfl⟩ := Nat.exists_eq_add_of_le' hm
  rw [callF_eq H.law_rings (n + 1) _ rfl]
  unfold f_law_rings
  obtain ⟨x, hx⟩ := hits_some ds r a o
  obtain ⟨wn, hwn⟩ := WF_eq 3 (by omega)
  have hz := rg_while H (show 1 ≤ n + 1 by omega) h r (oD o) x1 x2 3 o x hx wn [some (.ref k), some (.tup [.str "follow", .int r, oD o, x1, x2]), some (oD o), none] rfl
  have ew : exS (callF P (n + 1)) (.whil rgT [3] rgB) [some (.ref k), some (.tup [.str "follow", .int r, oD o, x1, x2]), some (oD o), none] st = if x = true then .ret (.bl true) st else .next [some (.ref k), some (.tup [.str "follow", .int r, oD o, x1, x2]), some .non, none] st := by
    rw [← hz, ← hwn]
    rfl
  refine (?_ : Wp _ fun r' => gcR st r'.res = .ok (.bl (decide (hits ds r 3 o = some true))) st)
  refine to_iteN (st' := st) (by simp) ?_
  refine to_asg (d := oD o) (st' := st) (by simp) ?_
  show Wp (exSs (callF P (n + 1)) (.cons (.whil rgT [3] rgB) _) [some (.ref k), some (.tup [.str "follow", .int r, oD o, x1, x2]), some (oD o), none] st) _
  unfold Wp
  rw [exSs_cons, ew]
  have er : decide (hits ds r 3 o = some true) = decide (x = true) := by rw [hx]; cases x <;> rfl
  rw [er]
  cases x with
  | true => simp [gcR_same]
  | false => simp [gcR_same]
theorem r_law_rings {m : Nat} (hm : 2 ≤ m) {st : AS} {k : Nat} {ds : List Deed} (h : st[k]? = some (.lst (ds.map dD))) (a : Acy ds) (d : Deed) : callF P m 101 [.ref k, dD d] st = .ok (.bl (ringB ds d)) st := by
  cases d with
  | follow r o f hh => exact r_law_rings_any H hm h a r o (.int f) (.int hh)
  | _ =>
    obtain ⟨n, rfl⟩ := Nat.exists_eq_add_of_le' hm
    rw [callF_eq H.law_rings (n + 1) _ rfl]
    unfold f_law_rings
    simp [dD, ringB, gcR_same]
end
/-! ### the drawn log -/
theorem ev_append {cl : Call} {env : Ws.Env} {st st1 : AS} {i q : Nat} {xs : List D} {es : Es} {d : D} (h0 : env[i]? = some (some (.ref q))) (h : st[q]? = some (.lst xs)) (he : evEs cl es env st = .ok [d] st1) (h1 : st1[q]? = some (.lst xs)) (hz : xs.length < 1000000) :
    evE cl (.bm .append (.var i) es) env st = .ok .non (st1.set q (.lst (xs ++ [d]))) := by
  have hb : bmT st .append (.ref q) = true := by unfold bmT; simp only [h]
  have hlt : xs.length < szMax := by unfold szMax; omega
  simp only [evE, h0, bind_ok, hb, if_true, he, bmD, appD, h1, if_pos hlt]
/-- a log of ours at q, behind the state st -/
structure LogAt (st : AS) (l s : Nat) (xs : List Int) (s' : AS) (ds : List Deed) : Prop where
  dw : Dw s' l s xs
  old : Old l st s'
  at_ : s'[st.length]? = some (.lst (ds.map dD))
theorem LogAt.put {st s' : AS} {l s : Nat} {xs : List Int} {ds : List Deed} (h : LogAt st l s xs s' ds) (hl : l < st.length) (hs : s < st.length) (es : List Deed) : LogAt st l s xs (s'.set st.length (.lst (es.map dD))) es :=
  ⟨h.dw.setO (by omega) (by omega) _, h.old.setN (Nat.le_refl _) _, List.getElem?_set_self (List.getElem?_eq_some_iff.mp h.at_).1⟩
theorem LogAt.but {st s1 s2 : AS} {l s : Nat} {xs : List Int} {ds : List Deed} (h : LogAt st l s xs s1 ds) (hl : l < st.length) (d : Dw s2 l s xs) (b : But l s1 s2) : LogAt st l s xs s2 ds :=
  ⟨d, h.old.trans b.old, by rw [b.at_ _ (by omega)]; exact h.at_⟩
theorem LogAt.app {st s1 : AS} {l s : Nat} {xs : List Int} {ds : List Deed} (h : LogAt st l s xs s1 ds) (gs : AS) : LogAt st l s xs (s1 ++ gs) ds :=
  ⟨h.dw.app gs, h.old.trans (.app l _ _), by rw [List.getElem?_append_left (List.getElem?_eq_some_iff.mp h.at_).1]; exact h.at_⟩
/-- the first deeds give each room a plan -/
def Plans0 (rooms : Nat) (ds : List Deed) : Prop := ∀ i, i < rooms → i < ds.length → ∃ p, ds[i]? = some (.plan i p 0) ∧ PlOk p
/-- what a drawn log is -/
structure Drawn (rooms : Int) (most : Nat) (ds : List Deed) : Prop where
  good : Good rooms ds
  near : ∀ d ∈ ds, d.near
  hours : ∀ d ∈ ds, d.hour ≤ 100 * most
  len : rooms ≤ ds.length ∧ (ds.length : Int) ≤ rooms + most
  plans : ∀ i : Nat, (i : Int) < rooms → ∃ p, ds[i]? = some (.plan i p 0)
section
variable {P : Tbl} {st : AS} {l s : Nat} {xs : List Int}
theorem noRing_of {ds : List Deed} (a : Acy ds) {d : Deed} (h : ringB ds d = false) : noRing ds d := by
  cases d with
  | follow r o f hh =>
    obtain ⟨x, hx⟩ := hits_some ds r a o
    have er : ringB ds (.follow r o f hh) = decide (x = true) := by show decide (hits ds r 3 o = some true) = _; rw [hx]; cases x <;> rfl
    rw [er] at h
    cases x with
    | true => simp at h
    | false => exact hx
  | _ => trivial
theorem log_ok (H : HLg P) {m : Nat} (hm : 4 ≤ m) (h : Dw st l s xs) (rooms : Int) (most : Nat) (hr : 1 ≤ rooms ∧ rooms ≤ 3) (hmost : most ≤ 1000) :
    ∃ ds st', callF P m 102 [.ref l, .int rooms, .int most] st = .ok (.ref st.length) (st' ++ [.lst (ds.map dD)]) ∧ Drawn rooms most ds ∧ Dw st' l s xs ∧ But l st st' := by
  obtain ⟨n, rfl⟩ := Nat.exists_eq_add_of_le' hm
  have hl := h.lt
  have hs := h.lts
  suffices hw : Wp (exSs (callF P (n + 3)) f_law_log.body (startE f_law_log.ns [.ref l, .int rooms, .int most]) st) fun r => ∃ ds s', r = .ret (.ref st.length) s' ∧ Drawn rooms most ds ∧ LogAt st l s xs s' ds by
    obtain ⟨ds, s', e, dr, la⟩ := hw
    have hlen : (s'.take st.length).length = st.length := by rw [List.length_take]; exact Nat.min_eq_left la.old.le
    obtain ⟨_, g2, g3⟩ := gc_draw la.old la.dw hl hs (v := .non) rfl
    refine ⟨ds, s'.take st.length, ?_, dr, g2, g3⟩
    rw [callF_eq H.law_log (n + 3) _ rfl, e, res_ret]
    obtain ⟨a, b, c, e2, p⟩ := la.dw.at_
    exact gcR_lst (fun i hi => by
      by_cases hil : i = l
      · subst hil
        refine .inr ⟨_, e2, ?_⟩
        show (decide (s < st.length) && _) = true
        rw [decide_eq_true hs]; rfl
      · exact .inl (la.old.at_ i hi hil)) (Nat.le_refl _) la.at_ (rl_ds ds)
  unfold f_law_log
  have la0 : LogAt st l s xs (st ++ [.lst []]) [] := ⟨h.app _, .app l _ _, by simp⟩
  refine to_asg (d := .ref st.length) (st' := st ++ [.lst []]) rfl ?_
  refine to_asg (d := .int 0) (st' := st ++ [.lst []]) rfl ?_
  have hsm : small rooms = true := small_ok (by omega) (by omega)
  refine to_for (xs := rangeD 0 rooms.toNat) (w := none) (st' := st ++ [.lst []]) (by simp [hsm, sized_rng (show rooms.toNat ≤ 16777216 by omega)])
    (fun i env s' => ∃ ds o, env = [some (.ref l), some (.int rooms), some (.int most), some (.ref st.length), some (.int 0), o, none, none] ∧ LogAt st l s xs s' ds ∧ Good rooms ds ∧ ds.length = i ∧ (∀ d ∈ ds, d.near ∧ d.hour = 0) ∧ ∀ j : Nat, j < i → ∃ p, ds[j]? = some (.plan j p 0))
    ⟨[], none, rfl, la0, .nil, rfl, by simp, by intro j hj; omega⟩ (fun _ _ s' _ => watchOk_none s') ?_ ?_
  · rintro i x env s' hx ⟨ds, o, rfl, la, g, hlen, hn, hp⟩
    obtain ⟨rfl, hi⟩ := rangeD_get hx
    refine ⟨[some (.ref l), some (.int rooms), some (.int most), some (.ref st.length), some (.int 0), some (.int (0 + (i : Nat))), none, none], rfl, ?_⟩
    obtain ⟨p, s2, r2, p1, p2, d2, b2⟩ := plan_ok H.toHDr (m := n + 3) (by omega) la.dw
    have la2 := la.but hl d2 b2
    have ev := ev_append (cl := callF P (n + 3)) (env := [some (.ref l), some (.int rooms), some (.int most), some (.ref st.length), some (.int 0), some (.int (0 + (i : Nat))), none, none]) (i := 3)
      (es := .cons (.tup (.cons (.lit (.str "plan")) (.cons (.var 5) (.cons (.call 92 (.cons (.var 0) .nil)) (.cons (.lit (.int 0)) .nil))))) .nil) (d := dD (.plan i p 0)) rfl la.at_ (st1 := s2) (by simp [r2, dD]) la2.at_ (by rw [List.length_map]; omega)
    refine to_expr ev (to_nil ?_)
    have hn0 : nowOf ds = 0 := by
      unfold nowOf
      cases e : ds.getLast? with
      | none => rfl
      | some d => exact (hn d (List.mem_of_getLast? e)).2
    have la3 := la2.put hl hs (ds ++ [.plan i p 0])
    rw [List.map_append, List.map_singleton] at la3
    have okn : (Deed.plan i p 0).ok rooms (nowOf ds) := by
      show (0 ≤ (i : Int) ∧ (i : Int) < rooms) ∧ PlOk p ∧ nowOf ds ≤ 0 ∧ (0 : Int) ≤ 1000000000
      exact ⟨by omega, p1, by omega, by omega⟩
    refine ⟨ds ++ [.plan i p 0], some (.int (0 + (i : Nat))), rfl, la3, .snoc g okn (show noRing ds (.plan i p 0) from trivial), by simp [hlen], fun d hd => ?_, fun j hj => ?_⟩
    · rcases List.mem_append.mp hd with hd | hd
      · exact hn d hd
      · simp at hd
        subst hd
        exact ⟨p2, rfl⟩
    · by_cases hji : j < i
      · obtain ⟨q, hq⟩ := hp j hji
        exact ⟨q, by rw [List.getElem?_append_left (by omega)]; exact hq⟩
      · have : j = i := by omega
        subst this
        exact ⟨p, by rw [List.getElem?_append_right (by omega), hlen]; simp⟩
  · rintro env s1 ⟨ds, o, rfl, la, g, hlen, hn, hp⟩
    rw [rangeD_len] at hlen hp
    obtain ⟨c, s2, r2, c1, c2, d2, b2⟩ := draw_m H.toHDr (m := n + 3) (by omega) la.dw ((most : Int) + 1) (by omega) (by omega)
    have la2 := la.but hl d2 b2
    have hsm2 : small c = true := small_ok (by omega) (by omega)
    have hn0 : nowOf ds = 0 := by
      unfold nowOf
      cases e : ds.getLast? with
      | none => rfl
      | some d => exact (hn d (List.mem_of_getLast? e)).2
    refine to_for (xs := rangeD 0 c.toNat) (w := none) (st' := s2) (by simp [r2, hsm2, sized_rng (show c.toNat ≤ 16777216 by omega)])
      (fun i env s' => ∃ (es : List Deed) (hour : Int) (o6 o7 : Option D), env = [some (.ref l), some (.int rooms), some (.int most), some (.ref st.length), some (.int hour), none, o6, o7] ∧ LogAt st l s xs s' es ∧ Good rooms es ∧ (∀ d ∈ es, d.near ∧ d.hour ≤ hour) ∧ (rooms ≤ es.length ∧ (es.length : Int) ≤ rooms + i) ∧ 0 ≤ hour ∧ hour ≤ 100 * i ∧ nowOf es ≤ hour ∧ ∀ j : Nat, (j : Int) < rooms → ∃ p, es[j]? = some (.plan j p 0))
      ⟨ds, 0, none, none, rfl, la2, g, fun d hd => ⟨(hn d hd).1, by rw [(hn d hd).2]; omega⟩, ⟨by omega, by omega⟩, by omega, by omega, by omega, fun j hj => hp j (by omega)⟩ (fun _ _ s' _ => watchOk_none s') ?_ ?_
    · rintro i x env s' hx ⟨es, hour, o6, o7, rfl, la3, g3, hn3, hl3, h0, h1, hnow, hp3⟩
      obtain ⟨rfl, hi⟩ := rangeD_get hx
      refine ⟨[some (.ref l), some (.int rooms), some (.int most), some (.ref st.length), some (.int hour), none, some (.int (0 + (i : Nat))), none], rfl, ?_⟩
      -- the hour
      obtain ⟨c', s4, r4, c1', c2', d4, b4⟩ := draw_m H.toHDr (m := n + 3) (by omega) (la3.app [.lst [.int 0, .int 1, .int 7, .int 40, .int 100]]).dw 5 (by omega) (by omega)
      have la4 := (la3.app [.lst [.int 0, .int 1, .int 7, .int 40, .int 100]]).but hl d4 b4
      have hlen' : l < s'.length := la3.dw.lt
      have hq : s4[s'.length]? = some (.lst [.int 0, .int 1, .int 7, .int 40, .int 100]) := by
        rw [b4.at_ _ (by omega)]; exact getLast_app _ _
      obtain ⟨t, ht, ht0, ht1⟩ : ∃ t : Int, atI [D.int 0, .int 1, .int 7, .int 40, .int 100] c' = some (.int t) ∧ 0 ≤ t ∧ t ≤ 100 := by
        have : c' = 0 ∨ c' = 1 ∨ c' = 2 ∨ c' = 3 ∨ c' = 4 := by omega
        rcases this with rfl | rfl | rfl | rfl | rfl
        · exact ⟨0, rfl, by omega, by omega⟩
        · exact ⟨1, rfl, by omega, by omega⟩
        · exact ⟨7, rfl, by omega, by omega⟩
        · exact ⟨40, rfl, by omega, by omega⟩
        · exact ⟨100, rfl, by omega, by omega⟩
      refine to_asg (d := .int (hour + t)) (st' := s4) ?_ ?_
      · simp only [evE, evEs, List.getElem?_cons_succ, List.getElem?_cons_zero, bind_ok, newL, r4, ixD_lst hq, ht, ofD_some, bin_add]
      -- the deed
      obtain ⟨d, s5, r5, ok5, he5, nr5, d5, b5⟩ := deed_ok H (m := n + 3) (by omega) d4 rooms (hour + t) hr ⟨by omega, by omega⟩
      have la5 := la4.but hl d5 b5
      refine to_asg (d := dD d) (st' := s5) (by simp [r5]) ?_
      have acy := (g3.folAcy hr.2).2
      have rr := r_law_rings H (m := n + 3) (by omega) la5.at_ acy d
      have okn : d.ok rooms (nowOf es) := by
        have z : nowOf es ≤ hour + t := by omega
        cases d with
        | plan => exact ⟨ok5.1, ok5.2.1, by have := ok5.2.2; omega⟩
        | turn => exact ⟨ok5.1, ok5.2.1, ok5.2.2.1, by have := ok5.2.2.2; omega⟩
        | back => exact ⟨ok5.1, by have := ok5.2; omega⟩
        | away => exact ⟨ok5.1, ok5.2.1, ok5.2.2.1, by have := ok5.2.2.2; omega⟩
        | home => exact ⟨by have := ok5.1; omega, ok5.2⟩
        | follow => exact ⟨ok5.1, ok5.2.1, ok5.2.2.1, by have := ok5.2.2.2; omega⟩
      cases hrb : ringB es d with
      | true =>
        rw [hrb] at rr
        refine to_iteN (st' := s5) (by simp [rr]) (to_nil ?_)
        exact ⟨es, hour + t, _, _, rfl, la5, g3, fun d hd => ⟨(hn3 d hd).1, by have := (hn3 d hd).2; omega⟩, ⟨hl3.1, by omega⟩, by omega, by omega, by omega, hp3⟩
      | false =>
        rw [hrb] at rr
        refine to_iteT (st' := s5) (by simp [rr]) ?_
        have ev := ev_append (cl := callF P (n + 3)) (env := [some (.ref l), some (.int rooms), some (.int most), some (.ref st.length), some (.int (hour + t)), none, some (.int (0 + (i : Nat))), some (dD d)]) (i := 3)
          (es := .cons (.var 7) .nil) (d := dD d) rfl la5.at_ (st1 := s5) rfl la5.at_ (by rw [List.length_map]; omega)
        refine to_expr ev (to_nil ?_)
        have la6 := la5.put hl hs (es ++ [d])
        rw [List.map_append, List.map_singleton] at la6
        refine ⟨es ++ [d], hour + t, _, _, rfl, la6, .snoc g3 okn (noRing_of acy hrb), fun e he => ?_, ⟨by simp; omega, by simp; omega⟩, by omega, by omega, by rw [nowOf_snoc, he5]; exact Int.le_refl _, fun j hj => ?_⟩
        · rcases List.mem_append.mp he with he | he
          · exact ⟨(hn3 e he).1, by have := (hn3 e he).2; omega⟩
          · simp at he
            subst he
            exact ⟨nr5, by omega⟩
        · obtain ⟨p, hq2⟩ := hp3 j hj
          exact ⟨p, by rw [List.getElem?_append_left (List.getElem?_eq_some_iff.mp hq2).1]; exact hq2⟩
    · rintro env s' ⟨es, hour, o6, o7, rfl, la3, g3, hn3, hl3, h0, h1, hnow, hp3⟩
      rw [rangeD_len] at hl3 h1
      refine to_ret (d := .ref st.length) (st' := s') rfl ?_
      refine ⟨es, s', rfl, ⟨g3, fun d hd => (hn3 d hd).1, fun d hd => by have := (hn3 d hd).2; omega, ⟨hl3.1, by omega⟩, hp3⟩, la3⟩
end
end Pg
end
end

section
set_option Elab.async false
set_option linter.all false
set_option maxRecDepth 100000
set_option maxHeartbeats 1000000
/-! LoC: deeds as data: equality of logs. -/
noncomputable section
namespace Pg
open PySem Ws
def pyI (p : Int × Int) : PyData := .tuple [.int p.1, .int p.2]
def pyU : Un → PyData
  | .next => .tuple [.str "next"]
  | .hold => .tuple [.str "hold"]
  | .till e => .tuple [.str "till", .int e]
def pyO : Option Int → PyData
  | none => .none
  | some i => .int i
def pyDeed : Deed → PyData
  | .plan r p h => .tuple [.str "plan", .int r, .tuple (p.map pyI), .int h]
  | .turn r v u h => .tuple [.str "turn", .int r, .int v, pyU u, .int h]
  | .back r h => .tuple [.str "back", .int r, .int h]
  | .away b e v h => .tuple [.str "away", .int b, pyO e, .int v, .int h]
  | .home h => .tuple [.str "home", .int h]
  | .follow r o f h => .tuple [.str "follow", .int r, pyO o, .int f, .int h]
theorem toLs_pl (st : AS) (n : Nat) : ∀ ps : Pl, toLs (toD st (n + 1)) (ps.map mk) = some (ps.map pyI)
  | [] => rfl
  | p :: r => by
    have e : toL (toD st (n + 1)) (mk p) = some (pyI p) := rfl
    simp only [List.map_cons, toLs, e, toLs_pl st n r]
theorem toLs_plF (f : D → Option PyData) (h : ∀ i, f (.int i) = some (.int i)) : ∀ ps : Pl, toLs f (ps.map mk) = some (ps.map pyI)
  | [] => rfl
  | p :: r => by
    have e : toL f (mk p) = some (pyI p) := by
      show (toLs f [.int p.1, .int p.2]).map PyData.tuple = _
      simp only [toLs, toL, h]
      rfl
    simp only [List.map_cons, toLs, e, toLs_plF f h r]
theorem toL_idem (f : D → Option PyData) (d : D) (h : ∀ ds, d ≠ .tup ds) : toL f d = f d := by
  cases d <;> first | rfl | exact absurd rfl (h _)
theorem toL_pD (st : AS) (n : Nat) (p : Pl) : toL (toD st (n + 1)) (pD p) = some (.tuple (p.map pyI)) := by
  have e : toL (toD st (n + 1)) (pD p) = (toLs (toD st (n + 1)) (p.map mk)).map .tuple := rfl
  rw [e, toLs_pl]; rfl
theorem toL_dD (st : AS) (n : Nat) (d : Deed) : toL (toD st (n + 1)) (dD d) = some (pyDeed d) := by
  cases d with
  | plan r p h =>
    have e : toL (toD st (n + 1)) (dD (.plan r p h)) = (match toL (toD st (n + 1)) (pD p) with
      | some q => some (.tuple [.str "plan", .int r, q, .int h])
      | none => none : Option PyData) := by
      show (toLs (toD st (n + 1)) [.str "plan", .int r, pD p, .int h]).map PyData.tuple = _
      simp only [toLs, toL_pD]
      rfl
    rw [e, toL_pD]; rfl
  | turn r v u h => cases u <;> rfl
  | away b e v h => cases e <;> rfl
  | follow r o f h => cases o <;> rfl
  | _ => rfl
theorem toLs_dD (st : AS) (n : Nat) : ∀ ds : List Deed, toLs (toD st (n + 1)) (ds.map dD) = some (ds.map pyDeed)
  | [] => rfl
  | d :: r => by simp only [List.map_cons, toLs, toL_dD, toLs_dD st n r]
theorem toD_log {st : AS} {q : Nat} {ds : List Deed} (h : st[q]? = some (.lst (ds.map dD))) : toD st 8 (.ref q) = some (.list (ds.map pyDeed)) := by
  unfold toD
  unfold toL
  simp only [h, toLs_dD, Option.map_some]
theorem so_plan : (PyData.str ("plan" : Str)).canLay0 = true := by decide +kernel
theorem so_turn : (PyData.str ("turn" : Str)).canLay0 = true := by decide +kernel
theorem so_back : (PyData.str ("back" : Str)).canLay0 = true := by decide +kernel
theorem so_away : (PyData.str ("away" : Str)).canLay0 = true := by decide +kernel
theorem so_home : (PyData.str ("home" : Str)).canLay0 = true := by decide +kernel
theorem so_follow : (PyData.str ("follow" : Str)).canLay0 = true := by decide +kernel
theorem so_next : (PyData.str ("next" : Str)).canLay0 = true := by decide +kernel
theorem so_hold : (PyData.str ("hold" : Str)).canLay0 = true := by decide +kernel
theorem so_till : (PyData.str ("till" : Str)).canLay0 = true := by decide +kernel
def laid (d : PyData) (n : Nat) : Prop := d.canLay0 = true ∧ d.depth ≤ n
theorem laid_all {α : Type} (f : α → PyData) (n : Nat) (h : ∀ a, laid (f a) n) : ∀ xs : List α, PyData.canLayAll0 (xs.map f) = true ∧ PyData.depthAll (xs.map f) ≤ n
  | [] => ⟨rfl, Nat.zero_le _⟩
  | x :: xs => by
    obtain ⟨h1, h2⟩ := laid_all f n h xs
    obtain ⟨h3, h4⟩ := h x
    have e1 : PyData.canLayAll0 ((x :: xs).map f) = (PyData.canLay0 (f x) && PyData.canLayAll0 (xs.map f)) := rfl
    have e2 : PyData.depthAll ((x :: xs).map f) = max (PyData.depth (f x)) (PyData.depthAll (xs.map f)) := rfl
    rw [e1, e2, h1, h3]
    exact ⟨rfl, by omega⟩
theorem laid_I (p : Int × Int) : laid (pyI p) 1 := ⟨rfl, Nat.le_refl _⟩
theorem laid_pl (p : Pl) : laid (.tuple (p.map pyI)) 2 := by
  obtain ⟨h1, h2⟩ := laid_all pyI 1 laid_I p
  exact ⟨h1, Nat.succ_le_succ h2⟩
theorem cl_t (xs : List PyData) : PyData.canLay0 (.tuple xs) = PyData.canLayAll0 xs := rfl
theorem cl_c (x : PyData) (xs : List PyData) : PyData.canLayAll0 (x :: xs) = (PyData.canLay0 x && PyData.canLayAll0 xs) := rfl
theorem cl_n : PyData.canLayAll0 [] = true := rfl
theorem cl_i (i : Int) : PyData.canLay0 (.int i) = true := rfl
theorem dp_t (xs : List PyData) : PyData.depth (.tuple xs) = PyData.depthAll xs + 1 := rfl
theorem dp_c (x : PyData) (xs : List PyData) : PyData.depthAll (x :: xs) = max (PyData.depth x) (PyData.depthAll xs) := rfl
theorem dp_n : PyData.depthAll [] = 0 := rfl
theorem dp_i (i : Int) : PyData.depth (.int i) = 0 := rfl
theorem dp_s (i : Str) : PyData.depth (.str i) = 0 := rfl
theorem laid_U (u : Un) : laid (pyU u) 1 := by
  cases u <;> refine ⟨?_, ?_⟩ <;> simp only [pyU, cl_t, cl_c, cl_n, cl_i, so_next, so_hold, so_till, Bool.and_true, dp_t, dp_c, dp_n, dp_i, dp_s] <;> decide
theorem laid_O (u : Option Int) : laid (pyO u) 0 := by cases u <;> exact ⟨rfl, Nat.le_refl _⟩
theorem laid_deed (d : Deed) : laid (pyDeed d) 3 := by
  have hp := laid_pl
  have hu := laid_U
  have ho := laid_O
  cases d with
  | plan r p h =>
    obtain ⟨h1, h2⟩ := hp p
    exact ⟨by simp only [pyDeed, cl_t, cl_c, cl_n, cl_i, so_plan, Bool.and_true] at h1 ⊢; exact h1, by simp only [pyDeed, dp_t, dp_c, dp_n, dp_i, dp_s] at h2 ⊢; omega⟩
  | turn r v u h =>
    obtain ⟨h1, h2⟩ := hu u
    exact ⟨by simp only [pyDeed, cl_t, cl_c, cl_n, cl_i, so_turn, Bool.and_true, h1], by simp only [pyDeed, dp_t, dp_c, dp_n, dp_i, dp_s] at h2 ⊢; omega⟩
  | away b e v h =>
    obtain ⟨h1, h2⟩ := ho e
    exact ⟨by simp only [pyDeed, cl_t, cl_c, cl_n, cl_i, so_away, Bool.and_true, h1], by simp only [pyDeed, dp_t, dp_c, dp_n, dp_i, dp_s] at h2 ⊢; omega⟩
  | follow r o f h =>
    obtain ⟨h1, h2⟩ := ho o
    exact ⟨by simp only [pyDeed, cl_t, cl_c, cl_n, cl_i, so_follow, Bool.and_true, h1], by simp only [pyDeed, dp_t, dp_c, dp_n, dp_i, dp_s] at h2 ⊢; omega⟩
  | back r h => exact ⟨by simp only [pyDeed, cl_t, cl_c, cl_n, cl_i, so_back, Bool.and_true], by simp only [pyDeed, dp_t, dp_c, dp_n, dp_i, dp_s]; omega⟩
  | home h => exact ⟨by simp only [pyDeed, cl_t, cl_c, cl_n, cl_i, so_home, Bool.and_true], by simp only [pyDeed, dp_t, dp_c, dp_n, dp_i, dp_s]; omega⟩
theorem shaped_log (ds : List Deed) : SeqAt.shaped (.list (ds.map pyDeed)) = true := by
  obtain ⟨h1, h2⟩ := laid_all pyDeed 3 laid_deed ds
  unfold SeqAt.shaped
  rw [Bool.and_eq_true]
  refine ⟨h1, decide_eq_true ?_⟩
  show PyData.depthAll (ds.map pyDeed) + 1 ≤ 64
  omega
theorem shaped_pl (p : Pl) : SeqAt.shaped (.tuple (p.map pyI)) = true := by
  obtain ⟨h1, h2⟩ := laid_pl p
  unfold SeqAt.shaped
  rw [Bool.and_eq_true]
  exact ⟨h1, decide_eq_true (by omega)⟩
theorem eqv_all {α : Type} (f : α → PyData) (h : ∀ a, PyData.eqv (f a) (f a) = true) : ∀ xs : List α, PyData.eqvAll (xs.map f) (xs.map f) = true
  | [] => by simp [PyData.eqvAll]
  | x :: xs => by simp [PyData.eqvAll, h x, eqv_all f h xs]
theorem eqv_deed (d : Deed) : PyData.eqv (pyDeed d) (pyDeed d) = true := by
  have hp : ∀ p : Pl, PyData.eqvAll (p.map pyI) (p.map pyI) = true := eqv_all pyI fun a => by simp [pyI, PyData.eqv, PyData.eqvAll]
  have ho : ∀ o : Option Int, PyData.eqv (pyO o) (pyO o) = true := fun o => by cases o <;> simp [pyO, PyData.eqv]
  have hu : ∀ o : Un, PyData.eqv (pyU o) (pyU o) = true := fun o => by cases o <;> simp [pyU, PyData.eqv, PyData.eqvAll]
  cases d <;> simp [pyDeed, PyData.eqv, PyData.eqvAll, hp, ho, hu]
theorem eqv_log (ds : List Deed) : PyData.eqv (.list (ds.map pyDeed)) (.list (ds.map pyDeed)) = true := by
  rw [PyData.eqv]; exact eqv_all pyDeed eqv_deed ds
/-- the same log twice -/
theorem eqD_log {st : AS} {a b : Nat} {ds : List Deed} (ha : st[a]? = some (.lst (ds.map dD))) (hb : st[b]? = some (.lst (ds.map dD))) : eqD st (.ref a) (.ref b) = some true := by
  have e : eqD st (.ref a) (.ref b) = match toD st 8 (.ref a), toD st 8 (.ref b) with
    | some p, some q => if SeqAt.shaped p && SeqAt.shaped q then some (PyData.eqv p q) else none
    | _, _ => none := rfl
  rw [e, toD_log ha, toD_log hb]
  have s := shaped_log ds
  have r := eqv_log ds
  simp only [s, r, Bool.and_self, if_true]
/-- the bad plans of the laws -/
def badPl : List D := [.non, .int 5, .tup [.tup [.int 1, .int 1], .tup [.int 0, .int 2]], .tup [.tup [.int 168, .int 1]]]
theorem inD_badPl {st : AS} {q : Nat} (hq : st[q]? = some (.lst badPl)) {p : Pl} (h : PlOk p) : inD st (pD p) (.ref q) = some false := by
  have e : inD st (pD p) (.ref q) = match toD st 8 (pD p), toLs (toD st 8) badPl with
      | some q, some qs => if SeqAt.shaped q && SeqAt.shaped (.list qs) then some (qs.any fun z => PyData.eqv z q) else none
      | _, _ => none := by
    unfold inD
    dsimp only
    rw [hq]
    rfl
  have e1 : toD st 8 (pD p) = some (.tuple (p.map pyI)) := by
    show (toLs _ (p.map mk)).map PyData.tuple = _
    rw [toLs_plF _ (fun _ => rfl)]
    rfl
  have e2 : toLs (toD st 8) badPl = some [.none, .int 5, .tuple [pyI (1, 1), pyI (0, 2)], .tuple [pyI (168, 1)]] := rfl
  rw [e, e1, e2]
  have s2 : SeqAt.shaped (.list [.none, .int 5, .tuple [pyI (1, 1), pyI (0, 2)], .tuple [pyI (168, 1)]]) = true := rfl
  simp only [shaped_pl, s2, Bool.and_self, if_true]
  congr 1
  obtain ⟨h1, h2, h3⟩ := h
  rw [Bool.eq_false_iff]
  intro z
  rw [List.any_eq_true] at z
  obtain ⟨d, hd, hz⟩ := z
  simp only [List.mem_cons, List.not_mem_nil, or_false] at hd
  rcases hd with rfl | rfl | rfl | rfl
  · simp [PyData.eqv] at hz
  · simp [PyData.eqv] at hz
  · match p, h2 with
    | [], _ => simp [PyData.eqv, PyData.eqvAll] at hz
    | [_], _ => simp [PyData.eqv, PyData.eqvAll] at hz
    | [a, b], h2 =>
      simp [PyData.eqv, PyData.eqvAll, pyI] at hz
      unfold Ris at h2
      have := (List.pairwise_cons.mp h2).1 b (by simp)
      omega
    | _ :: _ :: _ :: _, _ => simp [PyData.eqv, PyData.eqvAll] at hz
  · match p, h3 with
    | [], _ => simp [PyData.eqv, PyData.eqvAll] at hz
    | [a], h3 =>
      simp [PyData.eqv, PyData.eqvAll, pyI] at hz
      have := h3 a (by simp)
      omega
    | _ :: _ :: _, _ => simp [PyData.eqv, PyData.eqvAll] at hz
theorem inD_badPl2 {st : AS} {q : Nat} (hq : st[q]? = some (.lst badPl)) {v : D} (h : v ∈ badPl) : inD st v (.ref q) = some true := by
  have e : inD st v (.ref q) = match toD st 8 v, toLs (toD st 8) badPl with
      | some q, some qs => if SeqAt.shaped q && SeqAt.shaped (.list qs) then some (qs.any fun z => PyData.eqv z q) else none
      | _, _ => none := by
    have nf : (v.flatB && badPl.all D.flatB) = false := by
      have : badPl.all D.flatB = false := rfl
      rw [this, Bool.and_false]
    unfold inD
    dsimp only
    rw [hq]
    dsimp only
    rw [nf]
    rfl
  rw [e]
  unfold badPl at h
  simp only [List.mem_cons, List.not_mem_nil, or_false] at h
  rcases h with rfl | rfl | rfl | rfl
  all_goals rfl
end Pg
end
end

section
set_option Elab.async false
set_option linter.all false
set_option maxRecDepth 100000
set_option maxHeartbeats 1000000
/-! MoA: what a room shows: runs of plan_value, next_switch, plan_pieces, end_of_next. -/
noncomputable section
namespace Ws
open PySem
theorem to_nilK {cl : Call} {r : Ss} {env : Ws.Env} {st : AS} {Q : RS → Prop} (k : Wp (exSs cl r env st) Q) : Wp (exSs cl .nil env st) (fun r' => Wp (r'.seq fun e s => exSs cl r e s) Q) := by
  refine to_nil ?_
  exact k
end Ws
namespace Pg
open PySem Ws
structure HSh (P : Tbl) : Prop extends HRe P where
  plan_value : P 5 = some f_plan_value
  next_switch : P 6 = some f_next_switch
  plan_pieces : P 13 = some f_plan_pieces
  end_of_next : P 14 = some f_end_of_next
  turning_at : P 15 = some f_turning_at
  away_at : P 16 = some f_away_at
  shown_by : P 18 = some f_shown_by
  value_at : P 32 = some f_House_value_at
  shown : P 33 = some f_House_shown
/-! ### plans -/
def pvF (h : Int) (v : Int) (q : Int × Int) : Int := if q.1 ≤ h % 168 then q.2 else v
def planVal (p : Pl) (h : Int) : Option Int := match p.getLast? with
  | none => none
  | some z => some (p.foldl (pvF h) z.2)
theorem map_last {p : Pl} {z : Int × Int} (h : p.getLast? = some z) : atI (p.map mk) (-1) = some (mk z) := by
  rcases List.eq_nil_or_concat p with rfl | ⟨es, d, rfl⟩
  · cases h
  · rw [List.concat_eq_append] at h ⊢
    rw [List.getLast?_concat] at h
    cases h
    rw [List.map_append, List.map_singleton]
    exact atI_last _
theorem planval_body {cl : Call} {e168 : E} (he : ∀ env st, evE cl e168 env st = .ok (.int 168) st) {p : Pl} {z : Int × Int} (hz : p.getLast? = some z) (h : Int) (st : AS) : Wp (exSs cl (.cons (.asg (.name 2) (.ix (.ix (.var 0) (.neg (.lit (.int 1)))) (.lit (.int 1))))
  (.cons (.forr (.tup (.cons (.name 3) (.cons (.name 4) .nil))) (.of (.var 0)) [3, 4]
    (.cons (.ite (.cmp .le (.var 3) (.bin .mod (.var 1) e168))
      (.cons (.asg (.name 2) (.var 4)) .nil)
      .nil) .nil))
  (.cons (.ret (.var 2)) .nil))) [some (pD p), some (.int h), none, none, none] st) (fun r => r = .ret (.int (p.foldl (pvF h) z.2)) st) := by
  refine to_asg (d := .int z.2) (st' := st) ?_ ?_
  · have e1 : ixD st (pD p) (.int (-1)) = some (mk z) := map_last hz
    have e2 : ixD st (mk z) (.int 1) = some (.int z.2) := rfl
    simp only [evE, List.getElem?_cons_zero, bind_ok, negD, e1, e2, ofD_some]
  · refine to_for (xs := p.map mk) (w := none) (st' := st) (by simp [pD])
      (fun i env s' => s' = st ∧ ∃ o3 o4, env = [some (pD p), some (.int h), some (.int ((p.take i).foldl (pvF h) z.2)), o3, o4])
      ⟨rfl, none, none, rfl⟩ (fun _ _ s' _ => watchOk_none s') ?_ ?_
    · rintro i x env s' hx ⟨rfl, o3, o4, rfl⟩
      rw [List.getElem?_map, Option.map_eq_some_iff] at hx
      obtain ⟨q, hq, rfl⟩ := hx
      have et : (p.take (i + 1)).foldl (pvF h) z.2 = pvF h ((p.take i).foldl (pvF h) z.2) q := by
        rw [List.take_add_one, hq, List.foldl_append]; rfl
      refine ⟨[some (pD p), some (.int h), some (.int ((p.take i).foldl (pvF h) z.2)), some (.int q.1), some (.int q.2)], rfl, ?_⟩
      rw [et]
      have em : binD .mod (.int h) (.int 168) s' = .ok (.int (h % 168)) s' := bin_mod (by decide) _
      by_cases hh : q.1 ≤ h % 168
      · refine to_iteT (st' := s') (by simp only [evT, evE, he, List.getElem?_cons_succ, List.getElem?_cons_zero, bind_ok, em, cmpD, lt_ii, decide_eq_true hh, ofBT_some]) ?_
        refine to_asg (d := .int q.2) (st' := s') rfl (to_nilK (to_nil ?_))
        exact ⟨rfl, some (.int q.1), some (.int q.2), by simp [pvF, hh]⟩
      · refine to_iteN (st' := s') (by simp only [evT, evE, he, List.getElem?_cons_succ, List.getElem?_cons_zero, bind_ok, em, cmpD, lt_ii, decide_eq_false hh, ofBT_some]) (to_nil ?_)
        exact ⟨rfl, some (.int q.1), some (.int q.2), by simp [pvF, hh]⟩
    · rintro env s' ⟨rfl, o3, o4, rfl⟩
      refine to_ret (d := .int (p.foldl (pvF h) z.2)) (st' := s') ?_ rfl
      simp
theorem planVal_nil {p : Pl} {h : Int} (e : p.getLast? = none) : p = [] ∧ planVal p h = none := by
  refine ⟨List.getLast?_eq_none_iff.mp e, ?_⟩
  unfold planVal
  rw [e]
def nextSw (p : Pl) (h : Int) : Option Int := match p with
  | [] => none
  | q :: r => some (h + minL ((q.1 - h) % 168) (r.map fun q => (q.1 - h) % 168))
/-! ### pieces -/
def pcD (q : Int × Pl) : D := .tup [.int q.1, pD q.2]
def pcsF (room : Int) (acc : List (Int × Pl)) : Deed → List (Int × Pl)
  | .plan r p h => if r = room then (if acc.getLast?.map (·.1) = some h then acc.dropLast else acc) ++ [(h, p)] else acc
  | _ => acc
def pcs (ds : List Deed) (room : Int) : List (Int × Pl) := ds.foldl (pcsF room) [(0, [])]
theorem pcs_snoc (ds : List Deed) (d : Deed) (room : Int) : pcs (ds ++ [d]) room = pcsF room (pcs ds room) d := by
  unfold pcs
  rw [List.foldl_append]; rfl
theorem pcs_ne (ds : List Deed) (room : Int) : pcs ds room ≠ [] := by
  rcases List.eq_nil_or_concat ds with rfl | ⟨es, d, rfl⟩
  · simp [pcs]
  · rw [List.concat_eq_append, pcs_snoc]
    have key : ∀ acc : List (Int × Pl), acc ≠ [] → pcsF room acc d ≠ [] := fun acc ha => by
      cases d with
      | plan r p h => unfold pcsF; dsimp only; split <;> simp [ha]
      | _ => exact ha
    have : ∀ (l : List Deed) (acc : List (Int × Pl)), acc ≠ [] → l.foldl (pcsF room) acc ≠ [] := fun l => by
      induction l with
      | nil => exact fun acc ha => ha
      | cons d l ih =>
        intro acc ha
        rw [List.foldl_cons]
        refine ih _ ?_
        cases d with
        | plan r p h => unfold pcsF; dsimp only; split <;> simp [ha]
        | _ => exact ha
    exact key _ (this es _ (by simp))
theorem pcs_len (ds : List Deed) (room : Int) : (pcs ds room).length ≤ ds.length + 1 := by
  have : ∀ (l : List Deed) (acc : List (Int × Pl)), (l.foldl (pcsF room) acc).length ≤ acc.length + l.length := fun l => by
    induction l with
    | nil => exact fun acc => Nat.le_refl _
    | cons d l ih =>
      intro acc
      rw [List.foldl_cons]
      have h1 := ih (pcsF room acc d)
      have h2 : (pcsF room acc d).length ≤ acc.length + 1 := by
        cases d with
        | plan r p h =>
          unfold pcsF
          dsimp only
          split
          · split
            all_goals (try simp)
            all_goals (try omega)
          · omega
        | _ => exact Nat.le_succ _
      simp only [List.length_cons]
      omega
  have := this ds [(0, [])]
  simp at this
  unfold pcs
  omega
theorem reflAll_map {α : Type} {f : α → D} (h : ∀ a, (f a).refless = true) : ∀ xs : List α, reflessAll (xs.map f) = true
  | [] => rfl
  | x :: xs => by simp [h x, reflAll_map h xs]
@[simp] theorem rl_pcD (q : Int × Pl) : (pcD q).refless = true := by simp [pcD]
section
variable {P : Tbl} (H : HSh P)
include H
theorem r_plan_value {m : Nat} (hm : 1 ≤ m) (st : AS) (p : Pl) (h : Int) : callF P m 5 [pD p, .int h] st = .ok (oD (planVal p h)) st := by
  obtain ⟨n, rfl⟩ := Nat.exists_eq_add_of_le' hm
  refine run_of H.plan_value rfl ?_
  unfold f_plan_value
  cases e : p.getLast? with
  | none =>
    obtain ⟨rfl, e2⟩ := planVal_nil (h := h) e
    rw [e2]
    refine to_iteT (st' := st) (by simp [pD]) (to_ret (d := .non) rfl (gcR_same _ _))
  | some z =>
    have hp : p ≠ [] := fun z2 => by subst z2; cases e
    have hv : planVal p h = some (p.foldl (pvF h) z.2) := by unfold planVal; rw [e]
    rw [hv]
    refine to_iteN (st' := st) (by simp [pD, hp]) ?_
    exact (planval_body (fun _ _ => rfl) e h st).of fun r hr => by rw [hr]; exact gcR_same _ _
theorem r_next_switch {m : Nat} (hm : 1 ≤ m) (st : AS) (p : Pl) (h : Int) : callF P m 6 [pD p, .int h] st = .ok (oD (nextSw p h)) st := by
  obtain ⟨n, rfl⟩ := Nat.exists_eq_add_of_le' hm
  refine run_of H.next_switch rfl ?_
  unfold f_next_switch
  cases p with
  | nil => exact to_iteT (st' := st) (by simp [pD]) (to_ret (d := .non) rfl (gcR_same _ _))
  | cons q r =>
    refine to_iteN (st' := st) (by simp [pD]) ?_
    refine to_asg (d := .ref st.length) (st' := st ++ [.lst (((q :: r).map fun q => (q.1 - h) % 168).map .int)]) ?_ ?_
    · have lc : lcLoop none (fun d => Ws.assign (.tup (.cons (.name 3) (.cons (.name 4) .nil))) d (wipeE [some (pD (q :: r)), some (.int h), none, none, none] [3, 4])) (fun env st => .ok true st) (fun env st => evE (callF P n) (.bin .mod (.bin .sub (.var 3) (.var 1)) (.glo 0 (.int 168))) env st) ((q :: r).map mk) st = .ok (((q :: r).map mk).map fun d => match d with
          | .tup [.int a, _] => D.int ((a - h) % 168)
          | _ => .non) st := by
        refine lcLoop_map (watchOk_none st) (fun d => match d with
          | .tup [a, b] => [some (pD (q :: r)), some (.int h), none, some a, some b]
          | _ => []) _ _ fun x hx => ?_
        obtain ⟨y, _, rfl⟩ := List.mem_map.mp hx
        refine ⟨rfl, ?_⟩
        have em : binD .mod (.int (y.1 - h)) (.int 168) st = .ok (.int ((y.1 - h) % 168)) st := bin_mod (by decide) _
        simp only [mk, evE, List.getElem?_cons_succ, List.getElem?_cons_zero, bind_ok, bin_sub, em]
      have emap : (((q :: r).map mk).map fun d => match d with
          | .tup [.int a, _] => D.int ((a - h) % 168)
          | _ => .non) = ((q :: r).map fun q => (q.1 - h) % 168).map .int := by
        rw [List.map_map, List.map_map]
        rfl
      rw [emap] at lc
      simp only [evE, evSrc, evC, List.map_cons, List.map_nil, startE, List.length_cons, List.length_nil, List.replicate, List.cons_append, List.nil_append, List.getElem?_cons_zero, bind_ok] at lc ⊢
      simp only [pD, items_tup, List.map_cons, bind_ok] at lc ⊢
      rw [lc]
      simp
    · have ib : intsD (((q :: r).map fun q => (q.1 - h) % 168).map D.int) = some ((q.1 - h) % 168 :: r.map fun q => (q.1 - h) % 168) := by
        have := intsD_map (fun i : Int => i) ((q :: r).map fun q => (q.1 - h) % 168)
        simp only [List.map_id'] at this
        exact this
      have hm := min_lst (getLast_app st (.lst (((q :: r).map fun q => (q.1 - h) % 168).map .int))) ib
      refine to_ret (d := .int (h + minL ((q.1 - h) % 168) (r.map fun q => (q.1 - h) % 168))) (st' := st ++ [.lst (((q :: r).map fun q => (q.1 - h) % 168).map .int)]) ?_ (gcR_app _ _ rfl)
      have hm' : biD (st ++ [O.lst (((q :: r).map fun q => (q.1 - h) % 168).map D.int)]) .min [.ref st.length] = _ := hm
      simp only [evE, evEs, startE, List.map_cons, List.map_nil, List.length_cons, List.length_nil, List.replicate, List.cons_append, List.nil_append, List.set_cons_succ, List.set_cons_zero, List.getElem?_cons_succ, List.getElem?_cons_zero, bind_ok] at hm' ⊢
      rw [hm']
      simp
theorem r_plan_pieces {m : Nat} (hm : 1 ≤ m) {st : AS} {k : Nat} {ds : List Deed} (hk : st[k]? = some (.lst (ds.map dD))) (hz : ds.length < 1000) (room : Int) : callF P m 13 [.ref k, .int room] st = .ok (.ref st.length) (st ++ [.lst ((pcs ds room).map pcD)]) := by
  obtain ⟨n, rfl⟩ := Nat.exists_eq_add_of_le' hm
  refine run_of H.plan_pieces rfl ?_
  unfold f_plan_pieces
  have hkl : k < st.length := (List.getElem?_eq_some_iff.mp hk).1
  have hk2 : ∀ o : O, (st ++ [o])[k]? = some (.lst (ds.map dD)) := fun o => by rw [List.getElem?_append_left hkl]; exact hk
  have hset : ∀ o o' : O, (st ++ [o]).set st.length o' = st ++ [o'] := fun o o' => by
    rw [List.set_append_right _ _ (Nat.le_refl _), Nat.sub_self]; rfl
  refine to_asg (d := .ref st.length) (st' := st ++ [.lst ((pcs [] room).map pcD)]) (by simp [pcs, pcD, pD]) ?_
  refine to_for (xs := ds.map dD) (w := some (k, ds.map dD)) (st' := st ++ [.lst ((pcs [] room).map pcD)]) (by simp [items_lst (hk2 _)])
    (fun i env s' => s' = st ++ [.lst ((pcs (ds.take i) room).map pcD)] ∧ ∃ o3, env = [some (.ref k), some (.int room), some (.ref st.length), o3])
    ⟨rfl, none, rfl⟩ (fun i env s' ⟨h1, _⟩ => by rw [h1]; exact items_lst (hk2 _)) ?_ ?_
  · rintro i x env s' hx ⟨rfl, o3, rfl⟩
    rw [List.getElem?_map, Option.map_eq_some_iff] at hx
    obtain ⟨d, hd, rfl⟩ := hx
    have et : ds.take (i + 1) = ds.take i ++ [d] := by rw [List.take_add_one, hd]; rfl
    refine ⟨[some (.ref k), some (.int room), some (.ref st.length), some (dD d)], rfl, ?_⟩
    have hlen : (ds.take i).length < 1000 := Nat.lt_of_le_of_lt (List.length_take_le' ..) hz
    have hpl := pcs_len (ds.take i) room
    have hne := pcs_ne (ds.take i) room
    rw [et, pcs_snoc]
    generalize pcs (ds.take i) room = acc at hpl hne
    have hat : (st ++ [O.lst (acc.map pcD)])[st.length]? = some (.lst (acc.map pcD)) := getLast_app _ _
    cases d with
    | plan r p h =>
      by_cases hr : r = room
      · subst hr
        refine to_iteT (st' := st ++ [.lst (acc.map pcD)]) (by simp [dD]) ?_
        -- the append
        have fin : ∀ bcc : List (Int × Pl), bcc.length ≤ 1000 → Wp (exSs (callF P n) (.cons (.expr (.bm .append (.var 2) (.cons (.tup (.cons (.ix (.var 3) (.lit (.int 3))) (.cons (.ix (.var 3) (.lit (.int 2))) .nil))) .nil))) .nil) [some (.ref k), some (.int r), some (.ref st.length), some (dD (.plan r p h))] (st ++ [.lst (bcc.map pcD)])) (fun r' => r' = .next [some (.ref k), some (.int r), some (.ref st.length), some (dD (.plan r p h))] (st ++ [.lst ((bcc ++ [(h, p)]).map pcD)])) := fun bcc hb => by
          have ev := ev_append (cl := callF P n) (env := [some (.ref k), some (.int r), some (.ref st.length), some (dD (.plan r p h))]) (i := 2) (es := .cons (.tup (.cons (.ix (.var 3) (.lit (.int 3))) (.cons (.ix (.var 3) (.lit (.int 2))) .nil))) .nil) (d := pcD (h, p)) rfl (getLast_app st (.lst (bcc.map pcD))) (st1 := st ++ [.lst (bcc.map pcD)]) (by simp [dD, pcD]) (getLast_app _ _) (by rw [List.length_map]; omega)
          refine to_expr ev (to_nil ?_)
          rw [hset, List.map_append]; rfl
        have goal : ∀ bcc : List (Int × Pl), bcc.length ≤ 1000 → pcsF r acc (.plan r p h) = bcc ++ [(h, p)] → _ := fun bcc hb he => fin bcc hb
        by_cases hh : acc.getLast?.map (·.1) = some h
        · have e1 : pcsF r acc (.plan r p h) = acc.dropLast ++ [(h, p)] := by simp only [pcsF, if_true, hh]
          obtain ⟨bs, b, rfl⟩ : ∃ bs b, acc = bs ++ [b] := by
            rcases List.eq_nil_or_concat acc with e | ⟨bs, b, e⟩
            · exact absurd e hne
            · exact ⟨bs, b, by rw [e, List.concat_eq_append]⟩
          rw [List.getLast?_concat] at hh
          simp only [Option.map_some, Option.some.injEq] at hh
          have ea : atI ((bs ++ [b]).map pcD) (-1) = some (pcD b) := by rw [List.map_append, List.map_singleton]; exact atI_last _
          have eix : ixD (st ++ [O.lst ((bs ++ [b]).map pcD)]) (.ref st.length) (.int (-1)) = some (pcD b) := by rw [ixD_lst hat]; exact ea
          have e0 : ixD (st ++ [O.lst ((bs ++ [b]).map pcD)]) (pcD b) (.int 0) = some (.int b.1) := rfl
          refine to_iteT (st' := st ++ [.lst ((bs ++ [b]).map pcD)]) ?_ ?_
          · have e3 : ixD (st ++ [O.lst ((bs ++ [b]).map pcD)]) (dD (.plan r p h)) (.int 3) = some (.int h) := rfl
            simp only [evT, evE, List.getElem?_cons_succ, List.getElem?_cons_zero, bind_ok, e3, negD, eix, e0, ofD_some, cmpD, eq_ii, hh, beq_self_eq_true, ofBT_some]
          · refine to_expr (d := pcD b) (st' := st ++ [.lst (bs.map pcD)]) ?_ (to_nilK ?_)
            · have hb : bmT (st ++ [O.lst ((bs ++ [b]).map pcD)]) .pop (.ref st.length) = true := by unfold bmT; simp only [hat]
              have hp : popD (st ++ [O.lst ((bs ++ [b]).map pcD)]) (.ref st.length) [] = .ok (pcD b) (st ++ [.lst (bs.map pcD)]) := by
                unfold popD
                simp only [hat]
                have e5 : ((bs ++ [b]).map pcD)[((bs ++ [b]).map pcD).length - 1]? = some (pcD b) := by simp
                rw [e5]
                simp only [hset]
                simp
              simp only [evE, evEs, List.getElem?_cons_succ, List.getElem?_cons_zero, bind_ok, hb, if_true, bmD, hp]
            · refine (fin bs (by simp at hpl; omega)).of fun r' hr' => ?_
              subst hr'
              show Wp (exSs (callF P n) .nil _ _) _
              refine to_nil ⟨?_, _, rfl⟩
              rw [e1]; simp
        · have e1 : pcsF r acc (.plan r p h) = acc ++ [(h, p)] := by simp only [pcsF, if_true, if_neg hh]
          obtain ⟨bs, b, rfl⟩ : ∃ bs b, acc = bs ++ [b] := by
            rcases List.eq_nil_or_concat acc with e | ⟨bs, b, e⟩
            · exact absurd e hne
            · exact ⟨bs, b, by rw [e, List.concat_eq_append]⟩
          rw [List.getLast?_concat] at hh
          simp only [Option.map_some, Option.some.injEq] at hh
          have ea : atI ((bs ++ [b]).map pcD) (-1) = some (pcD b) := by rw [List.map_append, List.map_singleton]; exact atI_last _
          have eix : ixD (st ++ [O.lst ((bs ++ [b]).map pcD)]) (.ref st.length) (.int (-1)) = some (pcD b) := by rw [ixD_lst hat]; exact ea
          have e0 : ixD (st ++ [O.lst ((bs ++ [b]).map pcD)]) (pcD b) (.int 0) = some (.int b.1) := rfl
          have bne : (h == b.1) = false := beq_false_of_ne fun e => hh e.symm
          refine to_iteN (st' := st ++ [.lst ((bs ++ [b]).map pcD)]) ?_ ?_
          · have e3 : ixD (st ++ [O.lst ((bs ++ [b]).map pcD)]) (dD (.plan r p h)) (.int 3) = some (.int h) := rfl
            simp only [evT, evE, List.getElem?_cons_succ, List.getElem?_cons_zero, bind_ok, e3, negD, eix, e0, ofD_some, cmpD, eq_ii, bne, ofBT_some]
          · refine (fin (bs ++ [b]) (by simp at hpl ⊢; omega)).of fun r' hr' => ?_
            subst hr'
            show Wp (exSs (callF P n) .nil _ _) _
            refine to_nil ⟨?_, _, rfl⟩
            rw [e1]
      · have e1 : pcsF room acc (.plan r p h) = acc := by simp only [pcsF, if_neg hr]
        rw [e1]
        refine to_iteN (st' := st ++ [.lst (acc.map pcD)]) (by simp [dD, hr]) (to_nil ⟨rfl, _, rfl⟩)
    | _ =>
      refine to_iteN (st' := st ++ [.lst (acc.map pcD)]) (by simp [dD]) (to_nil ⟨rfl, _, rfl⟩)
  · rintro env s' ⟨rfl, o3, rfl⟩
    rw [List.length_map, List.take_length]
    refine to_ret (d := .ref st.length) (st' := st ++ [.lst ((pcs ds room).map pcD)]) rfl ?_
    exact gcR_lstA st _ (Nat.le_refl _) (getLast_app _ _) (reflAll_map rl_pcD _)
end
end Pg
end
end

section
set_option Elab.async false
set_option linter.all false
set_option maxRecDepth 100000
set_option maxHeartbeats 1000000
/-! MoB: runs of end_of_next, turning_at, away_at, shown_by, value_at, shown. -/
noncomputable section
namespace Ws
open PySem
theorem to_forF {cl : Call} {tg : Tg} {src : Src} {tmp : List Nat} {body r : Ss} {env : Env} {st st' : AS} {Q : RS → Prop} {xs : List D} {w : Option (Nat × List D)} (h : evSrc cl src env st = .ok (xs, w) st') (k : Wp ((forL w (assign tg) tmp (fun env st => exSs cl body env st) xs env st').seq fun e s => exSs cl r e s) Q) : Wp (exSs cl (.cons (.forr tg src tmp body) r) env st) Q := by
  unfold Wp at *
  rw [exSs_cons, exS, h, stm_ok]
  exact k
/-- the first that is found going down -/
def findDown {α : Type} (f : Nat → Option α) : Nat → Option α
  | 0 => none
  | n + 1 => match f n with
    | some a => some a
    | none => findDown f n
def downD (n : Nat) : List D := (List.range n).reverse.map fun i => .int (i : Nat)
theorem range_down (n : Nat) : rangeC ((n : Int) - 1) (-1) ((n : Int) - 1 - (-1)).toNat = downD n := by
  have e : ((n : Int) - 1 - (-1)).toNat = n := by omega
  rw [e]
  unfold rangeC downD
  apply List.ext_getElem
  · simp
  · intro i h1 h2
    simp at h1 h2 ⊢
    omega
theorem downD_succ (n : Nat) : downD (n + 1) = .int (n : Nat) :: downD n := by
  unfold downD
  rw [List.range_succ, List.reverse_append, List.map_append]
  rfl
theorem forL_down {asg : D → Env → Option Env} {tmp : List Nat} {body : Env → AS → RS} {st : AS} {E0 : Env} (en : Nat → Env) (f : Nat → Option D) : ∀ (n : Nat),
    (∀ i, i < n → asg (.int (i : Nat)) E0 = some (en i) ∧ match f i with
      | some d => body (en i) st = .ret d st
      | none => ∃ e, body (en i) st = .next e st ∧ wipeE e tmp = E0) → ∀ env, wipeE env tmp = E0 → forL none asg tmp body (downD n) env st = match findDown f n with
      | some d => .ret d st
      | none => .next E0 st
  | 0, _, env, he => by
    show forL none asg tmp body [] env st = _
    unfold forL
    rw [if_pos (watchOk_none st), he]
    rfl
  | n + 1, h, env, he => by
    obtain ⟨h1, h2⟩ := h n (Nat.lt_succ_self n)
    rw [downD_succ]
    unfold forL
    rw [if_pos (watchOk_none st), he, h1]
    dsimp only
    unfold findDown
    cases hf : f n with
    | some d =>
      rw [hf] at h2
      dsimp only at h2
      rw [h2]
    | none =>
      rw [hf] at h2
      obtain ⟨e, h3, h4⟩ := h2
      rw [h3]
      exact forL_down en f n (fun i hi => h i (Nat.lt_succ_of_lt hi)) e h4
end Ws
namespace Pg
open PySem Ws
/-! ### end_of_next -/
def endF (ps : List (Int × Pl)) (h : Int) (x : (Int × Pl) × Nat) : Option Int := match nextSw x.1.2 (if h + 1 > x.1.1 then h + 1 else x.1.1) with
  | none => none
  | some f => match ps[x.2 + 1]? with
    | none => some f
    | some y => if f < y.1 then some f else none
def endNx (ds : List Deed) (room h : Int) : Option Int := (pcs ds room).zipIdx.findSome? (endF (pcs ds room) h)
/-! ### turnings, stretches -/
def holds (o : Option Int) (hour : Int) : Bool := match o with
  | none => true
  | some e => decide (hour < e)
def unEnd (ds : List Deed) (room : Int) (u : Un) (h : Int) : Option Int := match u with
  | .till e => some e
  | .next => endNx ds room h
  | .hold => none
def turnF (ds : List Deed) (room hour : Int) (i : Nat) : Option (Option (Nat × Int)) := match ds[i]? with
  | some (.back r _) => if r = room then some none else none
  | some (.turn r v u h) => if r = room then some (if holds (unEnd ds room u h) hour = true then some (i, v) else none) else none
  | _ => none
def turnAt (ds : List Deed) (room hour : Int) : Option (Nat × Int) := (findDown (turnF ds room hour) ds.length).getD none
def awayF (ds : List Deed) (hour : Int) (i : Nat) : Option (Option (Nat × Int)) := match ds[i]? with
  | some (.home _) => some none
  | some (.away b e v _) => some (if b ≤ hour ∧ holds e hour = true then some (i, v) else none)
  | _ => none
def awayAt (ds : List Deed) (hour : Int) : Option (Nat × Int) := (findDown (awayF ds hour) ds.length).getD none
def prD : Option (Nat × Int) → D
  | none => .non
  | some p => .tup [.int (p.1 : Nat), .int p.2]
@[simp] theorem rl_prD (o : Option (Nat × Int)) : (prD o).refless = true := by cases o <;> rfl
@[simp] theorem isNon_prD (o : Option (Nat × Int)) : isNon (prD o) = o.isNone := by cases o <;> rfl
theorem findDown_map {α β : Type} (f : Nat → Option α) (g : α → β) : ∀ n, findDown (fun i => (f i).map g) n = (findDown f n).map g
  | 0 => rfl
  | n + 1 => by
    unfold findDown
    cases f n with
    | some a => rfl
    | none => exact findDown_map f g n
def lastPl (ds : List Deed) (room : Int) : Pl := ((pcs ds room).getLast?.map (·.2)).getD []
def shownBy (ds : List Deed) (order : Str) : Nat → Int → Int → Option Int
  | 0, _, _ => none
  | n + 1, room, hour => match turnAt ds room hour, awayAt ds hour with
    | some t, some a => some (if order = "away" ∨ a.1 > t.1 then a.2 else t.2)
    | some t, none => some t.2
    | none, some a => some a.2
    | none, none => match followedBy ds room with
      | none => planVal (lastPl ds room) hour
      | some p => (shownBy ds order n p.1 hour).map fun v => min (max (v + p.2) 0) 9
/-- the chain of rooms ends within so many -/
def reach (ds : List Deed) : Nat → Int → Prop
  | 0, _ => False
  | n + 1, room => match followedBy ds room with
    | none => True
    | some p => reach ds n p.1
section
variable {P : Tbl} (H : HSh P)
include H
theorem r_end_of_next {m : Nat} (hm : 2 ≤ m) {st : AS} {k : Nat} {ds : List Deed} (hk : st[k]? = some (.lst (ds.map dD))) (hz : ds.length < 1000) (room h : Int) : callF P m 14 [.ref k, .int room, .int h] st = .ok (oD (endNx ds room h)) st := by
  obtain ⟨n, rfl⟩ := Nat.exists_eq_add_of_le' hm
  rw [callF_eq H.end_of_next (n + 1) _ rfl]
  unfold f_end_of_next
  have rp := r_plan_pieces H (show 1 ≤ n + 1 by omega) hk hz room
  have hlen := pcs_len ds room
  unfold endNx
  generalize pcs ds room = ps at rp hlen ⊢
  have hg : (st ++ [O.lst (ps.map pcD)])[st.length]? = some (.lst (ps.map pcD)) := getLast_app st _
  generalize hs1 : st ++ [O.lst (ps.map pcD)] = s1 at rp hg
  have hz' : (ps.map pcD).zipIdx.map (fun p => D.tup [.int (p.2 : Nat), p.1]) = ps.zipIdx.map fun p => D.tup [.int (p.2 : Nat), pcD p.1] := by
    rw [List.zipIdx_map, List.map_map]
    rfl
  have key : forL (some (st.length, ps.map pcD)) (Ws.assign (.tup (.cons (.name 4) (.cons (.tup (.cons (.name 5) (.cons (.name 6) .nil))) .nil)))) [4, 5, 6, 7, 8]
      (fun env st => exSs (callF P (n + 1)) (.cons (.asg (.name 7) (.ite (.cmp .lt (.bin .add (.var 4) (.lit (.int 1))) (.bi .len (.cons (.var 3) .nil))) (.ix (.ix (.var 3) (.bin .add (.var 4) (.lit (.int 1)))) (.lit (.int 0))) (.lit .non)))
    (.cons (.asg (.name 8) (.call 6 (.cons (.var 6) (.cons (.bi .max (.cons (.var 5) (.cons (.bin .add (.var 2) (.lit (.int 1))) .nil))) .nil))))
    (.cons (.ite (.and (.notN (.var 8)) (.or (.isN (.var 7)) (.cmp .lt (.var 8) (.var 7))))
      (.cons (.ret (.var 8)) .nil)
      .nil) .nil))) env st) (ps.zipIdx.map fun p => D.tup [.int (p.2 : Nat), pcD p.1]) [some (.ref k), some (.int room), some (.int h), some (.ref st.length), none, none, none, none, none] s1 = match ps.zipIdx.findSome? (fun x => (endF ps h x).map D.int) with
      | some d => .ret d s1
      | none => .next [some (.ref k), some (.int room), some (.int h), some (.ref st.length), none, none, none, none, none] s1 := by
    refine forL_find (st := s1) (E0 := [some (.ref k), some (.int room), some (.int h), some (.ref st.length), none, none, none, none, none]) (show watchOk (some (st.length, ps.map pcD)) s1 from items_lst hg) (fun p : (Int × Pl) × Nat => D.tup [.int (p.2 : Nat), pcD p.1]) (fun p => [some (.ref k), some (.int room), some (.int h), some (.ref st.length), some (.int (p.2 : Nat)), some (.int p.1.1), some (pD p.1.2), none, none]) (fun x => (endF ps h x).map D.int) ps.zipIdx (fun x hx => ⟨rfl, ?_⟩) _ rfl
    obtain ⟨⟨b, p⟩, i⟩ := x
    have hi : ps[i]? = some (b, p) := by
      have := List.mem_zipIdx_iff_getElem?.mp hx
      exact this
    have hil : i < ps.length := (List.getElem?_eq_some_iff.mp hi).1
    have rn := r_next_switch H (show 1 ≤ n + 1 by omega) s1 p (if h + 1 > b then h + 1 else b)
    have rmax : biD s1 .max [.int b, .int (h + 1)] = .ok (.int (if h + 1 > b then h + 1 else b)) s1 := rfl
    -- the end of the piece
    have e7 : evE (callF P (n + 1)) (.ite (.cmp .lt (.bin .add (.var 4) (.lit (.int 1))) (.bi .len (.cons (.var 3) .nil))) (.ix (.ix (.var 3) (.bin .add (.var 4) (.lit (.int 1)))) (.lit (.int 0))) (.lit .non)) [some (.ref k), some (.int room), some (.int h), some (.ref st.length), some (.int (i : Nat)), some (.int b), some (pD p), none, none] s1 = .ok (oD (ps[i + 1]?.map (·.1))) s1 := by
      have hl : biD s1 .len [.ref st.length] = .ok (.int (ps.length : Nat)) s1 := by rw [len_lst hg, List.length_map]
      by_cases hlt : i + 1 < ps.length
      · have e1 : ((i : Int) + 1 < (ps.length : Nat)) := by omega
        have e2 : atI (ps.map pcD) ((i + 1 : Nat) : Int) = some (pcD ps[i + 1]) := by
          rw [atI_nat (by rw [List.length_map]; exact hlt)]
          simp
        have e3 : ixD s1 (.ref st.length) (.int ((i : Int) + 1)) = some (pcD ps[i + 1]) := by
          rw [ixD_lst hg, ← e2]; rfl
        have e4 : ixD s1 (pcD ps[i + 1]) (.int 0) = some (.int ps[i + 1].1) := rfl
        simp only [evE, evT, evEs, List.getElem?_cons_succ, List.getElem?_cons_zero, bind_ok, bin_add, hl, cmpD, lt_ii, decide_eq_true e1, ofBT_some, if_true, e3, ofD_some, e4]
        rw [List.getElem?_eq_getElem hlt]
        rfl
      · have e1 : ¬ ((i : Int) + 1 < (ps.length : Nat)) := by omega
        simp only [evE, evT, evEs, List.getElem?_cons_succ, List.getElem?_cons_zero, bind_ok, bin_add, hl, cmpD, lt_ii, decide_eq_false e1, ofBT_some, Bool.false_eq_true, if_false]
        rw [List.getElem?_eq_none (by omega)]
        rfl
    have goal : ∀ r : RS, r = exSs (callF P (n + 1)) (.cons (.asg (.name 7) (.ite (.cmp .lt (.bin .add (.var 4) (.lit (.int 1))) (.bi .len (.cons (.var 3) .nil))) (.ix (.ix (.var 3) (.bin .add (.var 4) (.lit (.int 1)))) (.lit (.int 0))) (.lit .non)))
    (.cons (.asg (.name 8) (.call 6 (.cons (.var 6) (.cons (.bi .max (.cons (.var 5) (.cons (.bin .add (.var 2) (.lit (.int 1))) .nil))) .nil))))
    (.cons (.ite (.and (.notN (.var 8)) (.or (.isN (.var 7)) (.cmp .lt (.var 8) (.var 7))))
      (.cons (.ret (.var 8)) .nil)
      .nil) .nil))) [some (.ref k), some (.int room), some (.int h), some (.ref st.length), some (.int (i : Nat)), some (.int b), some (pD p), none, none] s1 → match (endF ps h ((b, p), i)).map D.int with
      | some d => r = .ret d s1
      | none => ∃ e, r = .next e s1 ∧ wipeE e [4, 5, 6, 7, 8] = [some (.ref k), some (.int room), some (.int h), some (.ref st.length), none, none, none, none, none] := fun r hr => by
      subst hr
      refine (?_ : Wp _ fun r => match (endF ps h ((b, p), i)).map D.int with
        | some d => r = .ret d s1
        | none => ∃ e, r = .next e s1 ∧ wipeE e [4, 5, 6, 7, 8] = [some (.ref k), some (.int room), some (.int h), some (.ref st.length), none, none, none, none, none])
      refine to_asg e7 ?_
      refine to_asg (d := oD (nextSw p (if h + 1 > b then h + 1 else b))) (st' := s1) (by simp only [evE, evEs, List.set_cons_succ, List.set_cons_zero, List.getElem?_cons_succ, List.getElem?_cons_zero, bind_ok, bin_add, rmax, rn]) ?_
      unfold endF
      dsimp only
      cases en : nextSw p (if h + 1 > b then h + 1 else b) with
      | none =>
        refine to_iteN (st' := s1) (by simp [oD]) (to_nil ?_)
        exact ⟨_, rfl, rfl⟩
      | some f =>
        cases ey : ps[i + 1]? with
        | none =>
          refine to_iteT (st' := s1) (by simp [oD]) (to_ret (d := .int f) rfl ?_)
          rfl
        | some y =>
          by_cases hf : f < y.1
          · refine to_iteT (st' := s1) (by simp [oD, hf]) (to_ret (d := .int f) rfl ?_)
            simp only [hf, if_true, Option.map_some]
            rfl
          · refine to_iteN (st' := s1) (by simp [oD, hf]) (to_nil ?_)
            simp only [hf, if_false, Option.map_none]
            exact ⟨_, rfl, rfl⟩
    exact goal _ rfl
  refine (?_ : Wp _ fun r => gcR st r.res = _)
  refine to_asg (d := .ref st.length) (st' := s1) (by simp only [evE, evEs, startE, List.map_cons, List.cons_append, List.getElem?_cons_succ, List.getElem?_cons_zero, bind_ok, rp]) ?_
  have es : evSrc (callF P (n + 1)) (.enum (.var 3)) [some (.ref k), some (.int room), some (.int h), some (.ref st.length), none, none, none, none, none] s1 = .ok (ps.zipIdx.map fun p => D.tup [.int (p.2 : Nat), pcD p.1], some (st.length, ps.map pcD)) s1 := by
    simp only [evSrc, evE, List.getElem?_cons_succ, List.getElem?_cons_zero, bind_ok, hg, hz']
  show Wp (exSs (callF P (n + 1)) (.cons (.forr _ _ _ _) _) [some (.ref k), some (.int room), some (.int h), some (.ref st.length), none, none, none, none, none] s1) _
  refine to_forF es ?_
  unfold Wp
  rw [key]
  have e : ∀ l : List ((Int × Pl) × Nat), l.findSome? (fun x => (endF ps h x).map D.int) = (l.findSome? (endF ps h)).map D.int := fun l => by
    induction l with
    | nil => rfl
    | cons a l ih =>
      rw [List.findSome?_cons, List.findSome?_cons]
      cases endF ps h a with
      | none => exact ih
      | some z => rfl
  rw [e]
  cases ps.zipIdx.findSome? (endF ps h) with
  | none =>
    simp
    rw [← hs1]
    exact gcR_app _ _ rfl
  | some z =>
    simp
    rw [← hs1]
    exact gcR_app _ _ rfl
theorem r_turning_at {m : Nat} (hm : 3 ≤ m) {st : AS} {k : Nat} {ds : List Deed} (hk : st[k]? = some (.lst (ds.map dD))) (hz : ds.length < 1000) (room hour : Int) : callF P m 15 [.ref k, .int room, .int hour] st = .ok (prD (turnAt ds room hour)) st := by
  obtain ⟨n, rfl⟩ := Nat.exists_eq_add_of_le' hm
  rw [callF_eq H.turning_at (n + 2) _ rfl]
  unfold f_turning_at
  refine (?_ : Wp _ fun r => gcR st r.res = _)
  have hl : biD st .len [.ref k] = .ok (.int (ds.length : Nat)) st := by rw [len_lst hk, List.length_map]
  have es : evSrc (callF P (n + 2)) (.rng3 (.bin .sub (.bi .len (.cons (.var 0) .nil)) (.lit (.int 1))) (.neg (.lit (.int 1))) (.neg (.lit (.int 1)))) [some (.ref k), some (.int room), some (.int hour), none, none, none, none] st = .ok (downD ds.length, none) st := by
    have s1 : small ((ds.length : Int) - 1) = true := small_ok (by omega) (by omega)
    have s2 : small (-1) = true := small_ok (by omega) (by omega)
    simp only [evSrc, evE, evEs, List.getElem?_cons_zero, bind_ok, hl, bin_sub, negD, s1, s2, and_self, if_true, range_down]
    have : (downD ds.length).length ≤ 16777216 := by simp [downD]; omega
    unfold sized
    rw [if_pos (by simpa [szMax] using this)]
  show Wp (exSs (callF P (n + 2)) (.cons (.forr _ _ _ _) _) [some (.ref k), some (.int room), some (.int hour), none, none, none, none] st) _
  refine to_forF es ?_
  unfold Wp
  rw [forL_down (E0 := [some (.ref k), some (.int room), some (.int hour), none, none, none, none]) (fun i => [some (.ref k), some (.int room), some (.int hour), some (.int (i : Nat)), none, none, none]) (fun i => (turnF ds room hour i).map prD) ds.length (fun i hi => ⟨rfl, ?_⟩) _ rfl]
  · rw [findDown_map]
    unfold turnAt
    cases findDown (turnF ds room hour) ds.length with
    | none => simp [prD, gcR_same]
    | some z => simp [gcR_same]
  · have hd : ds[i]? = some ds[i] := List.getElem?_eq_getElem hi
    have hx : ixD st (.ref k) (.int (i : Nat)) = some (dD ds[i]) := by
      rw [ixD_lst hk, atI_nat (by rw [List.length_map]; exact hi)]
      simp
    generalize hdd : ds[i] = d at hd hx
    refine (?_ : Wp _ fun r => match (turnF ds room hour i).map prD with
      | some d => r = .ret d st
      | none => ∃ e, r = .next e st ∧ wipeE e [3, 4] = [some (.ref k), some (.int room), some (.int hour), none, none, none, none]) |> fun h => (by
        unfold Wp at h
        generalize (turnF ds room hour i).map prD = o at h ⊢
        cases o <;> exact h)
    refine to_asg (d := dD d) (st' := st) (by simp only [evE, List.getElem?_cons_succ, List.getElem?_cons_zero, bind_ok, hx, ofD_some]) ?_
    unfold turnF
    rw [hd]
    cases d with
    | back r h =>
      by_cases hr : r = room
      · subst hr
        simp only [if_true]
        refine to_iteT (st' := st) (by simp [dD]) (to_ret (d := .non) rfl ?_)
        rfl
      · simp only [hr, if_false]
        refine to_iteN (st' := st) (by simp [dD, hr]) ?_
        refine to_iteN (st' := st) (by simp [dD]) (to_nil ⟨_, rfl, rfl⟩)
    | turn r v u h =>
      by_cases hr : r = room
      · subst hr
        simp only [if_true]
        refine to_iteN (st' := st) (by simp [dD]) ?_
        refine to_iteT (st' := st) (by simp [dD]) ?_
        refine to_asg (d := uD u) (st' := st) (by simp [dD]) ?_
        have re := r_end_of_next H (show 2 ≤ n + 2 by omega) hk hz r h
        have fin : Wp (exSs (callF P (n + 2)) (.cons (.ret (.ite (.or (.isN (.var 6)) (.cmp .lt (.var 2) (.var 6))) (.tup (.cons (.var 3) (.cons (.ix (.var 4) (.lit (.int 2))) .nil))) (.lit .non))) .nil) [some (.ref k), some (.int r), some (.int hour), some (.int (i : Nat)), some (dD (.turn r v u h)), some (uD u), some (oD (unEnd ds r u h))] st) (fun r' => r' = .ret (prD (if holds (unEnd ds r u h) hour = true then some (i, v) else none)) st) := by
          cases unEnd ds r u h with
          | none => exact to_ret (st' := st) (by simp [oD, holds, prD, dD]) rfl
          | some e =>
            by_cases he : hour < e
            · exact to_ret (st' := st) (by simp [oD, holds, prD, dD, he]) rfl
            · exact to_ret (st' := st) (by simp [oD, holds, prD, dD, he]) rfl
        cases u with
        | till e =>
          refine to_asg (d := .int e) (st' := st) (by simp [uD]) ?_
          refine to_iteN (st' := st) (by simp [uD]) ?_
          exact fin.of fun r' hr' => by subst hr'; rfl
        | hold =>
          refine to_asg (d := .non) (st' := st) (by simp [uD]) ?_
          refine to_iteN (st' := st) (by simp [uD]) ?_
          exact fin.of fun r' hr' => by subst hr'; rfl
        | next =>
          refine to_asg (d := .non) (st' := st) (by simp [uD]) ?_
          refine to_iteT (st' := st) (by simp [uD]) ?_
          refine to_asg (d := oD (endNx ds r h)) (st' := st) (by simp [dD, re]) (to_nilK ?_)
          exact fin.of fun r' hr' => by subst hr'; rfl
      · simp only [hr, if_false]
        refine to_iteN (st' := st) (by simp [dD]) ?_
        refine to_iteN (st' := st) (by simp [dD, hr]) (to_nil ⟨_, rfl, rfl⟩)
    | _ =>
      refine to_iteN (st' := st) (by simp [dD]) ?_
      refine to_iteN (st' := st) (by simp [dD]) (to_nil ⟨_, rfl, rfl⟩)
theorem r_away_at {m : Nat} (hm : 1 ≤ m) {st : AS} {k : Nat} {ds : List Deed} (hk : st[k]? = some (.lst (ds.map dD))) (hz : ds.length < 1000) (hour : Int) : callF P m 16 [.ref k, .int hour] st = .ok (prD (awayAt ds hour)) st := by
  obtain ⟨n, rfl⟩ := Nat.exists_eq_add_of_le' hm
  rw [callF_eq H.away_at n _ rfl]
  unfold f_away_at
  refine (?_ : Wp _ fun r => gcR st r.res = _)
  have hl : biD st .len [.ref k] = .ok (.int (ds.length : Nat)) st := by rw [len_lst hk, List.length_map]
  have es : evSrc (callF P n) (.rng3 (.bin .sub (.bi .len (.cons (.var 0) .nil)) (.lit (.int 1))) (.neg (.lit (.int 1))) (.neg (.lit (.int 1)))) [some (.ref k), some (.int hour), none, none, none] st = .ok (downD ds.length, none) st := by
    have s1 : small ((ds.length : Int) - 1) = true := small_ok (by omega) (by omega)
    have s2 : small (-1) = true := small_ok (by omega) (by omega)
    simp only [evSrc, evE, evEs, List.getElem?_cons_zero, bind_ok, hl, bin_sub, negD, s1, s2, and_self, if_true, range_down]
    have : (downD ds.length).length ≤ 16777216 := by simp [downD]; omega
    unfold sized
    rw [if_pos (by simpa [szMax] using this)]
  show Wp (exSs (callF P n) (.cons (.forr _ _ _ _) _) [some (.ref k), some (.int hour), none, none, none] st) _
  refine to_forF es ?_
  unfold Wp
  rw [forL_down (E0 := [some (.ref k), some (.int hour), none, none, none]) (fun i => [some (.ref k), some (.int hour), some (.int (i : Nat)), none, none]) (fun i => (awayF ds hour i).map prD) ds.length (fun i hi => ⟨rfl, ?_⟩) _ rfl]
  · rw [findDown_map]
    unfold awayAt
    cases findDown (awayF ds hour) ds.length with
    | none => simp [prD, gcR_same]
    | some z => simp [gcR_same]
  · have hd : ds[i]? = some ds[i] := List.getElem?_eq_getElem hi
    have hx : ixD st (.ref k) (.int (i : Nat)) = some (dD ds[i]) := by
      rw [ixD_lst hk, atI_nat (by rw [List.length_map]; exact hi)]
      simp
    generalize hdd : ds[i] = d at hd hx
    refine (?_ : Wp _ fun r => match (awayF ds hour i).map prD with
      | some d => r = .ret d st
      | none => ∃ e, r = .next e st ∧ wipeE e [2, 3] = [some (.ref k), some (.int hour), none, none, none]) |> fun h => (by
        unfold Wp at h
        generalize (awayF ds hour i).map prD = o at h ⊢
        cases o <;> exact h)
    refine to_asg (d := dD d) (st' := st) (by simp only [evE, List.getElem?_cons_succ, List.getElem?_cons_zero, bind_ok, hx, ofD_some]) ?_
    unfold awayF
    rw [hd]
    cases d with
    | home h =>
      refine to_iteT (st' := st) (by simp [dD]) (to_ret (d := .non) rfl ?_)
      rfl
    | away b e v h =>
      refine to_iteN (st' := st) (by simp [dD]) ?_
      refine to_iteT (st' := st) (by simp [dD]) ?_
      by_cases hb : b ≤ hour
      · cases e with
        | none =>
          refine to_asg (d := .bl true) (st' := st) (by simp [dD, oD, hb]) ?_
          exact to_ret (d := prD (some (i, v))) (st' := st) (by simp [dD, prD]) (by simp [hb, holds]; rfl)
        | some e =>
          by_cases he : hour < e
          · refine to_asg (d := .bl true) (st' := st) (by simp [dD, oD, hb, he]) ?_
            exact to_ret (d := prD (some (i, v))) (st' := st) (by simp [dD, prD]) (by simp [hb, he, holds]; rfl)
          · refine to_asg (d := .bl false) (st' := st) (by simp [dD, oD, hb, he]) ?_
            exact to_ret (d := .non) (st' := st) (by simp [dD, prD]) (by simp [hb, he, holds]; rfl)
      · refine to_asg (d := .bl false) (st' := st) (by simp [dD, oD, hb]) ?_
        exact to_ret (d := .non) (st' := st) (by simp [dD, prD]) (by simp [hb]; rfl)
    | _ =>
      refine to_iteN (st' := st) (by simp [dD]) ?_
      refine to_iteN (st' := st) (by simp [dD]) (to_nil ⟨_, rfl, rfl⟩)
end
end Pg
end
end

section
set_option Elab.async false
set_option linter.all false
set_option maxRecDepth 100000
set_option maxHeartbeats 1000000
/-! MoC: runs of shown_by, value_at, shown. -/
noncomputable section
namespace Ws
open PySem
theorem to_par {cl : Call} {a b : E} {i j : Nat} {r : Ss} {env : Env} {st st1 st2 : AS} {x y : D} {Q : RS → Prop} (h1 : evE cl a env st = .ok x st1) (h2 : evE cl b env st1 = .ok y st2) (k : Wp (exSs cl r ((env.set i (some x)).set j (some y)) st2) Q) : Wp (exSs cl (.cons (.par i j a b) r) env st) Q := by
  unfold Wp at *
  rw [exSs_cons, exS, h1, stm_ok, h2, stm_ok]
  exact k
end Ws
namespace Pg
open PySem Ws
theorem lastPl_at (ds : List Deed) (room : Int) : ∃ b, (pcs ds room).getLast? = some (b, lastPl ds room) := by
  rcases List.eq_nil_or_concat (pcs ds room) with e | ⟨bs, b, e⟩
  · exact absurd e (pcs_ne ds room)
  · refine ⟨b.1, ?_⟩
    unfold lastPl
    rw [e, List.concat_eq_append, List.getLast?_concat]
    rfl
def upTo (ds : List Deed) (hour : Int) : List Deed := ds.filter fun d => decide (d.hour ≤ hour)
section
variable {P : Tbl} (H : HSh P)
include H
theorem r_shown_by {st : AS} {k : Nat} {ds : List Deed} (hk : st[k]? = some (.lst (ds.map dD))) (hz : ds.length < 1000) (order : Str) (hour : Int) : ∀ (j : Nat) (room : Int), reach ds j room → ∀ m, j + 3 ≤ m → callF P m 18 [.ref k, .str order, .int room, .int hour] st = .ok (oD (shownBy ds order j room hour)) st
  | 0, _, hr, _, _ => hr.elim
  | j + 1, room, hr, m, hm => by
    obtain ⟨n, rfl⟩ := Nat.exists_eq_add_of_le' hm
    refine run_of H.shown_by (n := n + (j + 3)) rfl ?_
    unfold f_shown_by
    have rt := r_turning_at H (m := n + (j + 3)) (by omega) hk hz room hour
    have ra := r_away_at H (m := n + (j + 3)) (by omega) hk hz hour
    refine to_par (x := prD (turnAt ds room hour)) (y := prD (awayAt ds hour)) (st1 := st) (st2 := st) (by simp [rt]) (by simp [ra]) ?_
    unfold shownBy
    cases et : turnAt ds room hour with
    | some t =>
      cases ea : awayAt ds hour with
      | some a =>
        refine to_iteT (st' := st) (by simp [prD, foD]) ?_
        by_cases ho : order = "away"
        · subst ho
          exact to_ret (d := .int a.2) (st' := st) (by simp [prD]) (by simp [Wp, gcR_same, oD])
        · by_cases hg : t.1 < a.1
          · exact to_ret (d := .int a.2) (st' := st) (by simp [prD, ho, hg]) (by simp [Wp, gcR_same, oD, ho, hg])
          · exact to_ret (d := .int t.2) (st' := st) (by simp [prD, ho, hg]) (by simp [Wp, gcR_same, oD, ho, hg])
      | none =>
        refine to_iteN (st' := st) (by simp [prD, foD]) ?_
        refine to_iteT (st' := st) (by simp [prD, foD]) ?_
        exact to_ret (d := .int t.2) (st' := st) (by simp [prD]) (by simp [Wp, gcR_same, oD])
    | none =>
      cases ea : awayAt ds hour with
      | some a =>
        refine to_iteN (st' := st) (by simp [prD, foD]) ?_
        refine to_iteT (st' := st) (by simp [prD, foD]) ?_
        exact to_ret (d := .int a.2) (st' := st) (by simp [prD]) (by simp [Wp, gcR_same, oD])
      | none =>
        refine to_iteN (st' := st) (by simp [prD, foD]) ?_
        refine to_iteN (st' := st) (by simp [prD, foD]) ?_
        have rf := r_followed_by H.toHHo (m := n + (j + 3)) (by omega) hk room
        refine to_asg (d := foD (followedBy ds room)) (st' := st) (by simp [rf]) ?_
        unfold reach at hr
        cases ef : followedBy ds room with
        | none =>
          refine to_iteT (st' := st) (by simp [prD, foD]) ?_
          have rp := r_plan_pieces H (m := n + (j + 3)) (by omega) hk hz room
          obtain ⟨b, hb⟩ := lastPl_at ds room
          have hg : (st ++ [O.lst ((pcs ds room).map pcD)])[st.length]? = some (.lst ((pcs ds room).map pcD)) := getLast_app st _
          have ea : ixD (st ++ [O.lst ((pcs ds room).map pcD)]) (.ref st.length) (.int (-1)) = some (pcD (b, lastPl ds room)) := by
            rw [ixD_lst hg]
            obtain ⟨bs, e⟩ := List.getLast?_eq_some_iff.mp hb
            rw [e, List.map_append, List.map_singleton]
            exact atI_last _
          have e1 : ixD (st ++ [O.lst ((pcs ds room).map pcD)]) (pcD (b, lastPl ds room)) (.int 1) = some (pD (lastPl ds room)) := rfl
          have rv := r_plan_value H (m := n + (j + 3)) (by omega) (st ++ [O.lst ((pcs ds room).map pcD)]) (lastPl ds room) hour
          refine to_ret (d := oD (planVal (lastPl ds room) hour)) (st' := st ++ [.lst ((pcs ds room).map pcD)]) ?_ (gcR_app _ _ (rl_oD _))
          simp only [evE, evEs, startE, List.map_cons, List.map_nil, List.cons_append, List.set_cons_succ, List.set_cons_zero, List.getElem?_cons_succ, List.getElem?_cons_zero, bind_ok, rp, negD, ea, e1, ofD_some, rv]
        | some p =>
          rw [ef] at hr
          refine to_iteN (st' := st) (by simp [prD, foD]) ?_
          have ri := r_shown_by hk hz order hour j p.1 hr (n + (j + 3)) (by omega)
          refine to_asg (d := oD (shownBy ds order j p.1 hour)) (st' := st) (by simp [foD, ri]) ?_
          cases es : shownBy ds order j p.1 hour with
          | none => exact to_ret (d := .non) (st' := st) (by simp [oD]) (by simp [Wp, gcR_same, oD, es])
          | some v =>
            refine to_ret (d := .int (min (max (v + p.2) 0) 9)) (st' := st) ?_ (by simp [Wp, gcR_same, oD, es])
            have e1 : (if 0 > v + p.2 then 0 else v + p.2) = max (v + p.2) 0 := by split <;> omega
            have e2 : (if 9 < max (v + p.2) 0 then 9 else max (v + p.2) 0) = min (max (v + p.2) 0) 9 := by split <;> omega
            have b1 : biD st .max [.int (v + p.2), .int 0] = .ok (.int (max (v + p.2) 0)) st := by rw [← e1]; rfl
            have b2 : biD st .min [.int (max (v + p.2) 0), .int 9] = .ok (.int (min (max (v + p.2) 0) 9)) st := by rw [← e2]; rfl
            have e3 : ixD st (foD (some p)) (.int 1) = some (.int p.2) := rfl
            simp [foD, oD, b1, b2]
theorem r_value_at {m : Nat} {j : Nat} (hm : j + 4 ≤ m) {st : AS} {l k : Nat} {rooms : Int} {order : Str} {ds : List Deed} (h : Hs st l k rooms order ds) (hz : ds.length < 1000) (room hour : Int) (hr : reach (upTo ds hour) j room) : callF P m 32 [.ref l, .int room, .int hour] st = .ok (oD (shownBy (upTo ds hour) order j room hour)) st := by
  obtain ⟨n, rfl⟩ := Nat.exists_eq_add_of_le' hm
  refine run_of H.value_at (n := n + (j + 3)) rfl ?_
  unfold f_House_value_at
  have it : itemsD st (.ref k) = some (ds.map dD) := items_lst h.lst
  have lc : lcLoop (some (k, ds.map dD)) (fun d => Ws.assign (.name 3) d (wipeE [some (.ref l), some (.int room), some (.int hour), none] [3])) (fun env st => evC (callF P (n + (j + 3))) (.of (.cmp .le (.call 12 (.cons (.var 3) .nil)) (.var 2))) env st) (fun env st => evE (callF P (n + (j + 3))) (.var 3) env st) (ds.map dD) st = .ok ((upTo ds hour).map dD) st := by
    have := lcLoop_pure (st := st) (w := some (k, ds.map dD)) (asg := fun d => Ws.assign (.name 3) d (wipeE [some (.ref l), some (.int room), some (.int hour), none] [3])) (tst := fun env st => evC (callF P (n + (j + 3))) (.of (.cmp .le (.call 12 (.cons (.var 3) .nil)) (.var 2))) env st) (elt := fun env st => evE (callF P (n + (j + 3))) (.var 3) env st) (show watchOk (some (k, ds.map dD)) st from it) (fun d => [some (.ref l), some (.int room), some (.int hour), some d]) (fun d => match ixD st d (.int (-1)) with
      | some (.int i) => decide (i ≤ hour)
      | _ => false) (fun d => d) (ds.map dD) fun x hx => by
        obtain ⟨d, _, rfl⟩ := List.mem_map.mp hx
        have e : ixD st (dD d) (.int (-1)) = some (.int d.hour) := by cases d <;> rfl
        refine ⟨rfl, ?_, fun _ => rfl⟩
        have rh := r_hour_of H.toHHo (m := n + (j + 3)) (by omega) st d
        rw [e]
        simp [rh]
    rw [this]
    congr 1
    rw [List.map_id', List.filter_map]
    congr 1
    unfold upTo
    refine List.filter_congr fun d _ => ?_
    have e : ixD st (dD d) (.int (-1)) = some (.int d.hour) := by cases d <;> rfl
    show (match ixD st (dD d) (.int (-1)) with
      | some (.int i) => decide (i ≤ hour)
      | _ => false) = _
    rw [e]
  have hg : (st ++ [O.lst ((upTo ds hour).map dD)])[st.length]? = some (.lst ((upTo ds hour).map dD)) := getLast_app st _
  have hlt : l < st.length := (List.getElem?_eq_some_iff.mp h.at_).1
  have fo : fldD (st ++ [O.lst ((upTo ds hour).map dD)]) "order" (.ref l) = some (.str order) := by
    unfold fldD
    dsimp only
    rw [List.getElem?_append_left hlt, h.at_]
    rfl
  have hz2 : (upTo ds hour).length < 1000 := Nat.lt_of_le_of_lt (List.length_filter_le _ _) hz
  have rs := r_shown_by H hg hz2 order hour j room hr (n + (j + 3)) (by omega)
  refine to_ret (d := oD (shownBy (upTo ds hour) order j room hour)) (st' := st ++ [.lst ((upTo ds hour).map dD)]) ?_ (gcR_app _ _ (rl_oD _))
  simp only [evE, evEs, evSrc, startE, List.map_cons, List.map_nil, List.length_cons, List.length_nil, List.replicate, List.cons_append, List.nil_append, List.getElem?_cons_succ, List.getElem?_cons_zero, bind_ok, h.fD, ofD_some, it]
  have lc' := lc
  simp only [evE, List.map_cons, List.map_nil] at lc' ⊢
  rw [lc']
  simp only [bind_ok, newL, fo, ofD_some, rs]
variable {st : AS} {l k : Nat} {rooms : Int} {order : Str} {ds : List Deed}
theorem r_shown {m : Nat} {j : Nat} (hm : j + 5 ≤ m) (h : Hs st l k rooms order ds) (hz : ds.length < 1000) (room hour : Int) (h1 : 0 ≤ room ∧ room < rooms) (h2 : 0 ≤ hour) (hr : reach (upTo ds hour) j room) : callF P m 33 [.ref l, .int room, .int hour] st = .ok (oD (shownBy (upTo ds hour) order j room hour)) st := by
  obtain ⟨n, rfl⟩ := Nat.exists_eq_add_of_le' hm
  refine run_of H.shown (n := n + (j + 4)) rfl ?_
  unfold f_House_shown
  have r1 := r_check_room H.toHHo (m := n + (j + 4)) (by omega) h (.int room) rfl
  have b1 : numB (.int room) 0 (rooms - 1) = true := (numD_some (numD_int (show 0 ≤ room ∧ room ≤ rooms - 1 by omega))).1
  rw [b1] at r1
  have rv := r_value_at H (m := n + (j + 4)) (j := j) (by omega) h hz room hour hr
  refine to_expr (d := .non) (st' := st) (by simp [h.at_, r1]) ?_
  have nh : ¬ hour < 0 := by omega
  refine to_iteN (st' := st) (by simp [nh]) ?_
  exact to_ret (d := oD (shownBy (upTo ds hour) order j room hour)) (st' := st) (by simp [h.at_, rv]) (gcR_same _ _)
theorem r_shown_room {m : Nat} (hm : 3 ≤ m) (h : Hs st l k rooms order ds) {v w : D} (hv : tyB st v = true) (b : numB v 0 (rooms - 1) = false) : callF P m 33 [.ref l, v, w] st = .exn 4 .non st := by
  obtain ⟨n, rfl⟩ := Nat.exists_eq_add_of_le' hm
  refine run_of H.shown (n := n + 2) rfl ?_
  unfold f_House_shown
  have r1 := r_check_room H.toHHo (m := n + 2) (by omega) h v hv
  rw [b] at r1
  exact to_exprX (n := 4) (p := .non) (st' := st) (by simp [h.at_, r1]) (gcR_exn _ _ _)
theorem r_shown_hour {m : Nat} (hm : 3 ≤ m) (h : Hs st l k rooms order ds) {room : Int} {w : D} (h1 : 0 ≤ room ∧ room < rooms) (hw : w = .int (-1) ∨ w = .non ∨ w = .bl true ∨ ∃ s, w = .str s) : callF P m 33 [.ref l, .int room, w] st = .exn 5 .non st := by
  obtain ⟨n, rfl⟩ := Nat.exists_eq_add_of_le' hm
  refine run_of H.shown (n := n + 2) rfl ?_
  unfold f_House_shown
  have r1 := r_check_room H.toHHo (m := n + 2) (by omega) h (.int room) rfl
  have b1 : numB (.int room) 0 (rooms - 1) = true := (numD_some (numD_int (show 0 ≤ room ∧ room ≤ rooms - 1 by omega))).1
  rw [b1] at r1
  refine to_expr (d := .non) (st' := st) (by simp [h.at_, r1]) ?_
  have fin : evT (callF P (n + 2)) (.or (.nt (.of (.isi "int" (.var 2)))) (.or (.of (.isi "bool" (.var 2))) (.cmp .lt (.var 2) (.lit (.int 0))))) [some (.ref l), some (.int room), some w] st = .ok true st := by
    rcases hw with rfl | rfl | rfl | ⟨s, rfl⟩ <;> simp
  refine to_iteT fin ?_
  unfold Wp
  simp [gcR_exn]
end
end Pg
end
end

section
set_option Elab.async false
set_option linter.all false
set_option maxRecDepth 100000
set_option maxHeartbeats 1000000
/-! MoD: the ends of turnings, plainly. -/
noncomputable section
namespace Pg
open PySem Ws
def sw (p : Pl) (t : Int) : Prop := ∃ q ∈ p, q.1 = t % 168
theorem minL_spec : ∀ (a : Int) (l : List Int), (minL a l = a ∨ minL a l ∈ l) ∧ minL a l ≤ a ∧ ∀ x ∈ l, minL a l ≤ x
  | a, [] => ⟨.inl rfl, Int.le_refl _, by simp⟩
  | a, b :: r => by
    unfold minL
    obtain ⟨h1, h2, h3⟩ := minL_spec (if b < a then b else a) r
    refine ⟨?_, ?_, ?_⟩
    · rcases h1 with h1 | h1
      · rw [h1]
        split
        · exact .inr List.mem_cons_self
        · exact .inl rfl
      · exact .inr (List.mem_cons_of_mem _ h1)
    · refine Int.le_trans h2 ?_
      split <;> omega
    · intro x hx
      rcases List.mem_cons.mp hx with rfl | hx
      · refine Int.le_trans h2 ?_
        split <;> omega
      · exact h3 x hx
theorem nextSw_some {p : Pl} (hb : Bnd p) {x f : Int} (h : nextSw p x = some f) : x ≤ f ∧ sw p f ∧ ∀ t, x ≤ t → t < f → ¬ sw p t := by
  unfold nextSw at h
  cases p with
  | nil => cases h
  | cons q r =>
    simp only [Option.some.injEq] at h
    obtain ⟨h1, h2, h3⟩ := minL_spec ((q.1 - x) % 168) (r.map fun q => (q.1 - x) % 168)
    generalize minL ((q.1 - x) % 168) (r.map fun q => (q.1 - x) % 168) = m at h h1 h2 h3
    have hm : ∃ y ∈ q :: r, m = (y.1 - x) % 168 := by
      rcases h1 with h1 | h1
      · exact ⟨q, List.mem_cons_self, h1⟩
      · obtain ⟨y, hy, e⟩ := List.mem_map.mp h1
        exact ⟨y, List.mem_cons_of_mem _ hy, e.symm⟩
    obtain ⟨y, hy, e⟩ := hm
    have hyb := hb y hy
    refine ⟨by omega, ⟨y, hy, by omega⟩, ?_⟩
    rintro t ht1 ht2 ⟨z, hz, ez⟩
    have hzb := hb z hz
    have hle : m ≤ (z.1 - x) % 168 := by
      rcases List.mem_cons.mp hz with rfl | hz
      · exact h2
      · exact h3 _ (List.mem_map.mpr ⟨z, hz, rfl⟩)
    omega
theorem nextSw_none {p : Pl} {x : Int} (h : nextSw p x = none) : p = [] := by
  unfold nextSw at h
  cases p with
  | nil => rfl
  | cons q r => cases h
def endR (h : Int) : List (Int × Pl) → Option Int
  | [] => none
  | (b, p) :: rest => match nextSw p (if h + 1 > b then h + 1 else b) with
    | none => endR h rest
    | some f => match rest with
      | [] => some f
      | y :: _ => if f < y.1 then some f else endR h rest
theorem endR_cons (h b : Int) (p : Pl) (rest : List (Int × Pl)) : endR h ((b, p) :: rest) = match nextSw p (if h + 1 > b then h + 1 else b) with
      | none => endR h rest
      | some f => match rest with
        | [] => some f
        | y :: _ => if f < y.1 then some f else endR h rest := by rw [endR]
theorem endF_at (h b : Int) (p : Pl) {ps : List (Int × Pl)} {i : Nat} {o : Option (Int × Pl)} : ps[i + 1]? = o → endF ps h ((b, p), i) = match nextSw p (if h + 1 > b then h + 1 else b) with
      | none => none
      | some f => match o with
        | none => some f
        | some y => if f < y.1 then some f else none := by
  rintro rfl
  rfl
theorem endR_eq (h : Int) : ∀ (ps pre : List (Int × Pl)), (ps.zipIdx pre.length).findSome? (endF (pre ++ ps) h) = endR h ps
  | [], pre => rfl
  | (b, p) :: rest, pre => by
    rw [List.zipIdx_cons, List.findSome?_cons]
    have ih := endR_eq h rest (pre ++ [(b, p)])
    rw [List.append_assoc, List.singleton_append, List.length_append, List.length_singleton] at ih
    rw [ih]
    rw [endR_cons]
    have e : (pre ++ (b, p) :: rest)[pre.length + 1]? = rest[0]? := by
      rw [List.getElem?_append_right (by omega)]
      have : pre.length + 1 - pre.length = 1 := by omega
      rw [this]; rfl
    rw [endF_at h b p e]
    generalize endR h rest = R
    cases nextSw p (if h + 1 > b then h + 1 else b) with
    | none => rfl
    | some f =>
      cases rest with
      | nil => rfl
      | cons y r =>
        dsimp only [List.getElem?_cons_zero]
        by_cases hf : f < y.1
        · simp only [if_pos hf]
        · simp only [if_neg hf]
/-- the piece at an hour -/
def plIn (ps : List (Int × Pl)) (t : Int) : Pl := ((ps.filter fun q => decide (q.1 ≤ t)).getLast?.map (·.2)).getD []
theorem plIn_skip {b b' : Int} {p p' : Pl} {r : List (Int × Pl)} {t : Int} (h : b' ≤ t) : plIn ((b, p) :: (b', p') :: r) t = plIn ((b', p') :: r) t := by
  unfold plIn
  rw [List.filter_cons]
  split
  · rw [List.filter_cons_of_pos (by simpa using h), List.getLast?_cons_cons]
  · rfl
theorem plIn_first {b : Int} {p : Pl} {r : List (Int × Pl)} {t : Int} (h : b ≤ t) (hr : ∀ q ∈ r, t < q.1) : plIn ((b, p) :: r) t = p := by
  unfold plIn
  have e : r.filter (fun q => decide (q.1 ≤ t)) = [] := by
    rw [List.filter_eq_nil_iff]
    intro q hq
    have := hr q hq
    simp; omega
  rw [List.filter_cons_of_pos (by simpa using h), e]
  rfl
theorem endR_spec (h T : Int) : ∀ (ps : List (Int × Pl)) (b : Int) (p : Pl), ((b, p) :: ps).Pairwise (fun x y => x.1 < y.1) → (∀ q ∈ (b, p) :: ps, Bnd q.2) → (holds (endR h ((b, p) :: ps)) T = true ↔ ∀ t, h + 1 ≤ t → b ≤ t → t ≤ T → ¬ sw (plIn ((b, p) :: ps) t) t)
  | [], b, p, hp, hb => by
    have hbp := hb (b, p) List.mem_cons_self
    unfold endR
    cases e : nextSw p (if h + 1 > b then h + 1 else b) with
    | none =>
      have := nextSw_none e
      subst this
      refine ⟨fun _ t h1 h2 h3 hs => ?_, fun _ => rfl⟩
      rw [plIn_first h2 (by simp)] at hs
      obtain ⟨q, hq, _⟩ := hs
      cases hq
    | some f =>
      obtain ⟨k1, k2, k3⟩ := nextSw_some hbp e
      dsimp only
      refine ⟨fun hh t h1 h2 h3 hs => ?_, fun hh => ?_⟩
      · rw [plIn_first h2 (by simp)] at hs
        have hT : T < f := by simpa [holds] using hh
        exact k3 t (by split <;> omega) (by omega) hs
      · show decide (T < f) = true
        refine decide_eq_true (Classical.byContradiction fun hn => ?_)
        have hbf : b ≤ f ∧ h + 1 ≤ f := by split at k1 <;> omega
        refine hh f hbf.2 hbf.1 (by omega) ?_
        rw [plIn_first hbf.1 (by simp)]
        exact k2
  | (b', p') :: r, b, p, hp, hb => by
    have hbp := hb (b, p) List.mem_cons_self
    have hp2 := (List.pairwise_cons.mp hp).2
    have hlt := (List.pairwise_cons.mp hp).1
    have ih := endR_spec h T r b' p' hp2 fun q hq => hb q (List.mem_cons_of_mem _ hq)
    have hbb : b < b' := hlt (b', p') List.mem_cons_self
    have first : ∀ t, b ≤ t → t < b' → plIn ((b, p) :: (b', p') :: r) t = p := fun t h1 h2 => plIn_first h1 fun q hq => by
      rcases List.mem_cons.mp hq with rfl | hq
      · exact h2
      · have := (List.pairwise_cons.mp hp2).1 q hq
        exact Int.lt_trans h2 this
    have later : ∀ t, b' ≤ t → plIn ((b, p) :: (b', p') :: r) t = plIn ((b', p') :: r) t := fun t ht => plIn_skip ht
    -- when the piece has no switch of its own before the next
    have rest : (∀ t, h + 1 ≤ t → b ≤ t → t < b' → ¬ sw p t) → (holds (endR h ((b', p') :: r)) T = true ↔ ∀ t, h + 1 ≤ t → b ≤ t → t ≤ T → ¬ sw (plIn ((b, p) :: (b', p') :: r) t) t) := fun hn => by
      rw [ih]
      refine ⟨fun hh t h1 h2 h3 => ?_, fun hh t h1 h2 h3 => ?_⟩
      · by_cases hc : b' ≤ t
        · rw [later t hc]
          exact hh t h1 hc h3
        · rw [first t h2 (by omega)]
          exact hn t h1 h2 (by omega)
      · have := hh t h1 (by omega) h3
        rw [later t h2] at this
        exact this
    have e0 : endR h ((b, p) :: (b', p') :: r) = match nextSw p (if h + 1 > b then h + 1 else b) with
      | none => endR h ((b', p') :: r)
      | some f => if f < b' then some f else endR h ((b', p') :: r) := by
      rw [endR]
    rw [e0]
    cases e : nextSw p (if h + 1 > b then h + 1 else b) with
    | none =>
      have := nextSw_none e
      subst this
      refine rest fun t _ _ _ hs => ?_
      obtain ⟨q, hq, _⟩ := hs
      cases hq
    | some f =>
      obtain ⟨k1, k2, k3⟩ := nextSw_some hbp e
      have hbf : b ≤ f ∧ h + 1 ≤ f := by split at k1 <;> omega
      dsimp only
      by_cases hf : f < b'
      · rw [if_pos hf]
        refine ⟨fun hh t h1 h2 h3 hs => ?_, fun hh => ?_⟩
        · have hT : T < f := by simpa [holds] using hh
          rw [first t h2 (by omega)] at hs
          exact k3 t (by split <;> omega) (by omega) hs
        · show decide (T < f) = true
          refine decide_eq_true (Classical.byContradiction fun hn => ?_)
          refine hh f hbf.2 hbf.1 (by omega) ?_
          rw [first f hbf.1 hf]
          exact k2
      · rw [if_neg hf]
        exact rest fun t h1 h2 h3 => k3 t (by split <;> omega) (by omega)
/-! ### pieces of good logs -/
theorem pcs_sorted {rooms : Int} {ds : List Deed} (g : Good rooms ds) (room : Int) : (pcs ds room).Pairwise (fun x y => x.1 < y.1) ∧ (∀ q ∈ pcs ds room, 0 ≤ q.1 ∧ q.1 ≤ nowOf ds ∧ Bnd q.2) ∧ ∃ p r, pcs ds room = (0, p) :: r := by
  induction g with
  | nil => exact ⟨by simp [pcs], by simp [pcs, nowOf, Bnd], ⟨[], [], rfl⟩⟩
  | snoc g ok nr ih =>
    rename_i ds d
    obtain ⟨h1, h2, p0, r0, h3⟩ := ih
    have hn := g.now
    have hok := Deed.ok_hour ok
    rw [pcs_snoc]
    have other : pcsF room (pcs ds room) d = pcs ds room → (pcsF room (pcs ds room) d).Pairwise (fun x y => x.1 < y.1) ∧ (∀ q ∈ pcsF room (pcs ds room) d, 0 ≤ q.1 ∧ q.1 ≤ nowOf (ds ++ [d]) ∧ Bnd q.2) ∧ ∃ p r, pcsF room (pcs ds room) d = (0, p) :: r := fun e => by
      rw [e, nowOf_snoc]
      exact ⟨h1, fun q hq => by have := h2 q hq; exact ⟨this.1, by omega, this.2.2⟩, p0, r0, h3⟩
    cases d with
    | plan r p h =>
      by_cases hr : r = room
      · have hh : nowOf ds ≤ h := hok.1
        have hB : Bnd p := ok.2.1.2.2
        rw [nowOf_snoc]
        show _ ∧ (∀ q ∈ pcsF room (pcs ds room) (.plan r p h), 0 ≤ q.1 ∧ q.1 ≤ h ∧ Bnd q.2) ∧ _
        by_cases hl : (pcs ds room).getLast?.map (·.1) = some h
        · have e1 : pcsF room (pcs ds room) (.plan r p h) = (pcs ds room).dropLast ++ [(h, p)] := by simp only [pcsF, hr, if_true, hl]
          rw [e1]
          obtain ⟨bs, b, e⟩ : ∃ bs b, pcs ds room = bs ++ [b] := by
            rcases List.eq_nil_or_concat (pcs ds room) with e | ⟨bs, b, e⟩
            · exact absurd e (pcs_ne ds room)
            · exact ⟨bs, b, by rw [e, List.concat_eq_append]⟩
          rw [e] at h1 h2 h3 hl ⊢
          rw [List.getLast?_concat] at hl
          simp only [Option.map_some, Option.some.injEq] at hl
          rw [List.dropLast_concat]
          rw [List.pairwise_append] at h1 ⊢
          refine ⟨⟨h1.1, by simp, fun x hx y hy => ?_⟩, fun q hq => ?_, ?_⟩
          · simp at hy
            subst hy
            have := h1.2.2 x hx b (by simp)
            show x.1 < h
            omega
          · rcases List.mem_append.mp hq with hq | hq
            · have := h2 q (List.mem_append_left _ hq)
              exact ⟨this.1, by omega, this.2.2⟩
            · simp at hq
              subst hq
              exact ⟨by show 0 ≤ h; omega, Int.le_refl _, hB⟩
          · cases bs with
            | nil =>
              simp at h3
              have hb0 := h3.1
              refine ⟨p, [], ?_⟩
              have : b.1 = 0 := by rw [hb0]
              simp; omega
            | cons c cs =>
              simp at h3
              exact ⟨p0, cs ++ [(h, p)], by simp [h3.1]⟩
        · have e1 : pcsF room (pcs ds room) (.plan r p h) = pcs ds room ++ [(h, p)] := by simp only [pcsF, hr, if_true, if_neg hl]
          rw [e1]
          obtain ⟨bs, b, e⟩ : ∃ bs b, pcs ds room = bs ++ [b] := by
            rcases List.eq_nil_or_concat (pcs ds room) with e | ⟨bs, b, e⟩
            · exact absurd e (pcs_ne ds room)
            · exact ⟨bs, b, by rw [e, List.concat_eq_append]⟩
          have hbl : b.1 < h := by
            rw [e, List.getLast?_concat] at hl
            simp only [Option.map_some, Option.some.injEq] at hl
            have := (h2 b (by rw [e]; simp)).2.1
            omega
          refine ⟨?_, fun q hq => ?_, ?_⟩
          · rw [List.pairwise_append]
            refine ⟨h1, by simp, fun x hx y hy => ?_⟩
            simp at hy
            subst hy
            show x.1 < h
            rw [e] at hx h1
            rcases List.mem_append.mp hx with hx | hx
            · have := (List.pairwise_append.mp h1).2.2 x hx b (by simp)
              omega
            · simp at hx
              subst hx
              exact hbl
          · rcases List.mem_append.mp hq with hq | hq
            · have := h2 q hq
              exact ⟨this.1, by omega, this.2.2⟩
            · simp at hq
              subst hq
              exact ⟨by show 0 ≤ h; omega, Int.le_refl _, hB⟩
          · exact ⟨p0, r0 ++ [(h, p)], by rw [h3]; rfl⟩
      · exact other (by simp only [pcsF, if_neg hr])
    | _ => exact other rfl
theorem good_le {rooms : Int} {ds : List Deed} (g : Good rooms ds) : ∀ d ∈ ds, 0 ≤ d.hour ∧ d.hour ≤ nowOf ds := by
  induction g with
  | nil => simp
  | snoc g ok nr ih =>
    rename_i ds d
    have hok := Deed.ok_hour ok
    have hn := g.now
    intro x hx
    rw [nowOf_snoc]
    rcases List.mem_append.mp hx with hx | hx
    · have := ih x hx
      omega
    · simp at hx
      subst hx
      omega
/-- the plan that a room has at an hour -/
def planOn (ds : List Deed) (room t : Int) : Pl := lastPl (upTo ds t) room
theorem upTo_all {ds : List Deed} {t : Int} (h : ∀ d ∈ ds, d.hour ≤ t) : upTo ds t = ds := List.filter_eq_self.mpr fun d hd => decide_eq_true (h d hd)
theorem pcs_filter {rooms : Int} {ds : List Deed} (g : Good rooms ds) (room t : Int) (ht : 0 ≤ t) : (pcs ds room).filter (fun q => decide (q.1 ≤ t)) = pcs (upTo ds t) room := by
  induction g with
  | nil => simp [pcs, upTo, ht]
  | snoc g ok nr ih =>
    rename_i ds d
    have hok := Deed.ok_hour ok
    have hle := good_le g
    by_cases hd : d.hour ≤ t
    · have e : upTo (ds ++ [d]) t = ds ++ [d] := upTo_all fun x hx => by
        rcases List.mem_append.mp hx with hx | hx
        · have := hle x hx; omega
        · simp at hx; subst hx; exact hd
      rw [e]
      refine List.filter_eq_self.mpr fun q hq => decide_eq_true ?_
      have := ((pcs_sorted (.snoc g ok nr) room).2.1 q hq).2.1
      rw [nowOf_snoc] at this
      omega
    · have e : upTo (ds ++ [d]) t = upTo ds t := by
        unfold upTo
        rw [List.filter_append, List.filter_cons_of_neg (by simpa using hd)]
        simp
      rw [e, ← ih, pcs_snoc]
      cases d with
      | plan r p h =>
        have hh : ¬ h ≤ t := hd
        by_cases hr : r = room
        · by_cases hl : (pcs ds room).getLast?.map (·.1) = some h
          · have e1 : pcsF room (pcs ds room) (.plan r p h) = (pcs ds room).dropLast ++ [(h, p)] := by simp only [pcsF, hr, if_true, hl]
            rw [e1]
            obtain ⟨bs, b, e2⟩ : ∃ bs b, pcs ds room = bs ++ [b] := by
              rcases List.eq_nil_or_concat (pcs ds room) with e | ⟨bs, b, e⟩
              · exact absurd e (pcs_ne ds room)
              · exact ⟨bs, b, by rw [e, List.concat_eq_append]⟩
            rw [e2] at hl ⊢
            rw [List.getLast?_concat] at hl
            simp only [Option.map_some, Option.some.injEq] at hl
            rw [List.dropLast_concat, List.filter_append, List.filter_append]
            have hb : ¬ b.1 ≤ t := by omega
            simp [hh, hb]
          · have e1 : pcsF room (pcs ds room) (.plan r p h) = pcs ds room ++ [(h, p)] := by simp only [pcsF, hr, if_true, if_neg hl]
            rw [e1, List.filter_append]
            simp [hh]
        · have e1 : pcsF room (pcs ds room) (.plan r p h) = pcs ds room := by simp only [pcsF, if_neg hr]
          rw [e1]
      | _ => rfl
theorem planOn_eq {rooms : Int} {ds : List Deed} (g : Good rooms ds) (room t : Int) (ht : 0 ≤ t) : planOn ds room t = plIn (pcs ds room) t := by
  unfold planOn plIn lastPl
  rw [pcs_filter g room t ht]
/-- the end of a turning until the next switch -/
theorem endNx_spec {rooms : Int} {ds : List Deed} (g : Good rooms ds) (room h T : Int) (hh : 0 ≤ h) : holds (endNx ds room h) T = true ↔ ∀ t, h < t → t ≤ T → ¬ sw (planOn ds room t) t := by
  obtain ⟨h1, h2, p, r, e⟩ := pcs_sorted g room
  have e2 : endNx ds room h = endR h ((0, p) :: r) := by
    unfold endNx
    rw [e]
    exact endR_eq h ((0, p) :: r) []
  rw [e] at h1 h2
  rw [e2, endR_spec h T r 0 p h1 fun q hq => (h2 q hq).2.2]
  refine ⟨fun k t a b => ?_, fun k t a b c => ?_⟩
  · rw [planOn_eq g room t (by omega), e]
    exact k t (by omega) (by omega) b
  · have := k t (by omega) c
    rw [planOn_eq g room t (by omega), e] at this
    exact this
end Pg
end
end

section
set_option Elab.async false
set_option linter.all false
set_option maxRecDepth 100000
set_option maxHeartbeats 1000000
/-! MoE: what the walk of the laws has at an hour. -/
noncomputable section
namespace Ws
open PySem
theorem findDown_congr {α : Type} {f g : Nat → Option α} : ∀ {n : Nat}, (∀ i, i < n → f i = g i) → findDown f n = findDown g n
  | 0, _ => rfl
  | n + 1, h => by
    unfold findDown
    rw [h n (Nat.lt_succ_self n), findDown_congr fun i hi => h i (Nat.lt_succ_of_lt hi)]
theorem findDown_succ {α : Type} (f : Nat → Option α) (n : Nat) : findDown f (n + 1) = match f n with
  | some a => some a
  | none => findDown f n := rfl
theorem findDown_some {α : Type} {f : Nat → Option α} {a : α} : ∀ {n : Nat}, findDown f n = some a → ∃ i, i < n ∧ f i = some a
  | 0, h => by cases h
  | n + 1, h => by
    unfold findDown at h
    cases e : f n with
    | some b =>
      rw [e] at h
      cases h
      exact ⟨n, Nat.lt_succ_self n, e⟩
    | none =>
      rw [e] at h
      obtain ⟨i, h1, h2⟩ := findDown_some h
      exact ⟨i, Nat.lt_succ_of_lt h1, h2⟩
end Ws
namespace Pg
open PySem Ws
abbrev Tn := Nat × Int × Un × Int
abbrev Aw := Nat × Int × Option Int × Int
def tnF (ds : List Deed) (room : Int) (i : Nat) : Option (Option Tn) := match ds[i]? with
  | some (.back r _) => if r = room then some none else none
  | some (.turn r v u h) => if r = room then some (some (i, v, u, h)) else none
  | _ => none
def tnOf (ds : List Deed) (room : Int) : Option Tn := (findDown (tnF ds room) ds.length).getD none
def awG (ds : List Deed) (i : Nat) : Option (Option Aw) := match ds[i]? with
  | some (.home _) => some none
  | some (.away b e v _) => some (some (i, b, e, v))
  | _ => none
def awOf (ds : List Deed) : Option Aw := (findDown (awG ds) ds.length).getD none
theorem turnAt_tn (ds : List Deed) (room hour : Int) : turnAt ds room hour = (tnOf ds room).bind fun x => if holds (unEnd ds room x.2.2.1 x.2.2.2) hour = true then some (x.1, x.2.1) else none := by
  unfold turnAt tnOf
  have e : findDown (turnF ds room hour) ds.length = (findDown (tnF ds room) ds.length).map fun o => o.bind fun x => if holds (unEnd ds room x.2.2.1 x.2.2.2) hour = true then some (x.1, x.2.1) else none := by
    rw [← findDown_map]
    refine findDown_congr fun i _ => ?_
    unfold turnF tnF
    cases ds[i]? with
    | none => rfl
    | some d =>
      cases d with
      | back r h => dsimp only; split <;> rfl
      | turn r v u h => dsimp only; split <;> rfl
      | _ => rfl
  rw [e]
  cases findDown (tnF ds room) ds.length <;> rfl
theorem awayAt_aw (ds : List Deed) (hour : Int) : awayAt ds hour = (awOf ds).bind fun x => if x.2.1 ≤ hour ∧ holds x.2.2.1 hour = true then some (x.1, x.2.2.2) else none := by
  unfold awayAt awOf
  have e : findDown (awayF ds hour) ds.length = (findDown (awG ds) ds.length).map fun o => o.bind fun x => if x.2.1 ≤ hour ∧ holds x.2.2.1 hour = true then some (x.1, x.2.2.2) else none := by
    rw [← findDown_map]
    refine findDown_congr fun i _ => ?_
    unfold awayF awG
    cases ds[i]? with
    | none => rfl
    | some d => cases d <;> rfl
  rw [e]
  cases findDown (awG ds) ds.length <;> rfl
def tn1 (room : Int) (n : Nat) : Deed → Option (Option Tn)
  | .back r _ => if r = room then some none else none
  | .turn r v u h => if r = room then some (some (n, v, u, h)) else none
  | _ => none
def aw1 (n : Nat) : Deed → Option (Option Aw)
  | .home _ => some none
  | .away b e v _ => some (some (n, b, e, v))
  | _ => none
theorem tnOf_snoc (ds : List Deed) (d : Deed) (room : Int) : tnOf (ds ++ [d]) room = match d with
    | .back r _ => if r = room then none else tnOf ds room
    | .turn r v u h => if r = room then some (ds.length, v, u, h) else tnOf ds room
    | _ => tnOf ds room := by
  have e : findDown (tnF (ds ++ [d]) room) ds.length = findDown (tnF ds room) ds.length := findDown_congr fun i hi => by
    unfold tnF
    rw [List.getElem?_append_left hi]
  have e2 : (ds ++ [d])[ds.length]? = some d := by simp
  have e4 : tnF (ds ++ [d]) room ds.length = tn1 room ds.length d := by
    unfold tnF
    rw [e2]
    cases d <;> rfl
  have e5 : tnOf ds room = (findDown (tnF ds room) ds.length).getD none := rfl
  have e6 : tnOf (ds ++ [d]) room = (findDown (tnF (ds ++ [d]) room) (ds.length + 1)).getD none := by
    show (findDown _ (ds ++ [d]).length).getD none = _
    rw [List.length_append]; rfl
  rw [e6, findDown_succ, e, e4, e5]
  clear e4 e e2 e5 e6
  generalize findDown (tnF ds room) ds.length = F
  cases d with
  | back r h => by_cases hr : r = room <;> simp [hr, tn1]
  | turn r v u h => by_cases hr : r = room <;> simp [hr, tn1]
  | _ => rfl
theorem awOf_snoc (ds : List Deed) (d : Deed) : awOf (ds ++ [d]) = match d with
    | .home _ => none
    | .away b e v _ => some (ds.length, b, e, v)
    | _ => awOf ds := by
  have e : findDown (awG (ds ++ [d])) ds.length = findDown (awG ds) ds.length := findDown_congr fun i hi => by
    unfold awG
    rw [List.getElem?_append_left hi]
  have e2 : (ds ++ [d])[ds.length]? = some d := by simp
  have e4 : awG (ds ++ [d]) ds.length = aw1 ds.length d := by
    unfold awG
    rw [e2]
    cases d <;> rfl
  have e5 : awOf ds = (findDown (awG ds) ds.length).getD none := rfl
  have e6 : awOf (ds ++ [d]) = (findDown (awG (ds ++ [d])) (ds.length + 1)).getD none := by
    show (findDown _ (ds ++ [d]).length).getD none = _
    rw [List.length_append]; rfl
  rw [e6, findDown_succ, e, e4, e5]
  clear e4 e e2 e5 e6
  generalize findDown (awG ds) ds.length = F
  cases d <;> rfl
theorem lastPl_snoc (ds : List Deed) (d : Deed) (room : Int) : lastPl (ds ++ [d]) room = match d with
    | .plan r p _ => if r = room then p else lastPl ds room
    | _ => lastPl ds room := by
  unfold lastPl
  rw [pcs_snoc]
  cases d with
  | plan r p h =>
    unfold pcsF
    dsimp only
    split
    · rw [List.getLast?_concat]; rfl
    · rfl
  | _ => rfl
theorem tnOf_some {ds : List Deed} {room : Int} {x : Tn} (h : tnOf ds room = some x) : .turn room x.2.1 x.2.2.1 x.2.2.2 ∈ ds := by
  unfold tnOf at h
  cases e : findDown (tnF ds room) ds.length with
  | none => rw [e] at h; cases h
  | some o =>
    rw [e] at h
    have h' : o = some x := h
    subst h'
    obtain ⟨i, hi, hf⟩ := findDown_some e
    unfold tnF at hf
    have hd : ds[i]? = some ds[i] := List.getElem?_eq_getElem hi
    have hm := List.getElem_mem hi
    rw [hd] at hf
    generalize ds[i] = d at hf hm
    cases d with
    | back r h =>
      dsimp only at hf
      split at hf <;> cases hf
    | turn r v u h =>
      dsimp only at hf
      split at hf
      · rename_i hr
        cases hf
        rw [← hr]; exact hm
      · cases hf
    | _ => cases hf
/-- a turning is over at an hour -/
def over (ds : List Deed) (T : Int) (room : Int) (x : Tn) : Prop := match x.2.2.1 with
  | .till e => e ≤ T
  | .hold => False
  | .next => ∃ t, x.2.2.2 < t ∧ t ≤ T ∧ sw (planOn ds room t) t
open Classical in
def tuAt (ds : List Deed) (T room : Int) : Option Tn := match tnOf ds room with
  | none => none
  | some x => if over ds T room x then none else some x
def overNow (p : Pl) (t : Int) (x : Tn) : Prop := match x.2.2.1 with
  | .till e => e ≤ t
  | .hold => False
  | .next => x.2.2.2 < t ∧ sw p t
open Classical in
theorem tuAt_tick {ds : List Deed} {t : Int} (h : ∀ d ∈ ds, d.hour ≤ t) (room : Int) : tuAt ds t room = match tuAt ds (t - 1) room with
    | none => none
    | some x => if overNow (lastPl ds room) t x then none else some x := by
  have ep : planOn ds room t = lastPl ds room := by unfold planOn; rw [upTo_all h]
  unfold tuAt
  cases tnOf ds room with
  | none => rfl
  | some x =>
    have key : over ds t room x ↔ over ds (t - 1) room x ∨ overNow (lastPl ds room) t x := by
      unfold over overNow
      cases x.2.2.1 with
      | till e => dsimp only; omega
      | hold => simp
      | next =>
        dsimp only
        refine ⟨fun ⟨t', a, b, c⟩ => ?_, fun hh => ?_⟩
        · by_cases e : t' = t
          · subst e
            rw [ep] at c
            exact .inr ⟨a, c⟩
          · exact .inl ⟨t', a, by omega, c⟩
        · rcases hh with ⟨t', a, b, c⟩ | ⟨a, c⟩
          · exact ⟨t', a, by omega, c⟩
          · exact ⟨t, a, Int.le_refl _, by rw [ep]; exact c⟩
    dsimp only
    by_cases h1 : over ds (t - 1) room x
    · rw [if_pos (key.mpr (.inl h1)), if_pos h1]
    · rw [if_neg h1]
      dsimp only
      by_cases h2 : overNow (lastPl ds room) t x
      · rw [if_pos (key.mpr (.inr h2)), if_pos h2]
      · rw [if_neg h2, if_neg fun z => (key.mp z).elim h1 h2]
theorem upTo_snoc_lt {ds : List Deed} {d : Deed} {t : Int} (h : t < d.hour) : upTo (ds ++ [d]) t = upTo ds t := by
  unfold upTo
  rw [List.filter_append, List.filter_cons_of_neg (by simp; omega)]
  simp
theorem over_snoc {ds : List Deed} {d : Deed} {T : Int} (h : T < d.hour) (room : Int) (x : Tn) : over (ds ++ [d]) T room x ↔ over ds T room x := by
  unfold over
  cases x.2.2.1 with
  | till e => exact Iff.rfl
  | hold => exact Iff.rfl
  | next =>
    dsimp only
    have : ∀ t, t ≤ T → planOn (ds ++ [d]) room t = planOn ds room t := fun t ht => by
      unfold planOn
      rw [upTo_snoc_lt (by omega)]
    refine ⟨fun ⟨t, a, b, c⟩ => ⟨t, a, b, ?_⟩, fun ⟨t, a, b, c⟩ => ⟨t, a, b, ?_⟩⟩
    · rw [this t b] at c; exact c
    · rw [this t b]; exact c
open Classical in
theorem tuAt_take {ds : List Deed} {d : Deed} {rooms T : Int} (hT : d.hour = T + 1) (ok : d.ok rooms (nowOf ds)) (room : Int) : tuAt (ds ++ [d]) T room = match d with
    | .back r _ => if r = room then none else tuAt ds T room
    | .turn r v u h => if r = room then some (ds.length, v, u, h) else tuAt ds T room
    | _ => tuAt ds T room := by
  have keep : tnOf (ds ++ [d]) room = tnOf ds room → tuAt (ds ++ [d]) T room = tuAt ds T room := fun e => by
    unfold tuAt
    rw [e]
    cases tnOf ds room with
    | none => rfl
    | some x =>
      have k := over_snoc (ds := ds) (d := d) (T := T) (by omega) room x
      dsimp only
      by_cases h1 : over ds T room x
      · rw [if_pos h1, if_pos (k.mpr h1)]
      · rw [if_neg h1, if_neg fun z => h1 (k.mp z)]
  have sn := tnOf_snoc ds d room
  cases d with
  | back r h =>
    dsimp only at sn ⊢
    by_cases hr : r = room
    · rw [if_pos hr] at sn ⊢
      unfold tuAt
      rw [sn]
    · rw [if_neg hr] at sn ⊢
      exact keep sn
  | turn r v u h =>
    dsimp only at sn ⊢
    by_cases hr : r = room
    · rw [if_pos hr] at sn ⊢
      unfold tuAt
      rw [sn]
      dsimp only
      refine if_neg fun ho => ?_
      have hh : h = T + 1 := hT
      have ok3 := ok.2.2.1
      unfold over at ho
      cases u with
      | till e =>
        dsimp only at ho ok3
        omega
      | hold => exact ho
      | next =>
        obtain ⟨t, a, b, _⟩ := ho
        dsimp only at a
        omega
    · rw [if_neg hr] at sn ⊢
      exact keep sn
  | _ => exact keep sn
theorem turnAt_tu {rooms : Int} {ds : List Deed} (g : Good rooms ds) (room t : Int) : turnAt ds room t = (tuAt ds t room).map fun x => (x.1, x.2.1) := by
  rw [turnAt_tn]
  unfold tuAt
  cases e : tnOf ds room with
  | none => rfl
  | some x =>
    have hm := tnOf_some e
    have hh := (good_le g _ hm).1
    have hx : 0 ≤ x.2.2.2 := hh
    have key : holds (unEnd ds room x.2.2.1 x.2.2.2) t = true ↔ ¬ over ds t room x := by
      unfold unEnd over
      cases x.2.2.1 with
      | till e => simp [holds]
      | hold => simp [holds]
      | next =>
        dsimp only
        rw [endNx_spec g room x.2.2.2 t hx]
        refine ⟨fun k ⟨t', a, b, c⟩ => k t' a b c, fun k t' a b c => k ⟨t', a, b, c⟩⟩
    show (if holds (unEnd ds room x.2.2.1 x.2.2.2) t = true then some (x.1, x.2.1) else none) = _
    dsimp only
    by_cases h1 : over ds t room x
    · rw [if_pos h1, if_neg fun z => (key.mp z) h1]; rfl
    · rw [if_neg h1, if_pos (key.mpr h1)]; rfl
end Pg
end
end

section
set_option Elab.async false
set_option linter.all false
set_option maxRecDepth 100000
set_option maxHeartbeats 1000000
/-! MoF: runs of the laws' walk. -/
noncomputable section
namespace Ws
open PySem
theorem to_setIx {cl : Call} {o i e : E} {r : Ss} {env : Env} {st st1 st2 st3 st4 : AS} {v x y : D} {Q : RS → Prop} (h1 : evE cl e env st = .ok v st1) (h2 : evE cl o env st1 = .ok x st2) (h3 : evE cl i env st2 = .ok y st3) (h4 : setD v x y env st3 = .next env st4) (k : Wp (exSs cl r env st4) Q) : Wp (exSs cl (.cons (.setIx o i e) r) env st) Q := by
  unfold Wp at *
  rw [exSs_cons, exS, h1, stm_ok, h2, stm_ok, h3, stm_ok, h4]
  exact k
end Ws
namespace Pg
open PySem Ws
structure HWk (P : Tbl) : Prop extends HSh P, HLg P where
  plan_shows : P 113 = some f_law_plan_shows
  new : P 114 = some f_law_new
  take : P 115 = some f_law_take
  tick : P 116 = some f_law_tick
  shows : P 117 = some f_law_shows_2
  hours : P 118 = some f_law_hours
  told : P 119 = some f_law_told_3
def tnD : Option Tn → D
  | none => .non
  | some x => .tup [.int (x.1 : Nat), .int x.2.1, uD x.2.2.1, .int x.2.2.2]
def awD : Option Aw → D
  | none => .non
  | some x => .tup [.int (x.1 : Nat), .int x.2.1, oD x.2.2.1, .int x.2.2.2]
@[simp] theorem rl_tnD (o : Option Tn) : (tnD o).refless = true := by cases o <;> simp [tnD]
@[simp] theorem rl_awD (o : Option Aw) : (awD o).refless = true := by cases o <;> simp [awD]
def wkO (a b c : Nat) (aw : Option Aw) : O := .dic [(.inr "plans", .ref a), (.inr "turns", .ref b), (.inr "follows", .ref c), (.inr "away", awD aw)] false
def tab (n : Nat) (f : Nat → D) : List D := (List.range n).map f
theorem tab_len (n : Nat) (f : Nat → D) : (tab n f).length = n := by simp [tab]
theorem tab_set (n : Nat) (f : Nat → D) (r : Nat) (v : D) : (tab n f).set r v = tab n fun i => if i = r then v else f i := by
  unfold tab
  apply List.ext_getElem
  · simp
  · intro i h1 h2
    simp [List.getElem_set]
    by_cases e : r = i
    · subst e; simp
    · have : ¬ i = r := fun z => e z.symm
      simp [e, this]
theorem tab_at {n r : Nat} (f : Nat → D) (h : r < n) : atI (tab n f) ((r : Nat) : Int) = some (f r) := by
  rw [atI_nat (by rw [tab_len]; exact h)]
  simp [tab]
theorem tab_rl (n : Nat) {f : Nat → D} (h : ∀ i, (f i).refless = true) : reflessAll (tab n f) = true := reflAll_map h _
theorem ixN_nat {n r : Nat} (h : r < n) : ixN n ((r : Nat) : Int) = some r := by
  unfold ixN
  rw [if_pos (by omega), if_pos (by omega)]
  rfl
structure WkAt (st : AS) (w a b c n : Nat) (pl : Nat → Pl) (tu : Nat → Option Tn) (fo : Nat → Option (Int × Int)) (aw : Option Aw) : Prop where
  at_ : st[w]? = some (wkO a b c aw)
  pa : st[a]? = some (.lst (tab n fun i => pD (pl i)))
  ta : st[b]? = some (.lst (tab n fun i => tnD (tu i)))
  fa : st[c]? = some (.lst (tab n fun i => foD (fo i)))
  ab : a ≠ b
  ac : a ≠ c
  bc : b ≠ c
section
variable {st : AS} {w a b c n : Nat} {pl : Nat → Pl} {tu : Nat → Option Tn} {fo : Nat → Option (Int × Int)} {aw : Option Aw}
theorem WkAt.kP (h : WkAt st w a b c n pl tu fo aw) : ixK st (.ref w) (.str "plans") = some (.ref a) := by
  unfold ixK; simp only [h.at_, wkO, keyD]; rfl
theorem WkAt.kT (h : WkAt st w a b c n pl tu fo aw) : ixK st (.ref w) (.str "turns") = some (.ref b) := by
  unfold ixK; simp only [h.at_, wkO, keyD]; rfl
theorem WkAt.kF (h : WkAt st w a b c n pl tu fo aw) : ixK st (.ref w) (.str "follows") = some (.ref c) := by
  unfold ixK; simp only [h.at_, wkO, keyD]; rfl
theorem WkAt.kA (h : WkAt st w a b c n pl tu fo aw) : ixK st (.ref w) (.str "away") = some (awD aw) := by
  unfold ixK; simp only [h.at_, wkO, keyD]; rfl
theorem WkAt.wa (h : WkAt st w a b c n pl tu fo aw) : w ≠ a ∧ w ≠ b ∧ w ≠ c := by
  have h1 := h.at_
  refine ⟨fun e => ?_, fun e => ?_, fun e => ?_⟩
  · rw [e, h.pa] at h1; cases h1
  · rw [e, h.ta] at h1; cases h1
  · rw [e, h.fa] at h1; cases h1
theorem WkAt.lt (h : WkAt st w a b c n pl tu fo aw) : w < st.length ∧ a < st.length ∧ b < st.length ∧ c < st.length :=
  ⟨(List.getElem?_eq_some_iff.mp h.at_).1, (List.getElem?_eq_some_iff.mp h.pa).1, (List.getElem?_eq_some_iff.mp h.ta).1, (List.getElem?_eq_some_iff.mp h.fa).1⟩
theorem WkAt.setP (h : WkAt st w a b c n pl tu fo aw) (pl' : Nat → Pl) : WkAt (st.set a (.lst (tab n fun i => pD (pl' i)))) w a b c n pl' tu fo aw :=
  ⟨by rw [List.getElem?_set_ne h.wa.1.symm]; exact h.at_, List.getElem?_set_self h.lt.2.1, by rw [List.getElem?_set_ne h.ab]; exact h.ta, by rw [List.getElem?_set_ne h.ac]; exact h.fa, h.ab, h.ac, h.bc⟩
theorem WkAt.setT (h : WkAt st w a b c n pl tu fo aw) (tu' : Nat → Option Tn) : WkAt (st.set b (.lst (tab n fun i => tnD (tu' i)))) w a b c n pl tu' fo aw :=
  ⟨by rw [List.getElem?_set_ne h.wa.2.1.symm]; exact h.at_, by rw [List.getElem?_set_ne h.ab.symm]; exact h.pa, List.getElem?_set_self h.lt.2.2.1, by rw [List.getElem?_set_ne h.bc]; exact h.fa, h.ab, h.ac, h.bc⟩
theorem WkAt.setF (h : WkAt st w a b c n pl tu fo aw) (fo' : Nat → Option (Int × Int)) : WkAt (st.set c (.lst (tab n fun i => foD (fo' i)))) w a b c n pl tu fo' aw :=
  ⟨by rw [List.getElem?_set_ne h.wa.2.2.symm]; exact h.at_, by rw [List.getElem?_set_ne h.ac.symm]; exact h.pa, by rw [List.getElem?_set_ne h.bc.symm]; exact h.ta, List.getElem?_set_self h.lt.2.2.2, h.ab, h.ac, h.bc⟩
theorem WkAt.setA (h : WkAt st w a b c n pl tu fo aw) (aw' : Option Aw) : WkAt (st.set w (wkO a b c aw')) w a b c n pl tu fo aw' :=
  ⟨List.getElem?_set_self h.lt.1, by rw [List.getElem?_set_ne h.wa.1]; exact h.pa, by rw [List.getElem?_set_ne h.wa.2.1]; exact h.ta, by rw [List.getElem?_set_ne h.wa.2.2]; exact h.fa, h.ab, h.ac, h.bc⟩
theorem WkAt.to {st' : AS} (h : WkAt st w a b c n pl tu fo aw) (h1 : st'[w]? = st[w]?) (h2 : st'[a]? = st[a]?) (h3 : st'[b]? = st[b]?) (h4 : st'[c]? = st[c]?) : WkAt st' w a b c n pl tu fo aw :=
  ⟨by rw [h1]; exact h.at_, by rw [h2]; exact h.pa, by rw [h3]; exact h.ta, by rw [h4]; exact h.fa, h.ab, h.ac, h.bc⟩
theorem WkAt.app (h : WkAt st w a b c n pl tu fo aw) (gs : AS) : WkAt (st ++ gs) w a b c n pl tu fo aw :=
  h.to (List.getElem?_append_left h.lt.1) (List.getElem?_append_left h.lt.2.1) (List.getElem?_append_left h.lt.2.2.1) (List.getElem?_append_left h.lt.2.2.2)
end
/-- all but the walk's own objects are as they were -/
structure SameW (w a b c : Nat) (st st' : AS) : Prop where
  len : st'.length = st.length
  at_ : ∀ j, j ≠ w → j ≠ a → j ≠ b → j ≠ c → st'[j]? = st[j]?
theorem SameW.set {w a b c : Nat} (st : AS) {k : Nat} (o : O) (h : k = w ∨ k = a ∨ k = b ∨ k = c) : SameW w a b c st (st.set k o) :=
  ⟨by rw [List.length_set], fun j h1 h2 h3 h4 => List.getElem?_set_ne (by rcases h with rfl | rfl | rfl | rfl <;> omega)⟩
theorem SameW.trans {w a b c : Nat} {x y z : AS} (h1 : SameW w a b c x y) (h2 : SameW w a b c y z) : SameW w a b c x z := ⟨h2.len.trans h1.len, fun j a1 a2 a3 a4 => (h2.at_ j a1 a2 a3 a4).trans (h1.at_ j a1 a2 a3 a4)⟩
def tkP (d : Deed) (pl : Nat → Pl) : Nat → Pl := match d with
  | .plan r p _ => fun j => if (j : Int) = r then p else pl j
  | _ => pl
def tkT (d : Deed) (i : Nat) (tu : Nat → Option Tn) : Nat → Option Tn := match d with
  | .turn r v u h => fun j => if (j : Int) = r then some (i, v, u, h) else tu j
  | .back r _ => fun j => if (j : Int) = r then none else tu j
  | _ => tu
def tkF (d : Deed) (fo : Nat → Option (Int × Int)) : Nat → Option (Int × Int) := match d with
  | .follow r o f _ => fun j => if (j : Int) = r then o.map (fun x => (x, f)) else fo j
  | _ => fo
def tkA (d : Deed) (i : Nat) (aw : Option Aw) : Option Aw := match d with
  | .away b e v _ => some (i, b, e, v)
  | .home _ => none
  | _ => aw
theorem gc_set {st : AS} {k : Nat} {o : O} (h : o.lowB st.length = true) : gcR st (.ok .non (st.set k o)) = .ok .non (st.set k o) := by
  have g : GcOk st (st.set k o) := fun i hi => by
    by_cases e : i = k
    · subst e
      exact .inr ⟨_, List.getElem?_set_self hi, h⟩
    · exact .inl (List.getElem?_set_ne (Ne.symm e))
  rw [gcR_cut g rfl]
  congr 1
  rw [List.take_of_length_le]
  rw [List.length_set]; exact Nat.le_refl _
section
variable {P : Tbl} (H : HWk P)
include H
variable {st : AS} {w a b c n : Nat} {pl : Nat → Pl} {tu : Nat → Option Tn} {fo : Nat → Option (Int × Int)} {aw : Option Aw}
theorem r_take {m : Nat} (hm : 1 ≤ m) (h : WkAt st w a b c n pl tu fo aw) {d : Deed} {now : Int} (hd : d.ok (n : Int) now) (i : Nat) : ∃ st', callF P m 115 [.ref w, dD d, .int (i : Nat)] st = .ok .non st' ∧ WkAt st' w a b c n (tkP d pl) (tkT d i tu) (tkF d fo) (tkA d i aw) ∧ SameW w a b c st st' := by
  obtain ⟨m, rfl⟩ := Nat.exists_eq_add_of_le' hm
  have lw := h.lt
  -- a list is written
  have wr : ∀ (k r : Nat) (f : Nat → D) (v : D) (env : Ws.Env), st[k]? = some (.lst (tab n f)) → r < n → setD v (.ref k) (.int (r : Nat)) env st = .next env (st.set k (.lst (tab n fun i => if i = r then v else f i))) := fun k r f v env hk hr => by
    unfold setD
    simp only [hk, tab_len, ixN_nat hr, tab_set]
  have wa : ∀ (aw' : Option Aw) (env : Ws.Env), setD (awD aw') (.ref w) (.str "away") env st = .next env (st.set w (wkO a b c aw')) := fun aw' env => by
    unfold setD
    simp only [h.at_, wkO, keyD]
    rfl
  have ext : ∀ (f g : Nat → D), (∀ j, f j = g j) → tab n f = tab n g := fun f g e => by rw [show f = g from funext e]
  cases d with
  | plan r p hh =>
    obtain ⟨r, rfl⟩ := Int.eq_ofNat_of_zero_le hd.1.1
    have hr : r < n := by have := hd.1.2; omega
    have et : tab n (fun j => if j = r then pD p else pD (pl j)) = tab n fun j => pD (tkP (.plan (r : Nat) p hh) pl j) := ext _ _ fun j => by
      unfold tkP
      dsimp only
      by_cases e : j = r
      · subst e; simp
      · have : ¬ (j : Int) = (r : Nat) := by omega
        simp [e, this]
    refine ⟨_, ?_, h.setP (tkP (.plan (r : Nat) p hh) pl), .set _ _ (by simp)⟩
    refine run_of H.take rfl ?_
    unfold f_law_take
    refine to_iteT (st' := st) (by simp [dD]) ?_
    have hw := wr a r _ (pD p) [some (.ref w), some (dD (.plan (r : Nat) p hh)), some (.int (i : Nat))] h.pa hr
    rw [et] at hw
    refine to_setIx (v := pD p) (x := .ref a) (y := .int (r : Nat)) (st1 := st) (st2 := st) (st3 := st) (by simp [dD]) (by simp [h.kP]) (by simp [dD]) hw (to_nilK (to_nil ?_))
    exact gc_set (reflessAll_low _ (tab_rl n fun i => rl_pD _))
  | turn r v u hh =>
    obtain ⟨r, rfl⟩ := Int.eq_ofNat_of_zero_le hd.1.1
    have hr : r < n := by have := hd.1.2; omega
    have et : tab n (fun j => if j = r then tnD (some (i, v, u, hh)) else tnD (tu j)) = tab n fun j => tnD (tkT (.turn (r : Nat) v u hh) i tu j) := ext _ _ fun j => by
      unfold tkT
      dsimp only
      by_cases e : j = r
      · subst e; simp
      · have : ¬ (j : Int) = (r : Nat) := by omega
        simp [e, this]
    refine ⟨_, ?_, h.setT (tkT (.turn (r : Nat) v u hh) i tu), .set _ _ (by simp)⟩
    refine run_of H.take rfl ?_
    unfold f_law_take
    refine to_iteF (st' := st) (by simp [dD]) ?_
    refine to_iteT (st' := st) (by simp [dD]) ?_
    have hw := wr b r _ (tnD (some (i, v, u, hh))) [some (.ref w), some (dD (.turn (r : Nat) v u hh)), some (.int (i : Nat))] h.ta hr
    rw [et] at hw
    refine to_setIx (v := tnD (some (i, v, u, hh))) (x := .ref b) (y := .int (r : Nat)) (st1 := st) (st2 := st) (st3 := st) (by simp [dD, tnD]) (by simp [h.kT]) (by simp [dD]) hw (to_nilK ?_)
    exact to_nilK (to_nil (gc_set (reflessAll_low _ (tab_rl n fun i => rl_tnD _))))
  | back r hh =>
    obtain ⟨r, rfl⟩ := Int.eq_ofNat_of_zero_le hd.1.1
    have hr : r < n := by have := hd.1.2; omega
    have et : tab n (fun j => if j = r then tnD none else tnD (tu j)) = tab n fun j => tnD (tkT (.back (r : Nat) hh) i tu j) := ext _ _ fun j => by
      unfold tkT
      dsimp only
      by_cases e : j = r
      · subst e; simp
      · have : ¬ (j : Int) = (r : Nat) := by omega
        simp [e, this]
    refine ⟨_, ?_, h.setT (tkT (.back (r : Nat) hh) i tu), .set _ _ (by simp)⟩
    refine run_of H.take rfl ?_
    unfold f_law_take
    refine to_iteF (st' := st) (by simp [dD]) ?_
    refine to_iteF (st' := st) (by simp [dD]) ?_
    refine to_iteT (st' := st) (by simp [dD]) ?_
    have hw := wr b r _ (tnD none) [some (.ref w), some (dD (.back (r : Nat) hh)), some (.int (i : Nat))] h.ta hr
    rw [et] at hw
    refine to_setIx (v := tnD none) (x := .ref b) (y := .int (r : Nat)) (st1 := st) (st2 := st) (st3 := st) (by simp [tnD]) (by simp [h.kT]) (by simp [dD]) hw (to_nilK ?_)
    exact to_nilK (to_nilK (to_nil (gc_set (reflessAll_low _ (tab_rl n fun i => rl_tnD _)))))
  | away b' e' v hh =>
    refine ⟨_, ?_, h.setA (some (i, b', e', v)), .set _ _ (by simp)⟩
    refine run_of H.take rfl ?_
    unfold f_law_take
    refine to_iteF (st' := st) (by simp [dD]) ?_
    refine to_iteF (st' := st) (by simp [dD]) ?_
    refine to_iteF (st' := st) (by simp [dD]) ?_
    refine to_iteT (st' := st) (by simp [dD]) ?_
    refine to_setIx (v := awD (some (i, b', e', v))) (x := .ref w) (y := .str "away") (st1 := st) (st2 := st) (st3 := st) (by simp [dD, awD]) (by simp) (by simp) (wa _ _) (to_nilK ?_)
    refine to_nilK (to_nilK (to_nilK (to_nil (gc_set ?_))))
    simp [wkO, O.lowB, lowAll, D.lowB, lw, refless_low _ (rl_awD _)]
  | home hh =>
    refine ⟨_, ?_, h.setA none, .set _ _ (by simp)⟩
    refine run_of H.take rfl ?_
    unfold f_law_take
    refine to_iteF (st' := st) (by simp [dD]) ?_
    refine to_iteF (st' := st) (by simp [dD]) ?_
    refine to_iteF (st' := st) (by simp [dD]) ?_
    refine to_iteF (st' := st) (by simp [dD]) ?_
    refine to_iteT (st' := st) (by simp [dD]) ?_
    refine to_setIx (v := awD none) (x := .ref w) (y := .str "away") (st1 := st) (st2 := st) (st3 := st) (by simp [dD, awD]) (by simp) (by simp) (wa _ _) (to_nilK ?_)
    refine to_nilK (to_nilK (to_nilK (to_nilK (to_nil (gc_set ?_)))))
    simp [wkO, O.lowB, lowAll, D.lowB, lw, refless_low _ (rl_awD _)]
  | follow r o f hh =>
    obtain ⟨r, rfl⟩ := Int.eq_ofNat_of_zero_le hd.1.1
    have hr : r < n := by have := hd.1.2; omega
    have et : ∀ x, x = o.map (fun y => (y, f)) → tab n (fun j => if j = r then foD x else foD (fo j)) = tab n fun j => foD (tkF (.follow (r : Nat) o f hh) fo j) := fun x hx => ext _ _ fun j => by
      subst hx
      unfold tkF
      dsimp only
      by_cases e : j = r
      · subst e; simp
      · have : ¬ (j : Int) = (r : Nat) := by omega
        simp [e, this]
    refine ⟨_, ?_, h.setF (tkF (.follow (r : Nat) o f hh) fo), .set _ _ (by simp)⟩
    refine run_of H.take rfl ?_
    unfold f_law_take
    refine to_iteF (st' := st) (by simp [dD]) ?_
    refine to_iteF (st' := st) (by simp [dD]) ?_
    refine to_iteF (st' := st) (by simp [dD]) ?_
    refine to_iteF (st' := st) (by simp [dD]) ?_
    refine to_iteF (st' := st) (by simp [dD]) ?_
    cases o with
    | none =>
      refine to_iteT (st' := st) (by simp [dD, oD]) ?_
      have hw := wr c r _ (foD none) [some (.ref w), some (dD (.follow (r : Nat) none f hh)), some (.int (i : Nat))] h.fa hr
      rw [et none rfl] at hw
      refine to_setIx (v := foD none) (x := .ref c) (y := .int (r : Nat)) (st1 := st) (st2 := st) (st3 := st) (by simp [foD]) (by simp [h.kF]) (by simp [dD]) hw (to_nilK ?_)
      exact to_nilK (to_nilK (to_nilK (to_nilK (to_nilK (to_nil (gc_set (reflessAll_low _ (tab_rl n fun i => rl_foD _))))))))
    | some o =>
      refine to_iteF (st' := st) (by simp [dD, oD]) ?_
      have hw := wr c r _ (foD (some (o, f))) [some (.ref w), some (dD (.follow (r : Nat) (some o) f hh)), some (.int (i : Nat))] h.fa hr
      rw [et (some (o, f)) rfl] at hw
      refine to_setIx (v := foD (some (o, f))) (x := .ref c) (y := .int (r : Nat)) (st1 := st) (st2 := st) (st3 := st) (by simp [foD, dD, oD]) (by simp [h.kF]) (by simp [dD]) hw (to_nilK ?_)
      exact to_nilK (to_nilK (to_nilK (to_nilK (to_nilK (to_nil (gc_set (reflessAll_low _ (tab_rl n fun i => rl_foD _))))))))
end
end Pg
end
end

section
set_option Elab.async false
set_option linter.all false
set_option maxRecDepth 100000
set_option maxHeartbeats 1000000
/-! MoG: a new walk, an hour more, what it shows. -/
noncomputable section
namespace Pg
open PySem Ws
open Classical in
def tickF (p : Pl) (t : Int) (o : Option Tn) : Option Tn := match o with
  | none => none
  | some x => if overNow p t x then none else some x
def awNow (aw : Option Aw) (hour : Int) : Option Aw := aw.bind fun x => if x.2.1 ≤ hour ∧ holds x.2.2.1 hour = true then some x else none
theorem awNow_at (ds : List Deed) (hour : Int) : awayAt ds hour = (awNow (awOf ds) hour).map fun x => (x.1, x.2.2.2) := by
  rw [awayAt_aw]
  unfold awNow
  cases awOf ds with
  | none => rfl
  | some x =>
    show (if x.2.1 ≤ hour ∧ holds x.2.2.1 hour = true then some (x.1, x.2.2.2) else none) = (if x.2.1 ≤ hour ∧ holds x.2.2.1 hour = true then some x else none).map _
    split <;> rfl
theorem any_sw (p : Pl) (t : Int) : (p.map fun q => q.1 == t % 168).any id = true ↔ sw p t := by
  unfold sw
  simp
@[simp] theorem isNon_tnD (o : Option Tn) : isNon (tnD o) = o.isNone := by cases o <;> rfl
@[simp] theorem isNon_awD (o : Option Aw) : isNon (awD o) = o.isNone := by cases o <;> rfl
section
variable {P : Tbl} (H : HWk P)
include H
theorem r_new {m : Nat} (hm : 1 ≤ m) {st : AS} {n : Nat} (hn : n ≤ 1000) : ∃ st', callF P m 114 [.int (n : Nat)] st = .ok (.ref st.length) st' ∧ WkAt st' st.length (st.length + 1) (st.length + 2) (st.length + 3) n (fun _ => []) (fun _ => none) (fun _ => none) none ∧ ∀ j, j < st.length → st'[j]? = st[j]? := by
  obtain ⟨m, rfl⟩ := Nat.exists_eq_add_of_le' hm
  let A : O := .lst (tab n fun _ => pD [])
  let B : O := .lst (tab n fun _ => tnD none)
  let C : O := .lst (tab n fun _ => foD none)
  refine ⟨st ++ [wkO (st.length + 1) (st.length + 2) (st.length + 3) none, A, B, C], ?_, ⟨by simp, ?_, ?_, ?_, by omega, by omega, by omega⟩, fun j hj => List.getElem?_append_left hj⟩
  rotate_left
  · rw [List.getElem?_append_right (by omega)]
    have : st.length + 1 - st.length = 1 := by omega
    rw [this]; rfl
  · rw [List.getElem?_append_right (by omega)]
    have : st.length + 2 - st.length = 2 := by omega
    rw [this]; rfl
  · rw [List.getElem?_append_right (by omega)]
    have : st.length + 3 - st.length = 3 := by omega
    rw [this]; rfl
  rw [callF_eq H.new m _ rfl]
  have hsm : small ((n : Nat) : Int) = true := small_ok (by omega) (by omega)
  -- one list
  have lc : ∀ (e : E) (d : D) (o1 : Option D) (s : AS), (∀ env s, evE (callF P m) e env s = .ok d s) → evE (callF P m) (.lc [("_law_room", 2)] e (.name 2) (.rng1 (.var 0)) .no) [some (.int (n : Nat)), o1, none] s = .ok (.ref s.length) (s ++ [.lst (tab n fun _ => d)]) := fun e d o1 s he => by
    have hsz : sized (rangeD 0 ((n : Nat) : Int).toNat) none s = .ok (rangeD 0 ((n : Nat) : Int).toNat, none) s := sized_rng (by omega)
    have := lcLoop_range (st := s) (w := none) (asg := fun d => Ws.assign (.name 2) d (wipeE [some (.int (n : Nat)), o1, none] [2])) (elt := fun env st => evE (callF P m) e env st) (watchOk_none s) (fun i => [some (.int (n : Nat)), o1, some (.int (0 + (i : Nat)))]) (fun _ => d) 0 ((n : Nat) : Int).toNat fun i hi => ⟨rfl, he _ _⟩
    simp only [evE, evSrc, evC, List.getElem?_cons_zero, bind_ok, hsm, if_true, hsz, List.map_cons, List.map_nil]
    rw [this]
    simp only [bind_ok, newL]
    rfl
  have key : Wp (exSs (callF P m) f_law_new.body (startE f_law_new.ns [.int (n : Nat)]) st) fun r => r = .ret (.ref st.length) (st ++ [wkO (st.length + 1) (st.length + 2) (st.length + 3) none, A, B, C]) := by
    unfold f_law_new
    have l1 := lc (.tup .nil) (pD []) (some (.ref st.length)) (st ++ [.dic [] false]) (fun _ _ => rfl)
    have l2 := lc (.lit .non) (tnD none) (some (.ref st.length)) (st ++ [.dic [(.inr "plans", .ref (st.length + 1))] false, A]) (fun _ _ => rfl)
    have l3 := lc (.lit .non) (foD none) (some (.ref st.length)) (st ++ [.dic [(.inr "plans", .ref (st.length + 1)), (.inr "turns", .ref (st.length + 2))] false, A, B]) (fun _ _ => rfl)
    have e1 : (st ++ [O.dic [] false]).length = st.length + 1 := by simp
    have e2 : (st ++ [O.dic [(.inr "plans", .ref (st.length + 1))] false, A]).length = st.length + 2 := by simp
    have e3 : (st ++ [O.dic [(.inr "plans", .ref (st.length + 1)), (.inr "turns", .ref (st.length + 2))] false, A, B]).length = st.length + 3 := by simp
    rw [e1] at l1
    rw [e2] at l2
    rw [e3] at l3
    have at0 : ∀ (o : O) (r : List O), (st ++ o :: r)[st.length]? = some o := fun o r => by simp
    have set0 : ∀ (o o' : O) (r : List O), (st ++ o :: r).set st.length o' = st ++ o' :: r := fun o o' r => by simp
    refine to_asg (d := .ref st.length) (st' := st ++ [.dic [] false]) rfl ?_
    refine to_setIx (v := .ref (st.length + 1)) (x := .ref st.length) (y := .str "plans") (st1 := st ++ [.dic [] false, A]) (st2 := st ++ [.dic [] false, A]) (st3 := st ++ [.dic [] false, A]) (st4 := st ++ [.dic [(.inr "plans", .ref (st.length + 1))] false, A]) (by refine Eq.trans l1 ?_; simp [A]) rfl rfl ?_ ?_
    · unfold setD
      simp only [at0, keyD, set0]
      rfl
    refine to_setIx (v := .ref (st.length + 2)) (x := .ref st.length) (y := .str "turns") (st1 := st ++ [.dic [(.inr "plans", .ref (st.length + 1))] false, A, B]) (st2 := st ++ [.dic [(.inr "plans", .ref (st.length + 1))] false, A, B]) (st3 := st ++ [.dic [(.inr "plans", .ref (st.length + 1))] false, A, B]) (st4 := st ++ [.dic [(.inr "plans", .ref (st.length + 1)), (.inr "turns", .ref (st.length + 2))] false, A, B]) (by refine Eq.trans l2 ?_; simp [B]) rfl rfl ?_ ?_
    · unfold setD
      simp only [at0, keyD, set0]
      rfl
    refine to_setIx (v := .ref (st.length + 3)) (x := .ref st.length) (y := .str "follows") (st1 := st ++ [.dic [(.inr "plans", .ref (st.length + 1)), (.inr "turns", .ref (st.length + 2))] false, A, B, C]) (st2 := st ++ [.dic [(.inr "plans", .ref (st.length + 1)), (.inr "turns", .ref (st.length + 2))] false, A, B, C]) (st3 := st ++ [.dic [(.inr "plans", .ref (st.length + 1)), (.inr "turns", .ref (st.length + 2))] false, A, B, C]) (st4 := st ++ [.dic [(.inr "plans", .ref (st.length + 1)), (.inr "turns", .ref (st.length + 2)), (.inr "follows", .ref (st.length + 3))] false, A, B, C]) (by refine Eq.trans l3 ?_; simp [C]) rfl rfl ?_ ?_
    · unfold setD
      simp only [at0, keyD, set0]
      rfl
    refine to_setIx (v := .non) (x := .ref st.length) (y := .str "away") (st1 := st ++ [.dic [(.inr "plans", .ref (st.length + 1)), (.inr "turns", .ref (st.length + 2)), (.inr "follows", .ref (st.length + 3))] false, A, B, C]) (st2 := st ++ [.dic [(.inr "plans", .ref (st.length + 1)), (.inr "turns", .ref (st.length + 2)), (.inr "follows", .ref (st.length + 3))] false, A, B, C]) (st3 := st ++ [.dic [(.inr "plans", .ref (st.length + 1)), (.inr "turns", .ref (st.length + 2)), (.inr "follows", .ref (st.length + 3))] false, A, B, C]) (st4 := st ++ [wkO (st.length + 1) (st.length + 2) (st.length + 3) none, A, B, C]) rfl rfl rfl ?_ ?_
    · unfold setD
      simp only [at0, keyD, set0]
      rfl
    exact to_ret (d := .ref st.length) rfl rfl
  unfold Wp at key
  rw [key, res_ret]
  unfold gcR
  dsimp only
  split
  · simp [D.refless, wkO, O.flat]
  · rfl
variable {st : AS} {w a b c n : Nat} {pl : Nat → Pl} {tu : Nat → Option Tn} {fo : Nat → Option (Int × Int)} {aw : Option Aw}
theorem r_tick {m : Nat} (hm : 1 ≤ m) (h : WkAt st w a b c n pl tu fo aw) (hn : n ≤ 1000) (t : Int) : ∃ st', callF P m 116 [.ref w, .int t] st = .ok .non st' ∧ WkAt st' w a b c n pl (fun j => tickF (pl j) t (tu j)) fo aw ∧ SameW w a b c st st' := by
  obtain ⟨m, rfl⟩ := Nat.exists_eq_add_of_le' hm
  have lw := h.lt
  suffices hw : Wp (exSs (callF P m) f_law_tick.body (startE f_law_tick.ns [.ref w, .int t]) st) fun r => ∃ s' e, r = .next e s' ∧ WkAt s' w a b c n pl (fun j => if j < n then tickF (pl j) t (tu j) else tu j) fo aw ∧ st.length ≤ s'.length ∧ ∀ j, j < st.length → j ≠ b → s'[j]? = st[j]? by
    obtain ⟨s', e, er, wk, hl, same⟩ := hw
    have g : GcOk st s' := fun i hi => by
      by_cases hib : i = b
      · subst hib
        exact .inr ⟨_, wk.ta, reflessAll_low _ (tab_rl n fun i => rl_tnD _)⟩
      · exact .inl (same i hi hib)
    refine ⟨s'.take st.length, ?_, ?_, ⟨by rw [List.length_take]; exact Nat.min_eq_left hl, fun j h1 h2 h3 h4 => ?_⟩⟩
    · rw [callF_eq H.tick m _ rfl, er, res_next]
      exact gcR_cut g rfl
    · have wk2 : WkAt (s'.take st.length) w a b c n pl (fun j => if j < n then tickF (pl j) t (tu j) else tu j) fo aw := wk.to (List.getElem?_take_of_lt lw.1) (List.getElem?_take_of_lt lw.2.1) (List.getElem?_take_of_lt lw.2.2.1) (List.getElem?_take_of_lt lw.2.2.2)
      refine ⟨wk2.at_, wk2.pa, ?_, wk2.fa, wk2.ab, wk2.ac, wk2.bc⟩
      rw [wk2.ta]
      congr 2
      unfold tab
      refine List.map_congr_left fun i hi => ?_
      simp [List.mem_range.mp hi]
    · by_cases hj : j < st.length
      · rw [List.getElem?_take_of_lt hj]; exact same j hj h3
      · rw [List.getElem?_eq_none (by rw [List.length_take]; omega), List.getElem?_eq_none (by omega)]
  unfold f_law_tick
  have hsm : small ((n : Nat) : Int) = true := small_ok (by omega) (by omega)
  have hlen : biD st .len [.ref a] = .ok (.int (n : Nat)) st := by rw [len_lst h.pa, tab_len]
  have hsz : sized (rangeD 0 ((n : Nat) : Int).toNat) none st = .ok (rangeD 0 ((n : Nat) : Int).toNat, none) st := sized_rng (by omega)
  refine to_for (xs := rangeD 0 ((n : Nat) : Int).toNat) (w := none) (st' := st) (by simp [h.kP, hlen, hsm]; simpa using hsz)
    (fun i env s => (∃ o2 o3 o4, env = [some (.ref w), some (.int t), o2, o3, o4, none]) ∧ WkAt s w a b c n pl (fun j => if j < i then tickF (pl j) t (tu j) else tu j) fo aw ∧ st.length ≤ s.length ∧ ∀ j, j < st.length → j ≠ b → s[j]? = st[j]?)
    ⟨⟨none, none, none, rfl⟩, by simpa using h, Nat.le_refl _, fun _ _ _ => rfl⟩ (fun _ _ s' _ => watchOk_none s') ?_ ?_
  · rintro i x env s hx ⟨⟨o2, o3, o4, rfl⟩, wk, hl, same⟩
    obtain ⟨rfl, hi⟩ := rangeD_get hx
    have hin : i < n := by omega
    have e0 : (0 : Int) + (i : Nat) = ((i : Nat) : Int) := by omega
    rw [e0]
    refine ⟨[some (.ref w), some (.int t), some (.int (i : Nat)), none, o4, none], rfl, ?_⟩
    have eti : ixD s (.ref b) (.int (i : Nat)) = some (tnD (tu i)) := by
      rw [ixD_lst wk.ta, tab_at _ hin]
      simp
    refine to_asg (d := tnD (tu i)) (st' := s) (by simp [wk.kT, eti]) ?_
    have next : ∀ (s2 : AS) (o' : Option Tn), o' = tickF (pl i) t (tu i) → WkAt s2 w a b c n pl (fun j => if j = i then o' else if j < i then tickF (pl j) t (tu j) else tu j) fo aw → WkAt s2 w a b c n pl (fun j => if j < i + 1 then tickF (pl j) t (tu j) else tu j) fo aw := fun s2 o' ho wk2 => by
      have e : (fun j => if j = i then o' else if j < i then tickF (pl j) t (tu j) else tu j) = fun j => if j < i + 1 then tickF (pl j) t (tu j) else tu j := by
        funext j
        by_cases e1 : j = i
        · subst e1
          rw [if_pos rfl, if_pos (Nat.lt_succ_self _), ho]
        · rw [if_neg e1]
          by_cases e2 : j < i
          · rw [if_pos e2, if_pos (by omega)]
          · rw [if_neg e2, if_neg (by omega)]
      rw [← e]; exact wk2
    have stay : ∀ s2, tu i = tickF (pl i) t (tu i) → WkAt s2 w a b c n pl (fun j => if j < i then tickF (pl j) t (tu j) else tu j) fo aw → WkAt s2 w a b c n pl (fun j => if j < i + 1 then tickF (pl j) t (tu j) else tu j) fo aw := fun s2 ho wk2 => by
      refine next s2 (tu i) ho ?_
      have e : (fun j => if j = i then tu i else if j < i then tickF (pl j) t (tu j) else tu j) = fun j => if j < i then tickF (pl j) t (tu j) else tu j := by
        funext j
        by_cases e1 : j = i
        · subst e1
          rw [if_pos rfl, if_neg (by omega)]
        · rw [if_neg e1]
      rw [e]; exact wk2
    cases eo : tu i with
    | none =>
      refine to_iteN (st' := s) (by simp [tnD]) (to_nil ?_)
      exact ⟨⟨_, _, _, rfl⟩, stay s (by rw [eo]; rfl) wk, hl, same⟩
    | some x =>
      refine to_iteT (st' := s) (by simp [tnD]) ?_
      -- the end of the step
      have fin : ∀ (B : Bool) (s2 : AS), (B = true ↔ overNow (pl i) t x) → WkAt s2 w a b c n pl (fun j => if j < i then tickF (pl j) t (tu j) else tu j) fo aw → st.length ≤ s2.length → (∀ j, j < st.length → j ≠ b → s2[j]? = st[j]?) →
          Wp (exSs (callF P m) (.cons (.ite (.of (.var 4)) (.cons (.setIx (.ixd (.var 0) (.lit (.str "turns"))) (.var 2) (.lit .non)) .nil) .nil) .nil) [some (.ref w), some (.int t), some (.int (i : Nat)), some (tnD (some x)), some (.bl B), none] s2) (fun r => ∃ s3, r = .next [some (.ref w), some (.int t), some (.int (i : Nat)), some (tnD (some x)), some (.bl B), none] s3 ∧ WkAt s3 w a b c n pl (fun j => if j < i + 1 then tickF (pl j) t (tu j) else tu j) fo aw ∧ st.length ≤ s3.length ∧ ∀ j, j < st.length → j ≠ b → s3[j]? = st[j]?) := fun B s2 hB wk2 hl2 same2 => by
        cases B with
        | true =>
          have ho : overNow (pl i) t x := hB.mp rfl
          have et : tickF (pl i) t (tu i) = none := by rw [eo]; unfold tickF; dsimp only; rw [if_pos ho]
          refine to_iteT (st' := s2) (by simp) ?_
          have e1 : (tab n fun j => tnD (if j < i then tickF (pl j) t (tu j) else tu j)).set i .non = tab n fun j => tnD (if j = i then none else if j < i then tickF (pl j) t (tu j) else tu j) := by
            rw [tab_set]
            congr 1
            funext j
            by_cases e : j = i
            · simp [e, tnD]
            · simp [e]
          have hw2 : ∀ env, setD .non (.ref b) (.int (i : Nat)) env s2 = .next env (s2.set b (.lst (tab n fun j => tnD (if j = i then none else if j < i then tickF (pl j) t (tu j) else tu j)))) := fun env => by
            unfold setD
            simp only [wk2.ta, tab_len, ixN_nat hin, e1]
          refine to_setIx (v := .non) (x := .ref b) (y := .int (i : Nat)) (st1 := s2) (st2 := s2) (st3 := s2) rfl (by simp [wk2.kT]) (by simp) (hw2 _) (to_nilK (to_nil ?_))
          exact ⟨_, rfl, next _ none et.symm (wk2.setT _), by rw [List.length_set]; exact hl2, fun j hj hjb => by rw [List.getElem?_set_ne (Ne.symm hjb)]; exact same2 j hj hjb⟩
        | false =>
          have ho : ¬ overNow (pl i) t x := fun z => by have := hB.mpr z; cases this
          have et : tickF (pl i) t (tu i) = some x := by rw [eo]; unfold tickF; dsimp only; rw [if_neg ho]
          refine to_iteN (st' := s2) (by simp) (to_nil ?_)
          exact ⟨_, rfl, stay s2 (by rw [et, eo]) wk2, hl2, same2⟩
      have out : ∀ (B : Bool) (s2 : AS), (B = true ↔ overNow (pl i) t x) → WkAt s2 w a b c n pl (fun j => if j < i then tickF (pl j) t (tu j) else tu j) fo aw → st.length ≤ s2.length → (∀ j, j < st.length → j ≠ b → s2[j]? = st[j]?) → _ := fin
      obtain ⟨ix, v, u, hh⟩ := x
      cases u with
      | till e =>
        refine to_asg (d := .bl (decide (e ≤ t))) (st' := s) (by simp [tnD, uD]) ?_
        refine to_iteN (st' := s) (by simp [tnD, uD]) ?_
        refine (fin (decide (e ≤ t)) s (by simp [overNow]) wk hl same).of fun r ⟨s3, hr, k1, k2, k3⟩ => ?_
        subst hr
        exact to_nil (cl := callF P m) ⟨⟨_, _, _, rfl⟩, k1, k2, k3⟩
      | hold =>
        refine to_asg (d := .bl false) (st' := s) (by simp [tnD, uD]) ?_
        refine to_iteN (st' := s) (by simp [tnD, uD]) ?_
        refine (fin false s (by simp [overNow]) wk hl same).of fun r ⟨s3, hr, k1, k2, k3⟩ => ?_
        subst hr
        exact to_nil (cl := callF P m) ⟨⟨_, _, _, rfl⟩, k1, k2, k3⟩
      | next =>
        refine to_asg (d := .bl false) (st' := s) (by simp [tnD, uD]) ?_
        by_cases hlt : hh < t
        · refine to_iteT (st' := s) (by simp [tnD, uD, hlt]) ?_
          have epi : ixD s (.ref a) (.int (i : Nat)) = some (pD (pl i)) := by rw [ixD_lst wk.pa, tab_at _ hin]
          refine to_asg (d := .bl (((pl i).map fun q => q.1 == t % 168).any id)) (st' := s ++ [.lst ((pl i).map fun q => D.bl (q.1 == t % 168))]) ?_ (to_nilK ?_)
          · have lc : lcLoop none (fun d => Ws.assign (.name 5) d (wipeE [some (.ref w), some (.int t), some (.int (i : Nat)), some (tnD (some (ix, v, .next, hh))), some (.bl false), none] [5])) (fun env st => .ok true st) (fun env st => evE (callF P m) (.cmp .eq (.ix (.var 5) (.lit (.int 0))) (.bin .mod (.var 1) (.lit (.int 168)))) env st) ((pl i).map mk) s = .ok (((pl i).map mk).map fun d => match d with
                | .tup [.int y, _] => D.bl (y == t % 168)
                | _ => .non) s := by
              refine lcLoop_map (watchOk_none s) (fun d => [some (.ref w), some (.int t), some (.int (i : Nat)), some (tnD (some (ix, v, .next, hh))), some (.bl false), some d]) _ _ fun y hy => ?_
              obtain ⟨z, _, rfl⟩ := List.mem_map.mp hy
              refine ⟨rfl, ?_⟩
              have em : binD .mod (.int t) (.int 168) s = .ok (.int (t % 168)) s := bin_mod (by decide) _
              have e7 : ixD s (mk z) (.int 0) = some (.int z.1) := rfl
              simp only [evE, List.getElem?_cons_succ, List.getElem?_cons_zero, bind_ok, em, e7, ofD_some, cmpD, eq_ii, ofB_some]
              rfl
            have emap : (((pl i).map mk).map fun d => match d with
                | .tup [.int y, _] => D.bl (y == t % 168)
                | _ => .non) = (pl i).map fun q => D.bl (q.1 == t % 168) := by
              rw [List.map_map]
              rfl
            rw [emap] at lc
            have ib : boolsD ((pl i).map fun q => D.bl (q.1 == t % 168)) = some ((pl i).map fun q => q.1 == t % 168) := boolsD_map (fun q : Int × Int => q.1 == t % 168) (pl i)
            have ha := any_lst (getLast_app s (.lst ((pl i).map fun q => D.bl (q.1 == t % 168)))) ib
            show evE (callF P m) (.bi .any (.cons (.lc [("_law_switch", 5)] (.cmp .eq (.ix (.var 5) (.lit (.int 0))) (.bin .mod (.var 1) (.lit (.int 168)))) (.name 5) (.of (.ix (.ixd (.var 0) (.lit (.str "plans"))) (.var 2))) .no) .nil)) [some (.ref w), some (.int t), some (.int (i : Nat)), some (tnD (some (ix, v, .next, hh))), some (.bl false), none] s = _
            have it : itemsD s (pD (pl i)) = some ((pl i).map mk) := rfl
            simp only [evE, evEs, evSrc, evC, List.getElem?_cons_succ, List.getElem?_cons_zero, bind_ok, wk.kP, ofD_some, epi, it, List.map_cons, List.map_nil] at lc ⊢
            simp only [pD] at lc ⊢
            rw [lc]
            simp only [bind_ok, newL, ha]
          · refine (fin (((pl i).map fun q => q.1 == t % 168).any id) (s ++ [.lst ((pl i).map fun q => D.bl (q.1 == t % 168))]) ?_ (wk.app _) (by simp; omega) (fun j hj hjb => by rw [List.getElem?_append_left (by omega)]; exact same j hj hjb)).of fun r ⟨s3, hr, k1, k2, k3⟩ => ?_
            · rw [any_sw]
              simp [overNow, hlt]
            · subst hr
              exact to_nil (cl := callF P m) ⟨⟨_, _, _, rfl⟩, k1, k2, k3⟩
        · refine to_iteN (st' := s) (by simp [tnD, uD, hlt]) ?_
          refine (fin false s (by simp [overNow, hlt]) wk hl same).of fun r ⟨s3, hr, k1, k2, k3⟩ => ?_
          subst hr
          exact to_nil (cl := callF P m) ⟨⟨_, _, _, rfl⟩, k1, k2, k3⟩
  · rintro env s ⟨⟨o2, o3, o4, rfl⟩, wk, hl, same⟩
    have e : (rangeD 0 ((n : Nat) : Int).toNat).length = n := by rw [rangeD_len]; omega
    rw [e] at wk
    exact to_nil ⟨s, _, rfl, wk, hl, same⟩
end
end Pg
end
end

section
set_option Elab.async false
set_option linter.all false
set_option maxRecDepth 100000
set_option maxHeartbeats 1000000
/-! MoH: what the walk shows; all hours. -/
noncomputable section
namespace Pg
open PySem Ws
/-- the walk of a log, at an hour -/
def WkOf (st : AS) (w a b c n : Nat) (ds : List Deed) (T : Int) : Prop := WkAt st w a b c n (fun i => lastPl ds (i : Nat)) (fun i => tuAt ds T (i : Nat)) (fun i => followedBy ds (i : Nat)) (awOf ds)
section
variable {P : Tbl} (H : HWk P)
include H
theorem r_law_plan_shows {m : Nat} (hm : 1 ≤ m) (st : AS) (p : Pl) (h : Int) : callF P m 113 [pD p, .int h] st = .ok (oD (planVal p h)) st := by
  obtain ⟨n, rfl⟩ := Nat.exists_eq_add_of_le' hm
  refine run_of H.plan_shows rfl ?_
  unfold f_law_plan_shows
  cases e : p.getLast? with
  | none =>
    obtain ⟨rfl, e2⟩ := planVal_nil (h := h) e
    rw [e2]
    refine to_iteT (st' := st) (by simp [pD]) (to_ret (d := .non) rfl (gcR_same _ _))
  | some z =>
    have hp : p ≠ [] := fun z2 => by subst z2; cases e
    have hv : planVal p h = some (p.foldl (pvF h) z.2) := by unfold planVal; rw [e]
    rw [hv]
    have hl : ¬ ((p.length : Nat) : Int) = 0 := by
      have := List.length_pos_iff.mpr hp
      omega
    refine to_iteN (st' := st) (by simp [pD, hp, hl]) ?_
    exact (planval_body (fun _ _ => rfl) e h st).of fun r hr => by rw [hr]; exact gcR_same _ _
variable {st : AS} {w a b c n : Nat} {ds : List Deed} {T : Int}
theorem r_shows (g : Good (n : Int) ds) (hn : n ≤ 3) (h : WkOf st w a b c n ds T) (order : Str) : ∀ (j : Nat) (room : Nat), room < n → reach ds j (room : Nat) → ∀ m, j + 2 ≤ m → callF P m 117 [.ref w, .str order, .int (room : Nat), .int T] st = .ok (oD (shownBy ds order j (room : Nat) T)) st
  | 0, _, _, hr, _, _ => hr.elim
  | j + 1, room, hrn, hr, m, hm => by
    obtain ⟨m, rfl⟩ := Nat.exists_eq_add_of_le' hm
    refine run_of H.shows (n := m + (j + 2)) rfl ?_
    unfold f_law_shows_2
    have e1 : ixD st (.ref b) (.int (room : Nat)) = some (tnD (tuAt ds T (room : Nat))) := by rw [ixD_lst h.ta, tab_at _ hrn]
    have e2 : ixD st (.ref c) (.int (room : Nat)) = some (foD (followedBy ds (room : Nat))) := by rw [ixD_lst h.fa, tab_at _ hrn]
    have e3 : ixD st (.ref a) (.int (room : Nat)) = some (pD (lastPl ds (room : Nat))) := by rw [ixD_lst h.pa, tab_at _ hrn]
    refine to_asg (d := tnD (tuAt ds T (room : Nat))) (st' := st) (by simp [h.kT, e1]) ?_
    refine to_asg (d := awD (awOf ds)) (st' := st) (by simp [h.kA]) ?_
    unfold shownBy
    rw [turnAt_tu g, awNow_at]
    have rest : Wp (exSs (callF P (m + (j + 2))) (dropSs2 3 f_law_shows_2.body) [some (.ref w), some (.str order), some (.int (room : Nat)), some (.int T), some (tnD (tuAt ds T (room : Nat))), some (awD (awNow (awOf ds) T)), none, none, none] st) (fun r => gcR st r.res = .ok (oD (match (tuAt ds T (room : Nat)).map (fun x => (x.1, x.2.1)), (awNow (awOf ds) T).map (fun x => (x.1, x.2.2.2)) with
      | some t, some a => some (if order = "away" ∨ a.1 > t.1 then a.2 else t.2)
      | some t, none => some t.2
      | none, some a => some a.2
      | none, none => match followedBy ds (room : Nat) with
        | none => planVal (lastPl ds (room : Nat)) T
        | some p => (shownBy ds order j p.1 T).map fun v => min (max (v + p.2) 0) 9)) st) := by
      unfold f_law_shows_2
      dsimp only [dropSs2]
      cases tuAt ds T (room : Nat) with
      | some x =>
        cases awNow (awOf ds) T with
        | some y =>
          refine to_iteT (st' := st) (by simp [tnD, awD]) ?_
          by_cases ho : order = "away"
          · subst ho
            refine to_iteT (st' := st) (by simp) ?_
            exact to_ret (d := .int y.2.2.2) (st' := st) (by simp [awD]) (by simp [Wp, gcR_same, oD])
          · by_cases hg : x.1 < y.1
            · refine to_iteT (st' := st) (by simp [ho, awD, tnD, hg]) ?_
              exact to_ret (d := .int y.2.2.2) (st' := st) (by simp [awD]) (by simp [Wp, gcR_same, oD, ho, hg])
            · refine to_iteN (st' := st) (by simp [ho, awD, tnD, hg]) ?_
              exact to_ret (d := .int x.2.1) (st' := st) (by simp [tnD]) (by simp [Wp, gcR_same, oD, ho, hg])
        | none =>
          refine to_iteN (st' := st) (by simp [tnD, awD]) ?_
          refine to_iteN (st' := st) (by simp [tnD, awD]) ?_
          refine to_iteT (st' := st) (by simp [tnD, awD]) ?_
          exact to_ret (d := .int x.2.1) (st' := st) (by simp [tnD]) (by simp [Wp, gcR_same, oD])
      | none =>
        cases awNow (awOf ds) T with
        | some y =>
          refine to_iteN (st' := st) (by simp [tnD, awD]) ?_
          refine to_iteT (st' := st) (by simp [tnD, awD]) ?_
          exact to_ret (d := .int y.2.2.2) (st' := st) (by simp [awD]) (by simp [Wp, gcR_same, oD])
        | none =>
          refine to_iteN (st' := st) (by simp [tnD, awD]) ?_
          refine to_iteN (st' := st) (by simp [tnD, awD]) ?_
          refine to_iteN (st' := st) (by simp [tnD, awD]) ?_
          unfold reach at hr
          cases ef : followedBy ds (room : Nat) with
          | none =>
            rw [ef] at e2
            refine to_iteT (st' := st) (by simp [h.kF, e2, foD]) ?_
            have rv := r_law_plan_shows H (m := m + (j + 2)) (by omega) st (lastPl ds (room : Nat)) T
            exact to_ret (d := oD (planVal (lastPl ds (room : Nat)) T)) (st' := st) (by simp [h.kP, e3, rv]) (by simp [Wp, gcR_same])
          | some p =>
            rw [ef] at hr e2
            refine to_iteN (st' := st) (by simp [h.kF, e2, foD]) ?_
            have hfin := (g.folAcy (by omega)).1.1 (room : Nat) p.1 (by unfold fol; rw [ef]; rfl)
            obtain ⟨r, hrp⟩ := Int.eq_ofNat_of_zero_le hfin.1
            have hr2 : reach ds j (r : Nat) := by
              have : reach ds j p.1 := hr
              rw [hrp] at this; exact this
            have ri := r_shows g hn h order j r (by omega) hr2 (m + (j + 2)) (by omega)
            rw [← hrp] at ri
            refine to_asgT (d := foD (some p)) (st' := st) (env' := [some (.ref w), some (.str order), some (.int (room : Nat)), some (.int T), some (tnD none), some (awD none), some (.int p.1), some (.int p.2), none]) (by simp [h.kF, e2]) (by simp [foD]) ?_
            refine to_asg (d := oD (shownBy ds order j p.1 T)) (st' := st) (by simp [ri]) ?_
            cases es : shownBy ds order j p.1 T with
            | none =>
              refine to_iteT (st' := st) (by simp [oD]) ?_
              exact to_ret (d := .non) (st' := st) rfl (by simp [Wp, gcR_same, oD, es])
            | some v =>
              refine to_iteN (st' := st) (by simp [oD]) ?_
              refine to_ret (d := .int (min (max (v + p.2) 0) 9)) (st' := st) ?_ (by simp [Wp, gcR_same, oD, es])
              have e1 : (if 0 > v + p.2 then 0 else v + p.2) = max (v + p.2) 0 := by split <;> omega
              have e2 : (if 9 < max (v + p.2) 0 then 9 else max (v + p.2) 0) = min (max (v + p.2) 0) 9 := by split <;> omega
              have b1 : biD st .max [.int (v + p.2), .int 0] = .ok (.int (max (v + p.2) 0)) st := by rw [← e1]; rfl
              have b2 : biD st .min [.int (max (v + p.2) 0), .int 9] = .ok (.int (min (max (v + p.2) 0) 9)) st := by rw [← e2]; rfl
              simp [oD, b1, b2]
    cases ea : awOf ds with
    | none =>
      rw [ea] at rest
      refine to_iteN (st' := st) (by simp [awD]) ?_
      exact rest
    | some y =>
      rw [ea] at rest
      obtain ⟨ix, bb, ee, vv⟩ := y
      by_cases hb : bb ≤ T ∧ holds ee T = true
      · have en : awNow (some (ix, bb, ee, vv)) T = some (ix, bb, ee, vv) := by unfold awNow; simp [hb]
        rw [en] at rest ⊢
        have h1 : ¬ T < bb := by omega
        refine to_iteN (st' := st) ?_ rest
        cases ee with
        | none => simp [awD, oD, h1]
        | some e =>
          have h2 : T < e := by simpa [holds] using hb.2
          have h3 : ¬ e ≤ T := by omega
          simp [awD, oD, h1, h3]
      · have en : awNow (some (ix, bb, ee, vv)) T = none := by unfold awNow; simp; simpa using hb
        rw [en] at rest ⊢
        refine to_iteT (st' := st) ?_ ?_
        · by_cases h1 : T < bb
          · simp [awD, h1]
          · cases ee with
            | none => exact absurd ⟨by omega, rfl⟩ hb
            | some e =>
              have h2 : e ≤ T := Classical.byContradiction fun z => hb ⟨by omega, by simp [holds]; omega⟩
              simp [awD, oD, h1, h2]
        · exact to_asg (d := .non) (st' := st) rfl (to_nilK rest)
end
/-! ### one step of the walk, plainly -/
theorem wk_take {st : AS} {w a b c n : Nat} {ds : List Deed} {d : Deed} {T : Int} (hT : d.hour = T + 1) (ok : d.ok (n : Int) (nowOf ds)) (h : WkAt st w a b c n (tkP d fun i => lastPl ds (i : Nat)) (tkT d ds.length fun i => tuAt ds T (i : Nat)) (tkF d fun i => followedBy ds (i : Nat)) (tkA d ds.length (awOf ds))) : WkOf st w a b c n (ds ++ [d]) T := by
  unfold WkOf
  have e1 : (fun i : Nat => lastPl (ds ++ [d]) (i : Nat)) = tkP d fun i => lastPl ds (i : Nat) := by
    funext i
    rw [lastPl_snoc]
    cases d with
    | plan r p h =>
      unfold tkP
      dsimp only
      by_cases e : r = ((i : Nat) : Int)
      · rw [if_pos e, if_pos e.symm]
      · rw [if_neg e, if_neg fun z => e z.symm]
    | _ => rfl
  have e2 : (fun i : Nat => tuAt (ds ++ [d]) T (i : Nat)) = tkT d ds.length fun i => tuAt ds T (i : Nat) := by
    funext i
    rw [tuAt_take hT ok]
    cases d with
    | turn r v u h =>
      unfold tkT
      dsimp only
      by_cases e : r = ((i : Nat) : Int)
      · rw [if_pos e, if_pos e.symm]
      · rw [if_neg e, if_neg fun z => e z.symm]
    | back r h =>
      unfold tkT
      dsimp only
      by_cases e : r = ((i : Nat) : Int)
      · rw [if_pos e, if_pos e.symm]
      · rw [if_neg e, if_neg fun z => e z.symm]
    | _ => rfl
  have e3 : (fun i : Nat => followedBy (ds ++ [d]) (i : Nat)) = tkF d fun i => followedBy ds (i : Nat) := by
    funext i
    rw [followedBy_snoc]
    cases d with
    | follow r o f h =>
      unfold tkF folAt
      dsimp only
      by_cases e : r = ((i : Nat) : Int)
      · rw [if_pos e, if_pos e.symm]
      · rw [if_neg e, if_neg fun z => e z.symm]
    | _ => rfl
  have e4 : awOf (ds ++ [d]) = tkA d ds.length (awOf ds) := by
    rw [awOf_snoc]
    cases d <;> rfl
  rw [e1, e2, e3, e4]
  exact h
theorem wk_tick {st : AS} {w a b c n : Nat} {ds : List Deed} {t : Int} (hd : ∀ d ∈ ds, d.hour ≤ t) (h : WkAt st w a b c n (fun i => lastPl ds (i : Nat)) (fun j => tickF (lastPl ds (j : Nat)) t (tuAt ds (t - 1) (j : Nat))) (fun i => followedBy ds (i : Nat)) (awOf ds)) : WkOf st w a b c n ds t := by
  unfold WkOf
  have e : (fun i : Nat => tuAt ds t (i : Nat)) = fun j => tickF (lastPl ds (j : Nat)) t (tuAt ds (t - 1) (j : Nat)) := by
    funext i
    rw [tuAt_tick hd]
    rfl
  rw [e]
  exact h
theorem wk_new {st : AS} {w a b c n : Nat} (h : WkAt st w a b c n (fun _ => []) (fun _ => none) (fun _ => none) none) : WkOf st w a b c n [] (-1) := h
theorem reach_ok {ds : List Deed} (a : Acy ds) (room : Int) : reach ds 3 room := by
  have ar := a room
  unfold fol at ar
  unfold reach
  cases e1 : followedBy ds room with
  | none => trivial
  | some p =>
    dsimp only
    unfold reach
    cases e2 : followedBy ds p.1 with
    | none => trivial
    | some p2 =>
      dsimp only
      unfold reach
      cases e3 : followedBy ds p2.1 with
      | none => trivial
      | some p3 => simp [e1, e2, e3] at ar
end Pg
end
end

section
set_option Elab.async false
set_option linter.all false
set_option maxRecDepth 100000
set_option maxHeartbeats 1000000
/-! MoI: all hours of the walk. -/
noncomputable section
namespace Ws
open PySem
theorem to_S {cl : Call} {s : S} {r : Ss} {env env' : Env} {st st' : AS} {Q : RS → Prop} (h : exS cl s env st = .next env' st') (k : Wp (exSs cl r env' st') Q) : Wp (exSs cl (.cons s r) env st) Q := by
  unfold Wp at *
  rw [exSs_cons, h]
  exact k
end Ws
namespace Pg
open PySem Ws
theorem good_sorted {rooms : Int} {ds : List Deed} (g : Good rooms ds) : ds.Pairwise fun x y => x.hour ≤ y.hour := by
  induction g with
  | nil => exact .nil
  | snoc g ok nr ih =>
    rename_i ds d
    rw [List.pairwise_append]
    refine ⟨ih, by simp, fun x hx y hy => ?_⟩
    simp at hy
    subst hy
    have h1 := (good_le g x hx).2
    have h2 := (Deed.ok_hour ok).1
    omega
theorem upTo_cut {ds : List Deed} {k : Nat} {t : Int} (h1 : ∀ d ∈ ds.take k, d.hour ≤ t) (h2 : ∀ d ∈ ds.drop k, t < d.hour) : ds.take k = upTo ds t := by
  unfold upTo
  conv => rhs; rw [← List.take_append_drop k ds]
  rw [List.filter_append, List.filter_eq_self.mpr fun d hd => decide_eq_true (h1 d hd)]
  have : (ds.drop k).filter (fun d => decide (d.hour ≤ t)) = [] := by
    rw [List.filter_eq_nil_iff]
    intro d hd
    have := h2 d hd
    simp; omega
  rw [this, List.append_nil]
def rowOf (ds : List Deed) (order : Str) (n : Nat) (t : Nat) : List D := tab n fun r => oD (shownBy (upTo ds (t : Nat)) order 3 (r : Nat) (t : Nat))
section
variable {P : Tbl} (H : HWk P)
include H
variable {w a b c n : Nat} {ds : List Deed} {k : Nat}
def whT : T := .and (.cmp .lt (.var 6) (.bi .len (.cons (.var 2) .nil))) (.cmp .eq (.ix (.ix (.var 2) (.var 6)) (.neg (.lit (.int 1)))) (.var 7))
def whB : Ss := (.cons (.expr (.call 115 (.cons (.var 4) (.cons (.ix (.var 2) (.var 6)) (.cons (.var 6) .nil)))))
      (.cons (.asg (.name 6) (.bin .add (.var 6) (.lit (.int 1)))) .nil))
theorem hours_while (g : Good (n : Int) ds) (order : Str) (f : Nat) (t : Int) {m : Nat} (hm : 1 ≤ m) (hk1 : k ≠ w ∧ k ≠ a ∧ k ≠ b ∧ k ≠ c) : ∀ (rem at_ : Nat) (s : AS), at_ ≤ ds.length → ds.length - at_ = rem → WkOf s w a b c n (ds.take at_) (t - 1) → s[k]? = some (.lst (ds.map dD)) → (∀ d ∈ ds.take at_, d.hour ≤ t) → (∀ d ∈ ds.drop at_, t ≤ d.hour) → ∀ fuel,
    ∃ at2 s2, whileL (fun env st => evT (callF P m) whT env st) [] (fun env st => exSs (callF P m) whB env st) (fuel + rem + 1) [some (.int (n : Nat)), some (.str order), some (.ref k), some (.int 700), some (.ref w), some (.ref f), some (.int (at_ : Nat)), some (.int t), none] s = .next [some (.int (n : Nat)), some (.str order), some (.ref k), some (.int 700), some (.ref w), some (.ref f), some (.int (at2 : Nat)), some (.int t), none] s2 ∧ at2 ≤ ds.length ∧ WkOf s2 w a b c n (ds.take at2) (t - 1) ∧ SameW w a b c s s2 ∧ (∀ d ∈ ds.take at2, d.hour ≤ t) ∧ ∀ d ∈ ds.drop at2, t < d.hour
  | rem, at_, s, hat, hrem, wk, hk, h1, h2, fuel => by
    have hl : biD s .len [.ref k] = .ok (.int (ds.length : Nat)) s := by rw [len_lst hk, List.length_map]
    by_cases hlt : at_ < ds.length
    · have hd : ds[at_]? = some ds[at_] := List.getElem?_eq_getElem hlt
      have hx : ixD s (.ref k) (.int (at_ : Nat)) = some (dD ds[at_]) := by
        rw [ixD_lst hk, atI_nat (by rw [List.length_map]; exact hlt)]
        simp
      have edrop : ds.drop at_ = ds[at_] :: ds.drop (at_ + 1) := List.drop_eq_getElem_cons hlt
      have et : ds.take (at_ + 1) = ds.take at_ ++ [ds[at_]] := by rw [List.take_add_one, hd]; rfl
      have sd : (ds.drop at_).Pairwise fun x y => x.hour ≤ y.hour := (good_sorted g).sublist (List.drop_sublist _ _)
      rw [edrop] at sd h2
      generalize hdd : ds[at_] = d at hd hx et sd h2
      have eh : ixD s (dD d) (.int (-1)) = some (.int d.hour) := by cases d <;> rfl
      have hlt' : ((at_ : Nat) : Int) < (ds.length : Nat) := by omega
      by_cases hh : d.hour = t
      · have gi := g.take (at_ + 1)
        rw [et] at gi
        obtain ⟨g1, g2, g3⟩ := gi.inv
        have hlen : (ds.take at_).length = at_ := by rw [List.length_take]; omega
        obtain ⟨s1, r1, wk1, sm1⟩ := r_take H (m := m) hm wk g2 at_
        have wk2 : WkOf s1 w a b c n (ds.take (at_ + 1)) (t - 1) := by
          rw [et]
          refine wk_take (by omega) g2 ?_
          rw [hlen]; exact wk1
        obtain ⟨rem', rfl⟩ : ∃ r, rem = r + 1 := ⟨rem - 1, by omega⟩
        obtain ⟨at2, s2, e2, q1, q2, q3, q4, q5⟩ := hours_while g order f t hm hk1 rem' (at_ + 1) s1 (by omega) (by omega) wk2 (by rw [sm1.at_ k hk1.1 hk1.2.1 hk1.2.2.1 hk1.2.2.2]; exact hk) (fun x hx => by
            rw [et] at hx
            rcases List.mem_append.mp hx with hx | hx
            · exact h1 x hx
            · simp at hx; subst hx; omega) (fun x hx => h2 x (List.mem_cons_of_mem _ hx)) fuel
        refine ⟨at2, s2, ?_, q1, q2, sm1.trans q3, q4, q5⟩
        rw [← e2]
        have e3 : ((at_ : Nat) : Int) + 1 = ((at_ + 1 : Nat) : Int) := by omega
        have et2 : evT (callF P m) whT [some (.int (n : Nat)), some (.str order), some (.ref k), some (.int 700), some (.ref w), some (.ref f), some (.int (at_ : Nat)), some (.int t), none] s = .ok true s := by
          unfold whT
          simp only [evT, evE, evEs, List.getElem?_cons_succ, List.getElem?_cons_zero, bind_ok, hl, cmpD, lt_ii, decide_eq_true hlt', ofBT_some, if_true, hx, ofD_some, negD, eh, eq_ii, hh, beq_self_eq_true]
        have eb : exSs (callF P m) whB [some (.int (n : Nat)), some (.str order), some (.ref k), some (.int 700), some (.ref w), some (.ref f), some (.int (at_ : Nat)), some (.int t), none] s = .next [some (.int (n : Nat)), some (.str order), some (.ref k), some (.int 700), some (.ref w), some (.ref f), some (.int ((at_ + 1 : Nat) : Int)), some (.int t), none] s1 := by
          unfold whB
          rw [← e3]
          simp [hx, r1]
        have ef : fuel + (rem' + 1) + 1 = (fuel + rem' + 1) + 1 := by omega
        rw [ef]
        conv => lhs; unfold whileL
        show Res.stm (evT (callF P m) whT _ s) _ _ = _
        simp only [wipeE]
        rw [et2, stm_ok, if_pos rfl, eb]
      · have nb : (d.hour == t) = false := beq_false_of_ne hh
        refine ⟨at_, s, ?_, hat, wk, ⟨rfl, fun _ _ _ _ _ => rfl⟩, h1, fun x hx => ?_⟩
        · have et2 : evT (callF P m) whT [some (.int (n : Nat)), some (.str order), some (.ref k), some (.int 700), some (.ref w), some (.ref f), some (.int (at_ : Nat)), some (.int t), none] s = .ok false s := by
            unfold whT
            simp only [evT, evE, evEs, List.getElem?_cons_succ, List.getElem?_cons_zero, bind_ok, hl, cmpD, lt_ii, decide_eq_true hlt', ofBT_some, if_true, hx, ofD_some, negD, eh, eq_ii, nb]
          unfold whileL
          simp only [wipeE]
          rw [et2, stm_ok, if_neg (by simp)]
        · rw [edrop, hdd] at hx
          have h0 := h2 d List.mem_cons_self
          rcases List.mem_cons.mp hx with rfl | hx
          · omega
          · have := (List.pairwise_cons.mp sd).1 x hx
            omega
    · have hnl : ¬ ((at_ : Nat) : Int) < (ds.length : Nat) := by omega
      refine ⟨at_, s, ?_, hat, wk, ⟨rfl, fun _ _ _ _ _ => rfl⟩, h1, fun x hx => ?_⟩
      · have et2 : evT (callF P m) whT [some (.int (n : Nat)), some (.str order), some (.ref k), some (.int 700), some (.ref w), some (.ref f), some (.int (at_ : Nat)), some (.int t), none] s = .ok false s := by
          unfold whT
          simp only [evT, evE, evEs, List.getElem?_cons_succ, List.getElem?_cons_zero, bind_ok, hl, cmpD, lt_ii, decide_eq_false hnl, ofBT_some, Bool.false_eq_true, if_false]
        unfold whileL
        simp only [wipeE]
        rw [et2, stm_ok, if_neg (by simp)]
      · rw [List.drop_eq_nil_of_le (by omega)] at hx
        cases hx
  termination_by rem => rem
theorem r_hours {m : Nat} (hm : 6 ≤ m) {st : AS} (g : Good (n : Int) ds) (hn : n ≤ 3) (hz : ds.length < 1000) (hk : st[k]? = some (.lst (ds.map dD))) (order : Str) :
    ∃ f st' rows, callF P m 118 [.int (n : Nat), .str order, .ref k, .int 700] st = .ok (.ref f) st' ∧ (∀ j, j < st.length → st'[j]? = st[j]?) ∧ st'[f]? = some (.lst rows) ∧ rows.length = 700 ∧ st.length ≤ f ∧ st.length ≤ st'.length ∧ ∀ t, t < 700 → ∃ q, rows[t]? = some (.ref q) ∧ st'[q]? = some (.lst (rowOf ds order n t)) := by
  obtain ⟨m, rfl⟩ := Nat.exists_eq_add_of_le' hm
  have hkl : k < st.length := (List.getElem?_eq_some_iff.mp hk).1
  suffices hw : Wp (exSs (callF P (m + 5)) f_law_hours.body (startE f_law_hours.ns [.int (n : Nat), .str order, .ref k, .int 700]) st) fun r => ∃ f s' rows, r = .ret (.ref f) s' ∧ (∀ j, j < st.length → s'[j]? = st[j]?) ∧ s'[f]? = some (.lst rows) ∧ rows.length = 700 ∧ st.length ≤ f ∧ st.length ≤ s'.length ∧ ∀ t, t < 700 → ∃ q, rows[t]? = some (.ref q) ∧ s'[q]? = some (.lst (rowOf ds order n t)) by
    obtain ⟨f, s', rows, e, h1, h2, h3, h4, h5, h6⟩ := hw
    refine ⟨f, s', rows, ?_, h1, h2, h3, h4, h5, h6⟩
    rw [callF_eq H.hours (m + 5) _ rfl, e, res_ret]
    have hfl : (O.lst rows).flat = false := by
      obtain ⟨q, hq, _⟩ := h6 0 (by omega)
      cases rows with
      | nil => simp at h3
      | cons x r =>
        simp at hq
        subst hq
        rfl
    unfold gcR
    dsimp only
    split
    · simp only [D.refless, Bool.false_eq_true, if_false, if_pos h4, h2, hfl]
    · rfl
  unfold f_law_hours
  obtain ⟨s1, r1, wk0, old1⟩ := r_new H (m := m + 5) (by omega) (st := st) (n := n) (by omega)
  refine to_asg (d := .ref st.length) (st' := s1) (by simp [r1]) ?_
  have lw := wk0.lt
  generalize hw0 : st.length = w0 at *
  refine to_asg (d := .ref s1.length) (st' := s1 ++ [.lst []]) (by simp) ?_
  refine to_asg (d := .int 0) (st' := s1 ++ [.lst []]) rfl ?_
  have hsm : small 700 = true := small_ok (by omega) (by omega)
  have wk1 : WkOf (s1 ++ [O.lst []]) w0 (w0 + 1) (w0 + 2) (w0 + 3) n [] (-1) := wk_new (wk0.app _)
  generalize hf : s1.length = f at *
  refine to_for (xs := rangeD 0 (700 : Int).toNat) (w := none) (st' := s1 ++ [.lst []]) (by simp only [evSrc, evE, List.getElem?_cons_succ, List.getElem?_cons_zero, startE, List.map_cons, List.cons_append, List.set_cons_succ, bind_ok, hsm, if_true]; exact sized_rng (by decide))
    (fun i env s => ∃ (at_ : Nat) (o7 : Option D) (rows : List D), env = [some (.int (n : Nat)), some (.str order), some (.ref k), some (.int 700), some (.ref w0), some (.ref f), some (.int (at_ : Nat)), o7, none] ∧ at_ ≤ ds.length ∧ WkOf s w0 (w0 + 1) (w0 + 2) (w0 + 3) n (ds.take at_) ((i : Nat) - 1) ∧ (∀ d ∈ ds.take at_, d.hour < (i : Nat)) ∧ (∀ d ∈ ds.drop at_, (i : Nat) ≤ d.hour) ∧ (∀ j, j < w0 → s[j]? = st[j]?) ∧ s[f]? = some (.lst rows) ∧ rows.length = i ∧ ∀ t, t < i → ∃ q, f < q ∧ rows[t]? = some (.ref q) ∧ s[q]? = some (.lst (rowOf ds order n t)))
    ⟨0, none, [], rfl, by omega, wk1, by simp, fun d hd => (good_le g d (List.mem_of_mem_drop hd)).1, fun j hj => by rw [List.getElem?_append_left (by omega)]; exact old1 j hj, by rw [← hf]; exact getLast_app _ _, rfl, fun t ht => by omega⟩ (fun _ _ s' _ => watchOk_none s') ?_ ?_
  · rintro i x env s hx ⟨at_, o7, rows, rfl, hat, wk, h1, h2, old, hfs, hrl, hrows⟩
    obtain ⟨rfl, hi⟩ := rangeD_get hx
    have hi7 : i < 700 := hi
    have e0 : (0 : Int) + (i : Nat) = ((i : Nat) : Int) := by omega
    rw [e0]
    refine ⟨[some (.int (n : Nat)), some (.str order), some (.ref k), some (.int 700), some (.ref w0), some (.ref f), some (.int (at_ : Nat)), some (.int (i : Nat)), none], rfl, ?_⟩
    have hks : s[k]? = some (.lst (ds.map dD)) := by rw [old k hkl]; exact hk
    obtain ⟨wf, hwf⟩ := WF_eq (ds.length - at_) (by omega)
    obtain ⟨at2, s2, e2, q1, q2, q3, q4, q5⟩ := hours_while H g order f (i : Nat) (m := m + 5) (by omega) (k := k) (by omega) (ds.length - at_) at_ s hat rfl wk hks (fun d hd => Int.le_of_lt (h1 d hd)) h2 wf
    have ew : exS (callF P (m + 5)) (.whil whT [] whB) [some (.int (n : Nat)), some (.str order), some (.ref k), some (.int 700), some (.ref w0), some (.ref f), some (.int (at_ : Nat)), some (.int (i : Nat)), none] s = .next [some (.int (n : Nat)), some (.str order), some (.ref k), some (.int 700), some (.ref w0), some (.ref f), some (.int (at2 : Nat)), some (.int (i : Nat)), none] s2 := by
      rw [← e2, ← hwf]
      rfl
    have ecut := upTo_cut q4 q5
    obtain ⟨s3, r3, wk3, sm3⟩ := r_tick H (m := m + 5) (by omega) q2 (by omega) (i : Nat)
    have wk4 : WkOf s3 w0 (w0 + 1) (w0 + 2) (w0 + 3) n (ds.take at2) (i : Nat) := wk_tick q4 wk3
    have g2 := g.take at2
    have sm := q3.trans sm3
    have fne : f ≠ w0 ∧ f ≠ w0 + 1 ∧ f ≠ w0 + 2 ∧ f ≠ w0 + 3 := by omega
    have hfs3 : s3[f]? = some (.lst rows) := by rw [sm.at_ f fne.1 fne.2.1 fne.2.2.1 fne.2.2.2]; exact hfs
    have hlen3 : f < s3.length := (List.getElem?_eq_some_iff.mp hfs3).1
    have hsmn : small ((n : Nat) : Int) = true := small_ok (by omega) (by omega)
    have acy := (g2.folAcy (by omega)).2
    have lc : evE (callF P (m + 5)) (.lc [("_law_room", 8)] (.call 117 (.cons (.var 4) (.cons (.var 1) (.cons (.var 8) (.cons (.var 7) .nil))))) (.name 8) (.rng1 (.var 0)) .no) [some (.int (n : Nat)), some (.str order), some (.ref k), some (.int 700), some (.ref w0), some (.ref f), some (.int (at2 : Nat)), some (.int (i : Nat)), none] s3 = .ok (.ref s3.length) (s3 ++ [.lst (rowOf ds order n i)]) := by
      have hsz : sized (rangeD 0 ((n : Nat) : Int).toNat) none s3 = .ok (rangeD 0 ((n : Nat) : Int).toNat, none) s3 := sized_rng (by omega)
      have := lcLoop_range (st := s3) (w := none) (asg := fun d => Ws.assign (.name 8) d (wipeE [some (.int (n : Nat)), some (.str order), some (.ref k), some (.int 700), some (.ref w0), some (.ref f), some (.int (at2 : Nat)), some (.int (i : Nat)), none] [8])) (elt := fun env st => evE (callF P (m + 5)) (.call 117 (.cons (.var 4) (.cons (.var 1) (.cons (.var 8) (.cons (.var 7) .nil))))) env st) (watchOk_none s3) (fun r => [some (.int (n : Nat)), some (.str order), some (.ref k), some (.int 700), some (.ref w0), some (.ref f), some (.int (at2 : Nat)), some (.int (i : Nat)), some (.int (0 + (r : Nat)))]) (fun r => oD (shownBy (upTo ds (i : Nat)) order 3 (r : Nat) (i : Nat))) 0 ((n : Nat) : Int).toNat fun r hr => ⟨rfl, by
          have rs := r_shows H g2 hn wk4 order 3 r (by omega) (reach_ok acy _) (m + 5) (by omega)
          rw [ecut] at rs
          have e00 : (0 : Int) + (r : Nat) = ((r : Nat) : Int) := by omega
          rw [e00]
          simp only [evE, evEs, List.getElem?_cons_succ, List.getElem?_cons_zero, bind_ok, rs]⟩
      simp only [evE, evSrc, evC, List.getElem?_cons_zero, bind_ok, hsmn, if_true, hsz, List.map_cons, List.map_nil] at this ⊢
      rw [this]
      simp only [bind_ok, newL]
      rfl
    have hfs4 : (s3 ++ [O.lst (rowOf ds order n i)])[f]? = some (.lst rows) := by rw [List.getElem?_append_left hlen3]; exact hfs3
    have ev := ev_append (cl := callF P (m + 5)) (env := [some (.int (n : Nat)), some (.str order), some (.ref k), some (.int 700), some (.ref w0), some (.ref f), some (.int (at2 : Nat)), some (.int (i : Nat)), none]) (i := 5) (es := .cons (.lc [("_law_room", 8)] (.call 117 (.cons (.var 4) (.cons (.var 1) (.cons (.var 8) (.cons (.var 7) .nil))))) (.name 8) (.rng1 (.var 0)) .no) .nil) (d := .ref s3.length) rfl hfs3 (st1 := s3 ++ [.lst (rowOf ds order n i)]) (by rw [evEs, lc, bind_ok, evEs]; rfl) hfs4 (by omega)
    refine to_S ew ?_
    refine to_expr (d := .non) (st' := s3) (by simp [r3]) ?_
    refine to_expr ev (to_nil ?_)
    have l4 := wk4.lt
    refine ⟨at2, _, rows ++ [.ref s3.length], rfl, q1, ?_, fun d hd => ?_, fun d hd => ?_, fun j hj => ?_, ?_, ?_, fun t ht => ?_⟩
    · have e9 : (((i + 1 : Nat) : Int) - 1) = ((i : Nat) : Int) := by omega
      rw [e9]
      refine (wk4.app [.lst (rowOf ds order n i)]).to ?_ ?_ ?_ ?_
      · exact List.getElem?_set_ne fne.1
      · exact List.getElem?_set_ne fne.2.1
      · exact List.getElem?_set_ne fne.2.2.1
      · exact List.getElem?_set_ne fne.2.2.2
    · have := q4 d hd
      omega
    · have := q5 d hd
      omega
    · rw [List.getElem?_set_ne (by omega), List.getElem?_append_left (by omega), sm.at_ j (by omega) (by omega) (by omega) (by omega)]
      exact old j hj
    · rw [List.getElem?_set_self (by simp; omega)]
    · simp [hrl]
    · by_cases hti : t < i
      · obtain ⟨q, hq1, hq2, hq3⟩ := hrows t hti
        refine ⟨q, hq1, by rw [List.getElem?_append_left (by omega)]; exact hq2, ?_⟩
        have hq4 : s3[q]? = some (.lst (rowOf ds order n t)) := by rw [sm.at_ q (by omega) (by omega) (by omega) (by omega)]; exact hq3
        rw [List.getElem?_set_ne (by omega), List.getElem?_append_left (List.getElem?_eq_some_iff.mp hq4).1]
        exact hq4
      · have : t = i := by omega
        subst this
        refine ⟨s3.length, hlen3, by rw [List.getElem?_append_right (by omega), hrl]; simp, ?_⟩
        rw [List.getElem?_set_ne (by omega)]
        exact getLast_app _ _
  · rintro env s ⟨at_, o7, rows, rfl, hat, wk, h1, h2, old, hfs, hrl, hrows⟩
    refine to_ret (d := .ref f) (st' := s) rfl ?_
    have el : (rangeD 0 (700 : Int).toNat).length = 700 := by rw [rangeD_len]; rfl
    rw [el] at hrl hrows
    refine ⟨f, s, rows, rfl, old, hfs, hrl, by omega, ?_, fun t ht => ?_⟩
    · have := (List.getElem?_eq_some_iff.mp hfs).1
      omega
    · obtain ⟨q, _, hq2, hq3⟩ := hrows t ht
      exact ⟨q, hq2, hq3⟩
end
end Pg
end
end

section
set_option Elab.async false
set_option linter.all false
set_option maxRecDepth 100000
set_option maxHeartbeats 1000000
/-! MoJ: the law k03. -/
noncomputable section
namespace Pg
open PySem Ws
theorem toLs_oD (st : AS) (n : Nat) : ∀ l : List (Option Int), toLs (toD st (n + 1)) (l.map oD) = some (l.map pyO)
  | [] => rfl
  | o :: r => by
    have e : toL (toD st (n + 1)) (oD o) = some (pyO o) := by cases o <;> rfl
    simp only [List.map_cons, toLs, e, toLs_oD st n r]
theorem eqD_row {st : AS} {a b : Nat} {l : List (Option Int)} (ha : st[a]? = some (.lst (l.map oD))) (hb : st[b]? = some (.lst (l.map oD))) : eqD st (.ref a) (.ref b) = some true := by
  have e : eqD st (.ref a) (.ref b) = match toD st 8 (.ref a), toD st 8 (.ref b) with
    | some p, some q => if SeqAt.shaped p && SeqAt.shaped q then some (PyData.eqv p q) else none
    | _, _ => none := rfl
  have tl : ∀ x : Nat, st[x]? = some (.lst (l.map oD)) → toD st 8 (.ref x) = some (.list (l.map pyO)) := fun x hx => by
    unfold toD
    unfold toL
    simp only [hx, toLs_oD, Option.map_some]
  rw [e, tl a ha, tl b hb]
  have s : SeqAt.shaped (.list (l.map pyO)) = true := by
    obtain ⟨h1, h2⟩ := laid_all pyO 0 laid_O l
    unfold SeqAt.shaped
    rw [Bool.and_eq_true]
    refine ⟨h1, decide_eq_true ?_⟩
    show PyData.depthAll (l.map pyO) + 1 ≤ 64
    omega
  have r : PyData.eqv (.list (l.map pyO)) (.list (l.map pyO)) = true := by
    rw [PyData.eqv]
    exact eqv_all pyO (fun o => by cases o <;> simp [pyO, PyData.eqv]) l
  simp only [s, r, Bool.and_self, if_true]
theorem rowOf_map (ds : List Deed) (order : Str) (n t : Nat) : rowOf ds order n t = ((List.range n).map fun r => shownBy (upTo ds (t : Nat)) order 3 (r : Nat) (t : Nat)).map oD := by
  unfold rowOf tab
  rw [List.map_map]
  rfl
theorem ne_drawsM {st : AS} {l s k : Nat} {xs : List Int} {ds : List Deed} (h : Dw st l s xs) (hk : st[k]? = some (.lst (ds.map dD))) : k ≠ l := fun e => by
  obtain ⟨a, b, c, e2, _⟩ := h.at_
  subst e
  rw [hk] at e2
  cases ds with
  | nil => cases e2
  | cons d r => cases d <;> simp [dD] at e2
theorem ne_len {st : AS} {l s k : Nat} {xs : List Int} {ys : List D} (h : Dw st l s xs) (hk : st[k]? = some (.lst ys)) (hl : ys.length ≠ 4) : k ≠ l := fun e => by
  obtain ⟨a, b, c, e2, _⟩ := h.at_
  subst e
  rw [hk] at e2
  cases e2
  exact hl rfl
theorem pick_okM {P : Tbl} (H : HDr P) {m : Nat} (hm : 1 ≤ m) {st : AS} {l s : Nat} {xs : List Int} (h : Dw st l s xs) {es : Es} {vals : List D} {many : Nat} {env : Ws.Env} {i : Nat} (hi : env[i]? = some (some (.ref l))) (he : ∀ st, evEs (callF P m) es env st = .ok vals st) (hl : vals.length = many) (h1 : 0 < many) (h2 : many < 1000) :
    ∃ a st', a ∈ vals ∧ Dw st' l s xs ∧ Old l st st' ∧ evE (callF P m) (.ix (.lst es) (.call 91 (.cons (.var i) (.cons (.lit (.int many)) .nil)))) env st = .ok a st' := by
  obtain ⟨c, s1, r1, c1, c2, d1, b1⟩ := draw_m H hm (h.app [.lst vals]) (many : Int) (by omega) (by omega)
  have hz : s1[st.length]? = some (.lst vals) := by
    rw [b1.at_ _ (by have := h.lt; omega)]; exact getLast_app _ _
  obtain ⟨t, rfl⟩ := Int.eq_ofNat_of_zero_le c1
  have ht : t < vals.length := by omega
  refine ⟨vals[t], s1, List.getElem_mem ht, d1, (Old.app l _ _).trans b1.old, ?_⟩
  simp only [evE, evEs, hi, he, bind_ok, newL, r1, ixD_lst hz, atI_nat ht, ofD_some]
/-- what stands behind the walk -/
structure K3 (st : AS) (l s : Nat) (xs : List Int) (n : Nat) (order : Str) (h kh q f : Nat) (ds : List Deed) (rows : List D) : Prop where
  dw : Dw st l s xs
  hs : Hs st h kh (n : Int) order ds
  at_ : st[q]? = some (.lst (ds.map dD))
  rl : rows.length = 700
  rs : st[f]? = some (.lst rows)
  ro : ∀ t, t < 700 → ∃ q, rows[t]? = some (.ref q) ∧ st[q]? = some (.lst (rowOf ds order n t))
section
variable {st st' : AS} {l s n : Nat} {xs : List Int} {order : Str} {h kh q f : Nat} {ds : List Deed} {rows : List D}
theorem K3.to (i : K3 st l s xs n order h kh q f ds rows) (hn : n ≤ 3) (d : Dw st' l s xs) (o : Old l st st') : K3 st' l s xs n order h kh q f ds rows := by
  have h1 : h ≠ l := fun e => by
    obtain ⟨a, b, c, e2, _⟩ := i.dw.at_
    have := i.hs.at_
    rw [e, e2] at this
    cases this
  have lt : ∀ {k : Nat} {x : O}, st[k]? = some x → k < st.length := fun e => (List.getElem?_eq_some_iff.mp e).1
  refine ⟨d, ⟨?_, ?_⟩, ?_, i.rl, ?_, fun t ht => ?_⟩
  · rw [o.at_ h (lt i.hs.at_) h1]; exact i.hs.at_
  · rw [o.at_ kh (lt i.hs.lst) (ne_drawsM i.dw i.hs.lst)]; exact i.hs.lst
  · rw [o.at_ q (lt i.at_) (ne_drawsM i.dw i.at_)]; exact i.at_
  · rw [o.at_ f (lt i.rs) (ne_len i.dw i.rs (by rw [i.rl]; decide))]; exact i.rs
  · obtain ⟨r, e1, e2⟩ := i.ro t ht
    refine ⟨r, e1, ?_⟩
    rw [o.at_ r (lt e2) (ne_len i.dw e2 (by unfold rowOf; rw [tab_len]; omega))]; exact e2
theorem K3.app (i : K3 st l s xs n order h kh q f ds rows) (hn : n ≤ 3) (gs : AS) : K3 (st ++ gs) l s xs n order h kh q f ds rows := i.to hn (i.dw.app gs) (.app l _ _)
end
/-- all are hours that were walked -/
def Hr (xs : List D) : Prop := ∀ x ∈ xs, ∃ t : Nat, x = .int (t : Nat) ∧ t < 700
section
variable {P : Tbl} (H : HWk P)
include H
variable {st : AS} {l s n : Nat} {xs : List Int} {order : Str} {h kh q f : Nat} {ds : List Deed} {rows : List D}
theorem r_told3 {m : Nat} (hm : 4 ≤ m) {rooms : Int} (hs : Hs st h kh rooms order ds) (v w : D) (c : Nat) (word : Str) (hc : (c = 4 ∧ word = "room") ∨ (c = 5 ∧ word = "hour")) (r : callF P (m - 1) 33 [.ref h, v, w] st = .exn c .non st) : callF P m 119 [.ref h, v, w] st = .ok (.str word) st := by
  obtain ⟨m, rfl⟩ := Nat.exists_eq_add_of_le' hm
  have r' : callF P (m + 3) 33 [.ref h, v, w] st = .exn c .non st := r
  rw [callF_eq H.told (m + 3) _ rfl]
  unfold f_law_told_3
  rcases hc with ⟨rfl, rfl⟩ | ⟨rfl, rfl⟩
  · simp [hs.at_, r', subX]
    exact gcR_same _ _
  · simp [hs.at_, r', subX]
    exact gcR_same _ _
/-- the shown values are those of the walk -/
theorem look3 {m : Nat} (hm : 8 ≤ m) (g : Good (n : Int) ds) (hn : n ≤ 3) (hz : ds.length < 1000) (k : K3 st l s xs n order h kh q f ds rows) {t : Nat} (ht : t < 700) {env : Ws.Env} (e2 : env[2]? = some (some (.int (n : Nat)))) (e5 : env[5]? = some (some (.ref h))) (e6 : env[6]? = some (some (.ref f))) (e9 : env[9]? = some (some (.int (t : Nat)))) (hl : env.length = 12) :
    ∃ gs, evT (callF P m) (.cmp .ne (.lc [("_law_room", 11)] (.meth 0 33 (.var 5) (.cons (.var 11) (.cons (.var 9) .nil))) (.name 11) (.rng1 (.var 2)) .no) (.ix (.var 6) (.var 9))) env st = .ok false (st ++ gs) := by
  have hsmn : small ((n : Nat) : Int) = true := small_ok (by omega) (by omega)
  have hsz : sized (rangeD 0 ((n : Nat) : Int).toNat) none st = .ok (rangeD 0 ((n : Nat) : Int).toNat, none) st := sized_rng (by omega)
  have eup : ∃ j, upTo ds ((t : Nat) : Int) = ds.take j := by
    have sd := good_sorted g
    refine ⟨(ds.takeWhile fun d => decide (d.hour ≤ ((t : Nat) : Int))).length, ?_⟩
    refine (upTo_cut (fun d hd => ?_) fun d hd => ?_).symm
    · have e : ds.take (ds.takeWhile fun d => decide (d.hour ≤ ((t : Nat) : Int))).length = ds.takeWhile fun d => decide (d.hour ≤ ((t : Nat) : Int)) := by
        have := List.takeWhile_prefix (fun d : Deed => decide (d.hour ≤ ((t : Nat) : Int))) (l := ds)
        exact (List.prefix_iff_eq_take.mp this).symm
      rw [e] at hd
      have := List.all_eq_true.mp (List.all_takeWhile (l := ds) (p := fun d => decide (d.hour ≤ ((t : Nat) : Int)))) d hd
      simpa using this
    · have e : ds.drop (ds.takeWhile fun d => decide (d.hour ≤ ((t : Nat) : Int))).length = ds.dropWhile fun d => decide (d.hour ≤ ((t : Nat) : Int)) := by
        conv => lhs; arg 2; rw [← List.takeWhile_append_dropWhile (p := fun d : Deed => decide (d.hour ≤ ((t : Nat) : Int))) (l := ds)]
        exact List.drop_left
      rw [e] at hd
      have sd2 : (ds.dropWhile fun d => decide (d.hour ≤ ((t : Nat) : Int))).Pairwise fun x y => x.hour ≤ y.hour := sd.sublist (List.dropWhile_sublist _)
      cases ed : ds.dropWhile (fun d => decide (d.hour ≤ ((t : Nat) : Int))) with
      | nil => rw [ed] at hd; cases hd
      | cons a r =>
        have ha : ¬ a.hour ≤ ((t : Nat) : Int) := by
          have := List.head_dropWhile_not (p := fun d : Deed => decide (d.hour ≤ ((t : Nat) : Int))) (l := ds) (by rw [ed]; simp)
          simp only [ed, List.head_cons] at this
          simpa using this
        rw [ed] at hd sd2
        rcases List.mem_cons.mp hd with rfl | hd
        · omega
        · have := (List.pairwise_cons.mp sd2).1 d hd
          omega
  obtain ⟨j, ej⟩ := eup
  have gu : Good (n : Int) (upTo ds (t : Nat)) := by rw [ej]; exact g.take j
  have acy := (gu.folAcy (by omega)).2
  have lcl := lcLoop_range (st := st) (w := none) (asg := fun d => Ws.assign (.name 11) d (wipeE env [11])) (elt := fun env st => evE (callF P m) (.meth 0 33 (.var 5) (.cons (.var 11) (.cons (.var 9) .nil))) env st) (watchOk_none st) (fun r => (env.set 11 none).set 11 (some (.int (0 + (r : Nat))))) (fun r => oD (shownBy (upTo ds (t : Nat)) order 3 (r : Nat) (t : Nat))) 0 ((n : Nat) : Int).toNat fun r hr => ⟨rfl, by
    have rs := r_shown H.toHSh (m := m) (j := 3) (by omega) k.hs hz (r : Nat) (t : Nat) (by omega) (by omega) (reach_ok acy _)
    have e00 : (0 : Int) + (r : Nat) = ((r : Nat) : Int) := by omega
    rw [e00]
    have a5 : ((env.set 11 none).set 11 (some (.int (r : Nat))))[5]? = some (some (.ref h)) := by rw [List.getElem?_set_ne (by omega), List.getElem?_set_ne (by omega)]; exact e5
    have a9 : ((env.set 11 none).set 11 (some (.int (r : Nat))))[9]? = some (some (.int (t : Nat))) := by rw [List.getElem?_set_ne (by omega), List.getElem?_set_ne (by omega)]; exact e9
    have a11 : ((env.set 11 none).set 11 (some (.int (r : Nat))))[11]? = some (some (.int (r : Nat))) := List.getElem?_set_self (by simp [hl])
    simp only [evE, evEs, a5, a9, a11, bind_ok, k.hs.at_, if_true, rs]⟩
  have etab : (List.range ((n : Nat) : Int).toNat).map (fun r : Nat => oD (shownBy (upTo ds (t : Nat)) order 3 (r : Nat) (t : Nat))) = rowOf ds order n t := rfl
  rw [etab] at lcl
  obtain ⟨rq, hr1, hr2⟩ := k.ro t ht
  have k2 := k.app hn [.lst (rowOf ds order n t)]
  have hx : ixD (st ++ [O.lst (rowOf ds order n t)]) (.ref f) (.int (t : Nat)) = some (.ref rq) := by
    rw [ixD_lst k2.rs, atI_nat (by rw [k.rl]; exact ht)]
    rw [← hr1]
    exact (List.getElem?_eq_getElem _).symm
  have hq2 : (st ++ [O.lst (rowOf ds order n t)])[rq]? = some (.lst (rowOf ds order n t)) := by
    rw [List.getElem?_append_left (List.getElem?_eq_some_iff.mp hr2).1]; exact hr2
  have ee := eqD_row (st := st ++ [O.lst (rowOf ds order n t)]) (a := st.length) (b := rq) (by rw [getLast_app, rowOf_map]) (by rw [hq2, rowOf_map])
  refine ⟨[.lst (rowOf ds order n t)], ?_⟩
  simp only [evT, evE, evSrc, evC, e2, bind_ok, hsmn, if_true, hsz, List.map_cons, List.map_nil] at lcl ⊢
  rw [lcl]
  simp only [bind_ok, newL, e6, e9, hx, ofD_some, cmpD, ee, Option.map_some, ofBT_some, Bool.not_true]
end
end Pg
end
end

section
set_option Elab.async false
set_option linter.all false
set_option maxRecDepth 100000
set_option maxHeartbeats 1000000
/-! MoK: the law k03, run. -/
noncomputable section
namespace Pg
open PySem Ws
theorem evEs_c (cl : Call) (e : E) (r : Es) (env : Ws.Env) (st : AS) : evEs cl (.cons e r) env st = (evE cl e env st).bind fun d st => (evEs cl r env st).bind fun ds st => .ok (d :: ds) st := by rw [evEs]
section
variable {P : Tbl} (H : HWk P)
include H
theorem law03_run (hlaw : P 154 = some f_law_k03) (n0 : Nat) (ns : List Int) (st : AS) (d : D) (hsc : Scr st d ns) : ∃ st', callF P (n0 + 10) 154 [d] st = .ok (.bl true) st' := by
  refine run_ex hlaw rfl (Q := fun r => ∃ st', r = .ok (.bl true) st') ?_
  refine Wp.of (show Wp (exSs (callF P (n0 + 9)) f_law_k03.body [some d, none, none, none, none, none, none, none, none, none, none, none] st) (fun r => ∃ s2, r = .ret (.bl true) s2) from ?_) fun r ⟨s2, hr⟩ => by
    rw [hr, res_ret]; exact gcR_bl st s2 true
  obtain ⟨st0, b0, D1, len0⟩ := begin_ok (P := P) H.toHLg.law_begin (n0 + 8) hsc
  generalize hl : st.length + 1 = l at b0 D1
  generalize hsl : st.length = s at D1
  unfold f_law_k03
  refine to_asg (st' := st0) (d := .ref l) (by simp only [evE, evEs, List.getElem?_cons_zero, bind_ok]; exact b0) ?_
  obtain ⟨c, s1, r1, c1, c2, d1, b1⟩ := draw_m H.toHLg.toHDr (m := n0 + 9) (by omega) D1 3 (by omega) (by omega)
  refine to_asg (d := .int (1 + c)) (st' := s1) (by simp only [evE, evEs, List.getElem?_cons_succ, List.getElem?_cons_zero, bind_ok, List.set_cons_succ, List.set_cons_zero, r1, bin_add]) ?_
  obtain ⟨n, hn⟩ : ∃ n : Nat, 1 + c = (n : Int) := ⟨(1 + c).toNat, by omega⟩
  have hn1 : 1 ≤ n ∧ n ≤ 3 := by omega
  rw [hn]
  obtain ⟨vo, s2, mo, d2, o2, eo⟩ := pick_okM H.toHLg.toHDr (m := n0 + 9) (by omega) d1 (es := (.cons (.lit (.str "newest")) (.cons (.lit (.str "away")) .nil))) (vals := [.str "newest", .str "away"]) (many := 2) (env := [some d, some (.ref l), some (.int (n : Nat)), none, none, none, none, none, none, none, none, none]) (i := 1) rfl (fun _ => rfl) rfl (by omega) (by omega)
  obtain ⟨order, hvo, hord⟩ : ∃ order, vo = .str order ∧ ordB (.str order) = true := by
    simp only [List.mem_cons, List.not_mem_nil, or_false] at mo
    rcases mo with e | e
    · exact ⟨_, e, by decide +kernel⟩
    · exact ⟨_, e, by decide +kernel⟩
  subst hvo
  refine to_asg eo ?_
  obtain ⟨ds, s3, r3, dr, d3, b3⟩ := log_ok H.toHLg (m := n0 + 9) (by omega) d2 (n : Int) 12 (by omega) (by omega)
  have r3' : callF P (n0 + 9) 102 [.ref l, .int (n : Nat), .int 12] s2 = _ := r3
  refine to_asg (d := .ref s2.length) (st' := s3 ++ [.lst (ds.map dD)]) (by
    simp only [evE, evEs, List.set_cons_succ, List.set_cons_zero, List.getElem?_cons_succ, List.getElem?_cons_zero, bind_ok, r3']) ?_
  have hlen : s3.length = s2.length := b3.len
  have hq : (s3 ++ [O.lst (ds.map dD)])[s2.length]? = some (.lst (ds.map dD)) := by rw [← hlen]; exact getLast_app _ _
  have hdl : ds.length ≤ 15 := by have := dr.len.2; omega
  have g := dr.good
  have r4 := r_replay H.toHSh.toHRe (m := n0 + 9) (by omega) (order := order) hq (show 1 ≤ ((n : Nat) : Int) ∧ ((n : Nat) : Int) ≤ 3 by omega) hord g (by omega)
  generalize hS4 : s3 ++ [O.lst (ds.map dD)] = s4 at hq r4
  have d4 : Dw s4 l s ns := by rw [← hS4]; exact d3.app _
  refine to_asg (d := .ref s4.length) (st' := nh s4 (n : Nat) order ds) (by
    simp only [evE, evEs, List.set_cons_succ, List.set_cons_zero, List.getElem?_cons_succ, List.getElem?_cons_zero, bind_ok, r4]) ?_
  have hs5 := nh_hs s4 ((n : Nat) : Int) order ds
  have hq5 : (nh s4 ((n : Nat) : Int) order ds)[s2.length]? = some (.lst (ds.map dD)) := by rw [nh_old (List.getElem?_eq_some_iff.mp hq).1]; exact hq
  have d5 : Dw (nh s4 ((n : Nat) : Int) order ds) l s ns := by unfold nh; exact d4.app _
  generalize hS5 : nh s4 ((n : Nat) : Int) order ds = s5 at hs5 hq5 d5
  generalize s4.length = hh at hs5
  generalize hh + 1 = kh at hs5
  generalize s2.length = q at hq5
  obtain ⟨f, s6, rows, r6, old6, f6, l6, lf, ll, ro6⟩ := r_hours H (m := n0 + 9) (by omega) (k := q) g hn1.2 (by omega) hq5 order
  refine to_asg (d := .ref f) (st' := s6) (by
    simp only [evE, evEs, List.set_cons_succ, List.set_cons_zero, List.getElem?_cons_succ, List.getElem?_cons_zero, bind_ok, r6]) ?_
  have k6 : K3 s6 l s ns n order hh kh q f ds rows := by
    have lt : ∀ {k : Nat} {x : O}, s5[k]? = some x → k < s5.length := fun e => (List.getElem?_eq_some_iff.mp e).1
    obtain ⟨x, y, z, e, p⟩ := d5.at_
    refine ⟨⟨d5.ne, by rw [old6 _ d5.lts]; exact d5.src, x, y, z, by rw [old6 _ d5.lt]; exact e, p⟩, ⟨?_, ?_⟩, ?_, l6, f6, ro6⟩
    · rw [old6 _ (lt hs5.at_)]; exact hs5.at_
    · rw [old6 _ (lt hs5.lst)]; exact hs5.lst
    · rw [old6 _ (lt hq5)]; exact hq5
  -- the deeds' hours
  have it : itemsD s6 (.ref q) = some (ds.map dD) := items_lst k6.at_
  let L7 : List D := (ds.filter fun d => decide (d.hour < 700)).map fun d => .int d.hour
  have hL7 : Hr L7 := fun x hx => by
    obtain ⟨d, hd, rfl⟩ := List.mem_map.mp hx
    have h1 := List.mem_filter.mp hd
    have h2 := (good_le g d h1.1).1
    have h3 : d.hour < 700 := by simpa using h1.2
    exact ⟨d.hour.toNat, by congr 1; omega, by omega⟩
  have e7 : evE (callF P (n0 + 9)) (.lc [("_law_deed_here", 8)] (.ix (.var 8) (.neg (.lit (.int 1)))) (.name 8) (.of (.var 4)) (.of (.cmp .lt (.ix (.var 8) (.neg (.lit (.int 1)))) (.lit (.int 700))))) [some d, some (.ref l), some (.int (n : Nat)), some (.str order), some (.ref q), some (.ref hh), some (.ref f), none, none, none, none, none] s6 = .ok (.ref s6.length) (s6 ++ [.lst L7]) := by
    have := lcLoop_pure (st := s6) (w := some (q, ds.map dD)) (asg := fun x => Ws.assign (.name 8) x (wipeE [some d, some (.ref l), some (.int (n : Nat)), some (.str order), some (.ref q), some (.ref hh), some (.ref f), none, none, none, none, none] [8])) (tst := fun env st => evC (callF P (n0 + 9)) (.of (.cmp .lt (.ix (.var 8) (.neg (.lit (.int 1)))) (.lit (.int 700)))) env st) (elt := fun env st => evE (callF P (n0 + 9)) (.ix (.var 8) (.neg (.lit (.int 1)))) env st) (show watchOk (some (q, ds.map dD)) s6 from it) (fun x => [some d, some (.ref l), some (.int (n : Nat)), some (.str order), some (.ref q), some (.ref hh), some (.ref f), none, some x, none, none, none]) (fun x => match ixD s6 x (.int (-1)) with
      | some (.int i) => decide (i < 700)
      | _ => false) (fun x => (ixD s6 x (.int (-1))).getD .non) (ds.map dD) fun x hx => by
        obtain ⟨y, _, rfl⟩ := List.mem_map.mp hx
        have e : ixD s6 (dD y) (.int (-1)) = some (.int y.hour) := by cases y <;> rfl
        refine ⟨rfl, ?_, fun _ => ?_⟩
        · rw [e]
          simp [e]
        · rw [e]
          simp [e]
    have em : (((ds.map dD).filter fun x => match ixD s6 x (.int (-1)) with
      | some (.int i) => decide (i < 700)
      | _ => false).map fun x => (ixD s6 x (.int (-1))).getD .non) = L7 := by
      rw [List.filter_map, List.map_map]
      have ef : ds.filter ((fun x => match ixD s6 x (.int (-1)) with
        | some (.int i) => decide (i < 700)
        | _ => false) ∘ dD) = ds.filter fun d => decide (d.hour < 700) := List.filter_congr fun y _ => by
          have e : ixD s6 (dD y) (.int (-1)) = some (.int y.hour) := by cases y <;> rfl
          show (match ixD s6 (dD y) (.int (-1)) with
            | some (.int i) => decide (i < 700)
            | _ => false) = _
          rw [e]
      rw [ef]
      refine List.map_congr_left fun y _ => ?_
      have e : ixD s6 (dD y) (.int (-1)) = some (.int y.hour) := by cases y <;> rfl
      show (ixD s6 (dD y) (.int (-1))).getD .non = _
      rw [e]; rfl
    rw [em] at this
    simp only [evE, evSrc, evC, evT, List.getElem?_cons_succ, List.getElem?_cons_zero, bind_ok, it, List.map_cons, List.map_nil] at this ⊢
    rw [this]
    simp only [bind_ok, newL]
  refine to_asg e7 ?_
  have hl7 : L7.length ≤ 15 := by
    have : (ds.filter fun d => decide (d.hour < 700)).length ≤ ds.length := List.length_filter_le _ _
    simp only [L7, List.length_map]
    omega
  clear_value L7
  have k7 := k6.app hn1.2 [.lst L7]
  have hs7 : (s6 ++ [O.lst L7])[s6.length]? = some (.lst L7) := getLast_app _ _
  have hl6 : l < s6.length := k6.dw.lt
  generalize hsm : s6.length = sm at hs7 hl6
  generalize hS7 : s6 ++ [O.lst L7] = s7 at k7 hs7
  have hsm7 : sm < s7.length := (List.getElem?_eq_some_iff.mp hs7).1
  -- the hours that are asked
  obtain ⟨items, z, s10, e10, k10, z10, hr10⟩ : ∃ items z s10, evSrc (callF P (n0 + 9)) (.of (.bin .add (.bin .add (.lrng3 (.lit (.int 0)) (.lit (.int 700)) (.lit (.int 5))) (.lc [("_law_k", 10)] (.call 91 (.cons (.var 1) (.cons (.lit (.int 700)) .nil))) (.name 10) (.rng1 (.lit (.int 60))) .no)) (.var 7))) [some d, some (.ref l), some (.int (n : Nat)), some (.str order), some (.ref q), some (.ref hh), some (.ref f), some (.ref sm), none, none, none, none] s7 = .ok (items, some (z, items)) s10 ∧ K3 s10 l s ns n order hh kh q f ds rows ∧ s10[z]? = some (.lst items) ∧ Hr items := by
    let R5 : List D := rangeC 0 5 140
    have hR5 : Hr R5 := fun x hx => by
      obtain ⟨i, hi, rfl⟩ := List.mem_map.mp hx
      have := List.mem_range.mp hi
      exact ⟨i * 5, by congr 1; omega, by omega⟩
    have lR5 : R5.length = 140 := by simp [R5, rangeC]
    have e1 : lr3 (.int 0) (.int 700) (.int 5) s7 = .ok (.ref s7.length) (s7 ++ [.lst R5]) := by
      unfold lr3
      dsimp only
      rw [if_pos (by omega)]
      rfl
    clear_value R5
    have k8 := k7.app hn1.2 [.lst R5]
    have h8 : (s7 ++ [O.lst R5])[s7.length]? = some (.lst R5) := getLast_app _ _
    have hsm8 : (s7 ++ [O.lst R5])[sm]? = some (.lst L7) := by rw [List.getElem?_append_left hsm7]; exact hs7
    generalize hS8 : s7 ++ [O.lst R5] = s8 at e1 k8 h8 hsm8
    have hsm60 : small 60 = true := small_ok (by omega) (by omega)
    have hsz : sized (rangeD 0 (60 : Int).toNat) none s8 = .ok (rangeD 0 (60 : Int).toNat, none) s8 := sized_rng (by decide)
    obtain ⟨ks, s9, e2, l2, q2, d9, b9⟩ := draws_lc (P := P) (i := 91) H.toHLg.toHDr.law_draw (n0 + 8) (st0 := s8) (st := s8) (w := none) (asg := fun x => Ws.assign (.name 10) x (wipeE [some d, some (.ref l), some (.int (n : Nat)), some (.str order), some (.ref q), some (.ref hh), some (.ref f), some (.ref sm), none, none, none, none] [10])) (elt := fun env st => evE (callF P (n0 + 9)) (.call 91 (.cons (.var 1) (.cons (.lit (.int 700)) .nil))) env st) 700 (by omega) (by omega) (fun st _ => watchOk_none st) (fun x => [some d, some (.ref l), some (.int (n : Nat)), some (.str order), some (.ref q), some (.ref hh), some (.ref f), some (.ref sm), none, none, some x, none]) (fun _ x => x) (rangeD 0 (60 : Int).toNat) s8 k8.dw (.refl _ _) fun y hy => ⟨rfl, fun st' _ => by
      simp only [evE, evEs, List.getElem?_cons_succ, List.getElem?_cons_zero, bind_ok]
      generalize callF P (n0 + 9) 91 [.ref l, .int 700] st' = rr
      cases rr <;> rfl⟩
    have ez : List.zipWith (fun _ x => x) (rangeD 0 (60 : Int).toNat) (ks.map D.int) = ks.map D.int := by
      have key : ∀ (a : List D) (b : List D), b.length = a.length → List.zipWith (fun _ x => x) a b = b := by
        intro a
        induction a with
        | nil => intro b hb; simp at hb; simp [hb]
        | cons u a ih => intro b hb; cases b with
          | nil => simp at hb
          | cons v b => simp only [List.zipWith_cons_cons]; rw [ih b (by simpa using hb)]
      exact key _ _ (by rw [List.length_map, l2])
    rw [ez] at e2
    have hlk : ks.length = 60 := by rw [l2, rangeD_len]; rfl
    have hK : Hr (ks.map D.int) := fun x hx => by
      obtain ⟨i, hi, rfl⟩ := List.mem_map.mp hx
      have := q2 i hi
      exact ⟨i.toNat, by congr 1; omega, by omega⟩
    have k9 := (k8.to hn1.2 d9 b9.old).app hn1.2 [.lst (ks.map D.int)]
    have l9 : s9.length = s8.length := b9.len
    have h7len : s7.length < s8.length := (List.getElem?_eq_some_iff.mp h8).1
    have h9a : (s9 ++ [O.lst (ks.map D.int)])[s7.length]? = some (.lst R5) := by
      rw [List.getElem?_append_left (by omega), b9.at_ _ (by omega)]; exact h8
    have h9b : (s9 ++ [O.lst (ks.map D.int)])[s9.length]? = some (.lst (ks.map D.int)) := getLast_app _ _
    have h9c : (s9 ++ [O.lst (ks.map D.int)])[sm]? = some (.lst L7) := by
      rw [List.getElem?_append_left (by omega), b9.at_ _ (by omega)]; exact hsm8
    have hb1 := bin_lst h9a h9b (by rw [lR5, List.length_map, hlk]; decide)
    have k10 := k9.app hn1.2 [.lst (R5 ++ ks.map D.int)]
    have h10a : (s9 ++ [O.lst (ks.map D.int)] ++ [O.lst (R5 ++ ks.map D.int)])[(s9 ++ [O.lst (ks.map D.int)]).length]? = some (.lst (R5 ++ ks.map D.int)) := getLast_app _ _
    have h10c : (s9 ++ [O.lst (ks.map D.int)] ++ [O.lst (R5 ++ ks.map D.int)])[sm]? = some (.lst L7) := by
      rw [List.getElem?_append_left (List.getElem?_eq_some_iff.mp h9c).1]; exact h9c
    have hb2 := bin_lst h10a h10c (by rw [List.length_append, lR5, List.length_map, hlk]; unfold szMax; omega)
    have k11 := k10.app hn1.2 [.lst (R5 ++ ks.map D.int ++ L7)]
    have h11 : (s9 ++ [O.lst (ks.map D.int)] ++ [O.lst (R5 ++ ks.map D.int)] ++ [O.lst (R5 ++ ks.map D.int ++ L7)])[(s9 ++ [O.lst (ks.map D.int)] ++ [O.lst (R5 ++ ks.map D.int)]).length]? = some (.lst (R5 ++ ks.map D.int ++ L7)) := getLast_app _ _
    refine ⟨R5 ++ ks.map D.int ++ L7, (s9 ++ [O.lst (ks.map D.int)] ++ [O.lst (R5 ++ ks.map D.int)]).length, _, ?_, k11, h11, fun x hx => ?_⟩
    · have e2' := e2
      simp only [evE, List.map_cons, List.map_nil] at e2'
      simp only [evSrc, evE, evC, bind_ok, negD, e1, hsm60, if_true, hsz, List.map_cons, List.map_nil]
      rw [e2']
      simp only [bind_ok, newL, hb1, List.getElem?_cons_succ, List.getElem?_cons_zero, hb2, items_lst h11]
    · rcases List.mem_append.mp hx with hx | hx
      · rcases List.mem_append.mp hx with hx | hx
        · exact hR5 x hx
        · exact hK x hx
      · exact hL7 x hx
  refine to_for (xs := items) (w := some (z, items)) (st' := s10) e10
    (fun i env s' => (∃ o9, env = [some d, some (.ref l), some (.int (n : Nat)), some (.str order), some (.ref q), some (.ref hh), some (.ref f), some (.ref sm), none, o9, none, none]) ∧ ∃ gs, s' = s10 ++ gs)
    ⟨⟨none, rfl⟩, [], by simp⟩ (fun i env s' ⟨_, gs, e⟩ => by
      subst e
      exact items_lst (by rw [List.getElem?_append_left (List.getElem?_eq_some_iff.mp z10).1]; exact z10)) ?_ ?_
  · rintro i x env s' hx ⟨⟨o9, rfl⟩, gs, rfl⟩
    obtain ⟨t, rfl, ht⟩ := hr10 x (List.mem_of_getElem? hx)
    refine ⟨[some d, some (.ref l), some (.int (n : Nat)), some (.str order), some (.ref q), some (.ref hh), some (.ref f), some (.ref sm), none, some (.int (t : Nat)), none, none], rfl, ?_⟩
    obtain ⟨gs2, e⟩ := look3 H (m := n0 + 9) (by omega) g hn1.2 (by omega) (k10.app hn1.2 gs) ht (env := [some d, some (.ref l), some (.int (n : Nat)), some (.str order), some (.ref q), some (.ref hh), some (.ref f), some (.ref sm), none, some (.int (t : Nat)), none, none]) rfl rfl rfl rfl rfl
    refine to_iteN e (to_nil ?_)
    exact ⟨⟨_, rfl⟩, gs ++ gs2, by rw [List.append_assoc]⟩
  · rintro env s' ⟨⟨o9, rfl⟩, gs, rfl⟩
    have k12 := k10.app hn1.2 gs
    obtain ⟨v, s13, mv, d13, o13, e13⟩ := pick_okM H.toHLg.toHDr (m := n0 + 9) (by omega) k12.dw (es := (.cons (.var 2) (.cons (.neg (.lit (.int 1))) (.cons (.lit .non) (.cons (.lit (.bl true)) .nil))))) (vals := [.int (n : Nat), .int (-1), .non, .bl true]) (many := 4) (env := [some d, some (.ref l), some (.int (n : Nat)), some (.str order), some (.ref q), some (.ref hh), some (.ref f), some (.ref sm), none, none, none, none]) (i := 1) rfl (fun _ => rfl) rfl (by omega) (by omega)
    have k13 := k12.to hn1.2 d13 o13
    have hv : tyB s13 v = true ∧ numB v 0 ((n : Int) - 1) = false := by
      simp only [List.mem_cons, List.not_mem_nil, or_false] at mv
      rcases mv with rfl | rfl | rfl | rfl
      · refine ⟨rfl, ?_⟩
        rw [Bool.eq_false_iff]
        intro z
        simp [numB] at z
        omega
      · exact ⟨rfl, by simp [numB]⟩
      · exact ⟨rfl, rfl⟩
      · exact ⟨rfl, rfl⟩
    have rr := r_told3 H (m := n0 + 9) (by omega) k13.hs v (.int (-1)) 4 "room" (.inl ⟨rfl, rfl⟩) (r_shown_room H.toHSh (m := n0 + 8) (by omega) k13.hs hv.1 hv.2)
    refine to_iteN (st' := s13) ?_ ?_
    · have e13' : evE (callF P (n0 + 9)) (.ix (.lst (.cons (.var 2) (.cons (.neg (.lit (.int 1))) (.cons (.lit .non) (.cons (.lit (.bl true)) .nil))))) (.call 91 (.cons (.var 1) (.cons (.lit (.int 4)) .nil)))) [some d, some (.ref l), some (.int (n : Nat)), some (.str order), some (.ref q), some (.ref hh), some (.ref f), some (.ref sm), none, none, none, none] (s10 ++ gs) = .ok v s13 := e13
      have ea : evEs (callF P (n0 + 9)) (.cons (.var 5) (.cons (.ix (.lst (.cons (.var 2) (.cons (.neg (.lit (.int 1))) (.cons (.lit .non) (.cons (.lit (.bl true)) .nil))))) (.call 91 (.cons (.var 1) (.cons (.lit (.int 4)) .nil)))) (.cons (.neg (.lit (.int 1))) .nil))) [some d, some (.ref l), some (.int (n : Nat)), some (.str order), some (.ref q), some (.ref hh), some (.ref f), some (.ref sm), none, none, none, none] (s10 ++ gs) = .ok [.ref hh, v, .int (-1)] s13 := by
        have ev5 : evE (callF P (n0 + 9)) (.var 5) [some d, some (.ref l), some (.int (n : Nat)), some (.str order), some (.ref q), some (.ref hh), some (.ref f), some (.ref sm), none, none, none, none] (s10 ++ gs) = .ok (.ref hh) (s10 ++ gs) := rfl
        rw [evEs_c, ev5, bind_ok, evEs_c, e13', bind_ok]
        rfl
      show evT (callF P (n0 + 9)) (.cmp .ne (.call 119 _) (.lit (.str "room"))) [some d, some (.ref l), some (.int (n : Nat)), some (.str order), some (.ref q), some (.ref hh), some (.ref f), some (.ref sm), none, none, none, none] (s10 ++ gs) = _
      rw [evT, evE, ea, bind_ok, rr, bind_ok, evE, bind_ok]
      simp only [cmpD, eq_ss, beq_self_eq_true, Option.map_some, ofBT_some, Bool.not_true]
    · obtain ⟨v2, s14, mv2, d14, o14, e14⟩ := pick_okM H.toHLg.toHDr (m := n0 + 9) (by omega) k13.dw (es := (.cons (.neg (.lit (.int 1))) (.cons (.lit .non) (.cons (.lit (.bl true)) (.cons (.lit (.str "1")) .nil))))) (vals := [.int (-1), .non, .bl true, .str "1"]) (many := 4) (env := [some d, some (.ref l), some (.int (n : Nat)), some (.str order), some (.ref q), some (.ref hh), some (.ref f), some (.ref sm), none, none, none, none]) (i := 1) rfl (fun _ => rfl) rfl (by omega) (by omega)
      have k14 := k13.to hn1.2 d14 o14
      have hv2 : v2 = .int (-1) ∨ v2 = .non ∨ v2 = .bl true ∨ ∃ s, v2 = .str s := by
        simp only [List.mem_cons, List.not_mem_nil, or_false] at mv2
        rcases mv2 with rfl | rfl | rfl | rfl
        · exact .inl rfl
        · exact .inr (.inl rfl)
        · exact .inr (.inr (.inl rfl))
        · exact .inr (.inr (.inr ⟨_, rfl⟩))
      have rr2 := r_told3 H (m := n0 + 9) (by omega) k14.hs (.int 0) v2 5 "hour" (.inr ⟨rfl, rfl⟩) (r_shown_hour H.toHSh (m := n0 + 8) (by omega) k14.hs (room := 0) (by omega) hv2)
      refine to_ret (d := .bl true) (st' := s14) ?_ ⟨_, rfl⟩
      have e14' : evE (callF P (n0 + 9)) (.ix (.lst (.cons (.neg (.lit (.int 1))) (.cons (.lit .non) (.cons (.lit (.bl true)) (.cons (.lit (.str "1")) .nil))))) (.call 91 (.cons (.var 1) (.cons (.lit (.int 4)) .nil)))) [some d, some (.ref l), some (.int (n : Nat)), some (.str order), some (.ref q), some (.ref hh), some (.ref f), some (.ref sm), none, none, none, none] s13 = .ok v2 s14 := e14
      have ea : evEs (callF P (n0 + 9)) (.cons (.var 5) (.cons (.lit (.int 0)) (.cons (.ix (.lst (.cons (.neg (.lit (.int 1))) (.cons (.lit .non) (.cons (.lit (.bl true)) (.cons (.lit (.str "1")) .nil))))) (.call 91 (.cons (.var 1) (.cons (.lit (.int 4)) .nil)))) .nil))) [some d, some (.ref l), some (.int (n : Nat)), some (.str order), some (.ref q), some (.ref hh), some (.ref f), some (.ref sm), none, none, none, none] s13 = .ok [.ref hh, .int 0, v2] s14 := by
        have ev5 : evE (callF P (n0 + 9)) (.var 5) [some d, some (.ref l), some (.int (n : Nat)), some (.str order), some (.ref q), some (.ref hh), some (.ref f), some (.ref sm), none, none, none, none] s13 = .ok (.ref hh) s13 := rfl
        have ev0 : evE (callF P (n0 + 9)) (.lit (.int 0)) [some d, some (.ref l), some (.int (n : Nat)), some (.str order), some (.ref q), some (.ref hh), some (.ref f), some (.ref sm), none, none, none, none] s13 = .ok (.int 0) s13 := rfl
        rw [evEs_c, ev5, bind_ok, evEs_c, ev0, bind_ok, evEs_c, e14', bind_ok]
        rfl
      show evE (callF P (n0 + 9)) (.cmp .eq (.call 119 _) (.lit (.str "hour"))) [some d, some (.ref l), some (.int (n : Nat)), some (.str order), some (.ref q), some (.ref hh), some (.ref f), some (.ref sm), none, none, none, none] s13 = _
      rw [evE, evE, ea, bind_ok, rr2, bind_ok, evE, bind_ok]
      simp only [cmpD, eq_ss, beq_self_eq_true, ofB_some]
end
end Pg
end
end

section
set_option Elab.async false
set_option linter.all false
set_option maxRecDepth 100000
set_option maxHeartbeats 0
/-! K03: the law's text and tables (printed by gen.py). -/
noncomputable section
namespace K03
open PySem PySem.Spec PyProof.Rows L2 Ws Pg
def top (i : Nat) : Stmt := PySem.Challenge.rw_weekswitch_k03_whole_hours_walked.prog.main.body.getD i (.Pass ⟨0, 0, 0, 0⟩)
def clsB : Stmt → List Stmt
  | .ClassDef (body := b) .. => b
  | _ => []
abbrev s_is_number : Stmt := top 16
def d_is_number : Df := ⟨⟨("is_number", none), "is_number", "is_number", defArgs s_is_number, defBody s_is_number, defScope s_is_number, [], []⟩, ["value", "least", "most"], ["value", "least", "most"], f_is_number, false⟩
theorem b_is_number : BindOk d_is_number := fun _ _ _ _ _ _ us hl => match us, hl with | [_, _, _], _ => rfl
abbrev s_is_switch : Stmt := top 17
def d_is_switch : Df := ⟨⟨("is_switch", none), "is_switch", "is_switch", defArgs s_is_switch, defBody s_is_switch, defScope s_is_switch, [], []⟩, ["value"], ["value"], f_is_switch, false⟩
theorem b_is_switch : BindOk d_is_switch := fun _ _ _ _ _ _ us hl => match us, hl with | [_], _ => rfl
abbrev s_is_plan : Stmt := top 18
def d_is_plan : Df := ⟨⟨("is_plan", none), "is_plan", "is_plan", defArgs s_is_plan, defBody s_is_plan, defScope s_is_plan, [], []⟩, ["value", "one", "two"], ["value"], f_is_plan, false⟩
theorem b_is_plan : BindOk d_is_plan := fun _ _ _ _ _ _ us hl => match us, hl with | [_], _ => rfl
abbrev s_check_plan : Stmt := top 19
def d_check_plan : Df := ⟨⟨("check_plan", none), "check_plan", "check_plan", defArgs s_check_plan, defBody s_check_plan, defScope s_check_plan, [], []⟩, ["plan"], ["plan"], f_check_plan, false⟩
theorem b_check_plan : BindOk d_check_plan := fun _ _ _ _ _ _ us hl => match us, hl with | [_], _ => rfl
abbrev s_plan_value : Stmt := top 20
def d_plan_value : Df := ⟨⟨("plan_value", none), "plan_value", "plan_value", defArgs s_plan_value, defBody s_plan_value, defScope s_plan_value, [], []⟩, ["plan", "hour", "found", "place", "value"], ["plan", "hour"], f_plan_value, false⟩
theorem b_plan_value : BindOk d_plan_value := fun _ _ _ _ _ _ us hl => match us, hl with | [_, _], _ => rfl
abbrev s_next_switch : Stmt := top 21
def d_next_switch : Df := ⟨⟨("next_switch", none), "next_switch", "next_switch", defArgs s_next_switch, defBody s_next_switch, defScope s_next_switch, [], []⟩, ["plan", "hour", "rests", "place", "value"], ["plan", "hour"], f_next_switch, false⟩
theorem b_next_switch : BindOk d_next_switch := fun _ _ _ _ _ _ us hl => match us, hl with | [_, _], _ => rfl
abbrev s_check_order : Stmt := top 25
def d_check_order : Df := ⟨⟨("check_order", none), "check_order", "check_order", defArgs s_check_order, defBody s_check_order, defScope s_check_order, [], []⟩, ["order"], ["order"], f_check_order, false⟩
theorem b_check_order : BindOk d_check_order := fun _ _ _ _ _ _ us hl => match us, hl with | [_], _ => rfl
abbrev s_is_value : Stmt := top 26
def d_is_value : Df := ⟨⟨("is_value", none), "is_value", "is_value", defArgs s_is_value, defBody s_is_value, defScope s_is_value, [], []⟩, ["value"], ["value"], f_is_value, false⟩
theorem b_is_value : BindOk d_is_value := fun _ _ _ _ _ _ us hl => match us, hl with | [_], _ => rfl
abbrev s_is_until : Stmt := top 27
def d_is_until : Df := ⟨⟨("is_until", none), "is_until", "is_until", defArgs s_is_until, defBody s_is_until, defScope s_is_until, [], []⟩, ["value"], ["value"], f_is_until, false⟩
theorem b_is_until : BindOk d_is_until := fun _ _ _ _ _ _ us hl => match us, hl with | [_], _ => rfl
abbrev s_is_stretch : Stmt := top 28
def d_is_stretch : Df := ⟨⟨("is_stretch", none), "is_stretch", "is_stretch", defArgs s_is_stretch, defBody s_is_stretch, defScope s_is_stretch, [], []⟩, ["begin", "end"], ["begin", "end"], f_is_stretch, false⟩
theorem b_is_stretch : BindOk d_is_stretch := fun _ _ _ _ _ _ us hl => match us, hl with | [_, _], _ => rfl
abbrev s_hour_of : Stmt := top 29
def d_hour_of : Df := ⟨⟨("hour_of", none), "hour_of", "hour_of", defArgs s_hour_of, defBody s_hour_of, defScope s_hour_of, [], []⟩, ["deed"], ["deed"], f_hour_of, false⟩
theorem b_hour_of : BindOk d_hour_of := fun _ _ _ _ _ _ us hl => match us, hl with | [_], _ => rfl
abbrev s_plan_pieces : Stmt := top 30
def d_plan_pieces : Df := ⟨⟨("plan_pieces", none), "plan_pieces", "plan_pieces", defArgs s_plan_pieces, defBody s_plan_pieces, defScope s_plan_pieces, [], []⟩, ["deeds", "room", "found", "deed"], ["deeds", "room"], f_plan_pieces, false⟩
theorem b_plan_pieces : BindOk d_plan_pieces := fun _ _ _ _ _ _ us hl => match us, hl with | [_, _], _ => rfl
abbrev s_end_of_next : Stmt := top 31
def d_end_of_next : Df := ⟨⟨("end_of_next", none), "end_of_next", "end_of_next", defArgs s_end_of_next, defBody s_end_of_next, defScope s_end_of_next, [], []⟩, ["deeds", "room", "hour", "pieces", "at", "begin", "plan", "end", "found"], ["deeds", "room", "hour"], f_end_of_next, false⟩
theorem b_end_of_next : BindOk d_end_of_next := fun _ _ _ _ _ _ us hl => match us, hl with | [_, _, _], _ => rfl
abbrev s_turning_at : Stmt := top 32
def d_turning_at : Df := ⟨⟨("turning_at", none), "turning_at", "turning_at", defArgs s_turning_at, defBody s_turning_at, defScope s_turning_at, [], []⟩, ["deeds", "room", "hour", "at", "deed", "until", "end"], ["deeds", "room", "hour"], f_turning_at, false⟩
theorem b_turning_at : BindOk d_turning_at := fun _ _ _ _ _ _ us hl => match us, hl with | [_, _, _], _ => rfl
abbrev s_away_at : Stmt := top 33
def d_away_at : Df := ⟨⟨("away_at", none), "away_at", "away_at", defArgs s_away_at, defBody s_away_at, defScope s_away_at, [], []⟩, ["deeds", "hour", "at", "deed", "holds"], ["deeds", "hour"], f_away_at, false⟩
theorem b_away_at : BindOk d_away_at := fun _ _ _ _ _ _ us hl => match us, hl with | [_, _], _ => rfl
abbrev s_followed_by : Stmt := top 34
def d_followed_by : Df := ⟨⟨("followed_by", none), "followed_by", "followed_by", defArgs s_followed_by, defBody s_followed_by, defScope s_followed_by, [], []⟩, ["deeds", "room", "deed"], ["deeds", "room"], f_followed_by, false⟩
theorem b_followed_by : BindOk d_followed_by := fun _ _ _ _ _ _ us hl => match us, hl with | [_, _], _ => rfl
abbrev s_shown_by : Stmt := top 35
def d_shown_by : Df := ⟨⟨("shown_by", none), "shown_by", "shown_by", defArgs s_shown_by, defBody s_shown_by, defScope s_shown_by, [], []⟩, ["deeds", "order", "room", "hour", "turning", "away", "followed", "value"], ["deeds", "order", "room", "hour"], f_shown_by, false⟩
theorem b_shown_by : BindOk d_shown_by := fun _ _ _ _ _ _ us hl => match us, hl with | [_, _, _, _], _ => rfl
abbrev s_House_init : Stmt := (clsB (top 36)).getD 0 (.Pass ⟨0, 0, 0, 0⟩)
def d_House_init : Df := ⟨⟨("House", some "__init__"), "__init__", "House.__init__", defArgs s_House_init, defBody s_House_init, defScope s_House_init, [], []⟩, ["self", "rooms", "order"], ["self", "rooms", "order"], f_House_init, false⟩
theorem b_House_init : BindOk d_House_init := fun _ _ _ _ _ _ us hl => match us, hl with | [_, _, _], _ => rfl
abbrev s_House_now : Stmt := (clsB (top 36)).getD 1 (.Pass ⟨0, 0, 0, 0⟩)
def d_House_now : Df := ⟨⟨("House", some "now"), "now", "House.now", defArgs s_House_now, defBody s_House_now, defScope s_House_now, [], []⟩, ["self"], ["self"], f_House_now, true⟩
theorem b_House_now : BindOk d_House_now := fun _ _ _ _ _ _ us hl => match us, hl with | [_], _ => rfl
abbrev s_House_check_room : Stmt := (clsB (top 36)).getD 2 (.Pass ⟨0, 0, 0, 0⟩)
def d_House_check_room : Df := ⟨⟨("House", some "check_room"), "check_room", "House.check_room", defArgs s_House_check_room, defBody s_House_check_room, defScope s_House_check_room, [], []⟩, ["self", "room"], ["self", "room"], f_House_check_room, false⟩
theorem b_House_check_room : BindOk d_House_check_room := fun _ _ _ _ _ _ us hl => match us, hl with | [_, _], _ => rfl
abbrev s_House_check_hour : Stmt := (clsB (top 36)).getD 3 (.Pass ⟨0, 0, 0, 0⟩)
def d_House_check_hour : Df := ⟨⟨("House", some "check_hour"), "check_hour", "House.check_hour", defArgs s_House_check_hour, defBody s_House_check_hour, defScope s_House_check_hour, [], []⟩, ["self", "hour"], ["self", "hour"], f_House_check_hour, false⟩
theorem b_House_check_hour : BindOk d_House_check_hour := fun _ _ _ _ _ _ us hl => match us, hl with | [_, _], _ => rfl
abbrev s_House_plan_room : Stmt := (clsB (top 36)).getD 4 (.Pass ⟨0, 0, 0, 0⟩)
def d_House_plan_room : Df := ⟨⟨("House", some "plan_room"), "plan_room", "House.plan_room", defArgs s_House_plan_room, defBody s_House_plan_room, defScope s_House_plan_room, [], []⟩, ["self", "room", "plan", "hour"], ["self", "room", "plan", "hour"], f_House_plan_room, false⟩
theorem b_House_plan_room : BindOk d_House_plan_room := fun _ _ _ _ _ _ us hl => match us, hl with | [_, _, _, _], _ => rfl
abbrev s_House_turn : Stmt := (clsB (top 36)).getD 5 (.Pass ⟨0, 0, 0, 0⟩)
def d_House_turn : Df := ⟨⟨("House", some "turn"), "turn", "House.turn", defArgs s_House_turn, defBody s_House_turn, defScope s_House_turn, [], []⟩, ["self", "room", "value", "until", "hour"], ["self", "room", "value", "until", "hour"], f_House_turn, false⟩
theorem b_House_turn : BindOk d_House_turn := fun _ _ _ _ _ _ us hl => match us, hl with | [_, _, _, _, _], _ => rfl
abbrev s_House_back : Stmt := (clsB (top 36)).getD 6 (.Pass ⟨0, 0, 0, 0⟩)
def d_House_back : Df := ⟨⟨("House", some "back"), "back", "House.back", defArgs s_House_back, defBody s_House_back, defScope s_House_back, [], []⟩, ["self", "room", "hour"], ["self", "room", "hour"], f_House_back, false⟩
theorem b_House_back : BindOk d_House_back := fun _ _ _ _ _ _ us hl => match us, hl with | [_, _, _], _ => rfl
abbrev s_House_away : Stmt := (clsB (top 36)).getD 7 (.Pass ⟨0, 0, 0, 0⟩)
def d_House_away : Df := ⟨⟨("House", some "away"), "away", "House.away", defArgs s_House_away, defBody s_House_away, defScope s_House_away, [], []⟩, ["self", "begin", "end", "value", "hour"], ["self", "begin", "end", "value", "hour"], f_House_away, false⟩
theorem b_House_away : BindOk d_House_away := fun _ _ _ _ _ _ us hl => match us, hl with | [_, _, _, _, _], _ => rfl
abbrev s_House_home : Stmt := (clsB (top 36)).getD 8 (.Pass ⟨0, 0, 0, 0⟩)
def d_House_home : Df := ⟨⟨("House", some "home"), "home", "House.home", defArgs s_House_home, defBody s_House_home, defScope s_House_home, [], []⟩, ["self", "hour"], ["self", "hour"], f_House_home, false⟩
theorem b_House_home : BindOk d_House_home := fun _ _ _ _ _ _ us hl => match us, hl with | [_, _], _ => rfl
abbrev s_House_follow : Stmt := (clsB (top 36)).getD 9 (.Pass ⟨0, 0, 0, 0⟩)
def d_House_follow : Df := ⟨⟨("House", some "follow"), "follow", "House.follow", defArgs s_House_follow, defBody s_House_follow, defScope s_House_follow, [], []⟩, ["self", "room", "other", "offset", "hour", "here", "followed"], ["self", "room", "other", "offset", "hour"], f_House_follow, false⟩
theorem b_House_follow : BindOk d_House_follow := fun _ _ _ _ _ _ us hl => match us, hl with | [_, _, _, _, _], _ => rfl
abbrev s_House_value_at : Stmt := (clsB (top 36)).getD 13 (.Pass ⟨0, 0, 0, 0⟩)
def d_House_value_at : Df := ⟨⟨("House", some "value_at"), "value_at", "House.value_at", defArgs s_House_value_at, defBody s_House_value_at, defScope s_House_value_at, [], []⟩, ["self", "room", "hour", "deed"], ["self", "room", "hour"], f_House_value_at, false⟩
theorem b_House_value_at : BindOk d_House_value_at := fun _ _ _ _ _ _ us hl => match us, hl with | [_, _, _], _ => rfl
abbrev s_House_shown : Stmt := (clsB (top 36)).getD 14 (.Pass ⟨0, 0, 0, 0⟩)
def d_House_shown : Df := ⟨⟨("House", some "shown"), "shown", "House.shown", defArgs s_House_shown, defBody s_House_shown, defScope s_House_shown, [], []⟩, ["self", "room", "hour"], ["self", "room", "hour"], f_House_shown, false⟩
theorem b_House_shown : BindOk d_House_shown := fun _ _ _ _ _ _ us hl => match us, hl with | [_, _, _], _ => rfl
abbrev s_do_deed : Stmt := top 37
def d_do_deed : Df := ⟨⟨("do_deed", none), "do_deed", "do_deed", defArgs s_do_deed, defBody s_do_deed, defScope s_do_deed, [], []⟩, ["house", "deed", "word"], ["house", "deed"], f_do_deed, false⟩
theorem b_do_deed : BindOk d_do_deed := fun _ _ _ _ _ _ us hl => match us, hl with | [_, _], _ => rfl
abbrev s_replay : Stmt := top 38
def d_replay : Df := ⟨⟨("replay", none), "replay", "replay", defArgs s_replay, defBody s_replay, defScope s_replay, [], []⟩, ["rooms", "order", "log", "house", "deed"], ["rooms", "order", "log"], f_replay, false⟩
theorem b_replay : BindOk d_replay := fun _ _ _ _ _ _ us hl => match us, hl with | [_, _, _], _ => rfl
abbrev s_law_begin : Stmt := top 40
def d_law_begin : Df := ⟨⟨("_law_begin", none), "_law_begin", "_law_begin", defArgs s_law_begin, defBody s_law_begin, defScope s_law_begin, [], []⟩, ["_law_script"], ["_law_script"], f_law_begin, false⟩
theorem b_law_begin : BindOk d_law_begin := fun _ _ _ _ _ _ us hl => match us, hl with | [_], _ => rfl
abbrev s_law_draw : Stmt := top 41
def d_law_draw : Df := ⟨⟨("_law_draw", none), "_law_draw", "_law_draw", defArgs s_law_draw, defBody s_law_draw, defScope s_law_draw, [], []⟩, ["_law_draws", "_law_many", "_law_cell", "_law_found"], ["_law_draws", "_law_many"], f_law_draw, false⟩
theorem b_law_draw : BindOk d_law_draw := fun _ _ _ _ _ _ us hl => match us, hl with | [_, _], _ => rfl
abbrev s_law_plan : Stmt := top 42
def d_law_plan : Df := ⟨⟨("_law_plan", none), "_law_plan", "_law_plan", defArgs s_law_plan, defBody s_law_plan, defScope s_law_plan, [], []⟩, ["_law_draws", "_law_places", "_law_k", "_law_place"], ["_law_draws"], f_law_plan, false⟩
theorem b_law_plan : BindOk d_law_plan := fun _ _ _ _ _ _ us hl => match us, hl with | [_], _ => rfl
abbrev s_law_until : Stmt := top 43
def d_law_until : Df := ⟨⟨("_law_until", none), "_law_until", "_law_until", defArgs s_law_until, defBody s_law_until, defScope s_law_until, [], []⟩, ["_law_draws", "_law_hour", "_law_at"], ["_law_draws", "_law_hour"], f_law_until, false⟩
theorem b_law_until : BindOk d_law_until := fun _ _ _ _ _ _ us hl => match us, hl with | [_, _], _ => rfl
abbrev s_law_away : Stmt := top 44
def d_law_away : Df := ⟨⟨("_law_away", none), "_law_away", "_law_away", defArgs s_law_away, defBody s_law_away, defScope s_law_away, [], []⟩, ["_law_draws", "_law_hour", "_law_begin_here", "_law_end"], ["_law_draws", "_law_hour"], f_law_away, false⟩
theorem b_law_away : BindOk d_law_away := fun _ _ _ _ _ _ us hl => match us, hl with | [_, _], _ => rfl
abbrev s_law_deed : Stmt := top 45
def d_law_deed : Df := ⟨⟨("_law_deed", none), "_law_deed", "_law_deed", defArgs s_law_deed, defBody s_law_deed, defScope s_law_deed, [], []⟩, ["_law_draws", "_law_rooms", "_law_hour", "_law_room", "_law_way", "_law_other"], ["_law_draws", "_law_rooms", "_law_hour"], f_law_deed, false⟩
theorem b_law_deed : BindOk d_law_deed := fun _ _ _ _ _ _ us hl => match us, hl with | [_, _, _], _ => rfl
abbrev s_law_follows : Stmt := top 46
def d_law_follows : Df := ⟨⟨("_law_follows", none), "_law_follows", "_law_follows", defArgs s_law_follows, defBody s_law_follows, defScope s_law_follows, [], []⟩, ["_law_log_here", "_law_room", "_law_deed_here"], ["_law_log_here", "_law_room"], f_law_follows, false⟩
theorem b_law_follows : BindOk d_law_follows := fun _ _ _ _ _ _ us hl => match us, hl with | [_, _], _ => rfl
abbrev s_law_rings : Stmt := top 47
def d_law_rings : Df := ⟨⟨("_law_rings", none), "_law_rings", "_law_rings", defArgs s_law_rings, defBody s_law_rings, defScope s_law_rings, [], []⟩, ["_law_log_here", "_law_deed_here", "_law_here", "_law_after"], ["_law_log_here", "_law_deed_here"], f_law_rings, false⟩
theorem b_law_rings : BindOk d_law_rings := fun _ _ _ _ _ _ us hl => match us, hl with | [_, _], _ => rfl
abbrev s_law_log : Stmt := top 48
def d_law_log : Df := ⟨⟨("_law_log", none), "_law_log", "_law_log", defArgs s_law_log, defBody s_law_log, defScope s_law_log, [], []⟩, ["_law_draws", "_law_rooms", "_law_most", "_law_log_here", "_law_hour", "_law_room", "_law_k", "_law_deed_here"], ["_law_draws", "_law_rooms", "_law_most"], f_law_log, false⟩
theorem b_law_log : BindOk d_law_log := fun _ _ _ _ _ _ us hl => match us, hl with | [_, _, _], _ => rfl
abbrev s_law_plan_shows : Stmt := top 49
def d_law_plan_shows : Df := ⟨⟨("_law_plan_shows", none), "_law_plan_shows", "_law_plan_shows", defArgs s_law_plan_shows, defBody s_law_plan_shows, defScope s_law_plan_shows, [], []⟩, ["_law_plan_here", "_law_hour", "_law_found", "_law_place", "_law_value"], ["_law_plan_here", "_law_hour"], f_law_plan_shows, false⟩
theorem b_law_plan_shows : BindOk d_law_plan_shows := fun _ _ _ _ _ _ us hl => match us, hl with | [_, _], _ => rfl
abbrev s_law_new : Stmt := top 50
def d_law_new : Df := ⟨⟨("_law_new", none), "_law_new", "_law_new", defArgs s_law_new, defBody s_law_new, defScope s_law_new, [], []⟩, ["_law_rooms", "_law_state", "_law_room"], ["_law_rooms"], f_law_new, false⟩
theorem b_law_new : BindOk d_law_new := fun _ _ _ _ _ _ us hl => match us, hl with | [_], _ => rfl
abbrev s_law_take : Stmt := top 51
def d_law_take : Df := ⟨⟨("_law_take", none), "_law_take", "_law_take", defArgs s_law_take, defBody s_law_take, defScope s_law_take, [], []⟩, ["_law_state", "_law_deed_here", "_law_number"], ["_law_state", "_law_deed_here", "_law_number"], f_law_take, false⟩
theorem b_law_take : BindOk d_law_take := fun _ _ _ _ _ _ us hl => match us, hl with | [_, _, _], _ => rfl
abbrev s_law_tick : Stmt := top 52
def d_law_tick : Df := ⟨⟨("_law_tick", none), "_law_tick", "_law_tick", defArgs s_law_tick, defBody s_law_tick, defScope s_law_tick, [], []⟩, ["_law_state", "_law_hour", "_law_room", "_law_turn", "_law_over", "_law_switch"], ["_law_state", "_law_hour"], f_law_tick, false⟩
theorem b_law_tick : BindOk d_law_tick := fun _ _ _ _ _ _ us hl => match us, hl with | [_, _], _ => rfl
abbrev s_law_shows_2 : Stmt := top 53
def d_law_shows_2 : Df := ⟨⟨("_law_shows", none), "_law_shows", "_law_shows", defArgs s_law_shows_2, defBody s_law_shows_2, defScope s_law_shows_2, [], []⟩, ["_law_state", "_law_order", "_law_room", "_law_hour", "_law_turn", "_law_away_here", "_law_other", "_law_offset", "_law_value"], ["_law_state", "_law_order", "_law_room", "_law_hour"], f_law_shows_2, false⟩
theorem b_law_shows_2 : BindOk d_law_shows_2 := fun _ _ _ _ _ _ us hl => match us, hl with | [_, _, _, _], _ => rfl
abbrev s_law_hours : Stmt := top 54
def d_law_hours : Df := ⟨⟨("_law_hours", none), "_law_hours", "_law_hours", defArgs s_law_hours, defBody s_law_hours, defScope s_law_hours, [], []⟩, ["_law_rooms", "_law_order", "_law_log_here", "_law_most", "_law_state", "_law_found", "_law_at", "_law_hour", "_law_room"], ["_law_rooms", "_law_order", "_law_log_here", "_law_most"], f_law_hours, false⟩
theorem b_law_hours : BindOk d_law_hours := fun _ _ _ _ _ _ us hl => match us, hl with | [_, _, _, _], _ => rfl
abbrev s_law_told_3 : Stmt := top 55
def d_law_told_3 : Df := ⟨⟨("_law_told", none), "_law_told", "_law_told", defArgs s_law_told_3, defBody s_law_told_3, defScope s_law_told_3, [], []⟩, ["_law_house", "_law_room", "_law_hour", "_law_told_here"], ["_law_house", "_law_room", "_law_hour"], f_law_told_3, false⟩
theorem b_law_told_3 : BindOk d_law_told_3 := fun _ _ _ _ _ _ us hl => match us, hl with | [_, _, _], _ => rfl
abbrev s_law_k03 : Stmt := top 56
def d_law_k03 : Df := ⟨⟨("law", none), "law", "law", defArgs s_law_k03, defBody s_law_k03, defScope s_law_k03, [], []⟩, ["_law_script", "_law_draws", "_law_rooms", "_law_order", "_law_log_here", "_law_house", "_law_hours_here", "_law_some", "_law_deed_here", "_law_hour", "_law_k", "_law_room"], ["_law_script"], f_law_k03, false⟩
theorem b_law_k03 : BindOk d_law_k03 := fun _ _ _ _ _ _ us hl => match us, hl with | [_], _ => rfl
def LT : LawT := ⟨[none, some d_is_number, some d_is_switch, some d_is_plan, some d_check_plan, some d_plan_value, some d_next_switch, none, some d_check_order, some d_is_value, some d_is_until, some d_is_stretch, some d_hour_of, some d_plan_pieces, some d_end_of_next, some d_turning_at, some d_away_at, some d_followed_by, some d_shown_by, some d_House_init, some d_House_now, some d_House_check_room, some d_House_check_hour, some d_House_plan_room, some d_House_turn, some d_House_back, some d_House_away, some d_House_home, some d_House_follow, none, none, none, some d_House_value_at, some d_House_shown, some d_do_deed, some d_replay, none, none, none, none, none, none, none, none, none, none, none, none, none, none, none, none, none, none, none, none, none, none, none, none, none, none, none, none, none, none, none, none, none, none, none, none, none, none, none, none, none, none, none, none, none, none, none, none, none, none, none, none, none, none, some d_law_begin, some d_law_draw, some d_law_plan, some d_law_until, some d_law_away, none, none, none, none, some d_law_deed, some d_law_follows, some d_law_rings, some d_law_log, none, none, none, none, none, none, none, none, none, none, some d_law_plan_shows, some d_law_new, some d_law_take, some d_law_tick, some d_law_shows_2, some d_law_hours, some d_law_told_3, none, none, none, none, none, none, none, none, none, none, none, none, none, none, none, none, none, none, none, none, none, none, none, none, none, none, none, none, none, none, none, none, none, none, some d_law_k03], [some "WeekError", some "BadPlan", some "BadCount", some "BadOrder", some "BadRoom", some "BadHour", some "BadValue", some "BadUntil", some "BadStretch", some "BadOffset", some "Ring"], [1, 2, 3, 4, 5, 6, 7, 8, 9, 10], ["all", "any", "bool", "enumerate", "int", "isinstance", "len", "list", "max", "min", "range", "set", "sorted", "str", "tuple", "zip"], [(0, "WEEK", .int 168), (1, "MOST", .int 14), (2, "LATEST", .int 1000000000), (3, "ORDERS", .tup [.str "newest", .str "away"])], ["House"]⟩
theorem bo : ∀ d ∈ LT.dl, BindOk d := List.forall_mem_cons.mpr ⟨b_is_number, List.forall_mem_cons.mpr ⟨b_is_switch, List.forall_mem_cons.mpr ⟨b_is_plan, List.forall_mem_cons.mpr ⟨b_check_plan, List.forall_mem_cons.mpr ⟨b_plan_value, List.forall_mem_cons.mpr ⟨b_next_switch, List.forall_mem_cons.mpr ⟨b_check_order, List.forall_mem_cons.mpr ⟨b_is_value, List.forall_mem_cons.mpr ⟨b_is_until, List.forall_mem_cons.mpr ⟨b_is_stretch, List.forall_mem_cons.mpr ⟨b_hour_of, List.forall_mem_cons.mpr ⟨b_plan_pieces, List.forall_mem_cons.mpr ⟨b_end_of_next, List.forall_mem_cons.mpr ⟨b_turning_at, List.forall_mem_cons.mpr ⟨b_away_at, List.forall_mem_cons.mpr ⟨b_followed_by, List.forall_mem_cons.mpr ⟨b_shown_by, List.forall_mem_cons.mpr ⟨b_House_init, List.forall_mem_cons.mpr ⟨b_House_now, List.forall_mem_cons.mpr ⟨b_House_check_room, List.forall_mem_cons.mpr ⟨b_House_check_hour, List.forall_mem_cons.mpr ⟨b_House_plan_room, List.forall_mem_cons.mpr ⟨b_House_turn, List.forall_mem_cons.mpr ⟨b_House_back, List.forall_mem_cons.mpr ⟨b_House_away, List.forall_mem_cons.mpr ⟨b_House_home, List.forall_mem_cons.mpr ⟨b_House_follow, List.forall_mem_cons.mpr ⟨b_House_value_at, List.forall_mem_cons.mpr ⟨b_House_shown, List.forall_mem_cons.mpr ⟨b_do_deed, List.forall_mem_cons.mpr ⟨b_replay, List.forall_mem_cons.mpr ⟨b_law_begin, List.forall_mem_cons.mpr ⟨b_law_draw, List.forall_mem_cons.mpr ⟨b_law_plan, List.forall_mem_cons.mpr ⟨b_law_until, List.forall_mem_cons.mpr ⟨b_law_away, List.forall_mem_cons.mpr ⟨b_law_deed, List.forall_mem_cons.mpr ⟨b_law_follows, List.forall_mem_cons.mpr ⟨b_law_rings, List.forall_mem_cons.mpr ⟨b_law_log, List.forall_mem_cons.mpr ⟨b_law_plan_shows, List.forall_mem_cons.mpr ⟨b_law_new, List.forall_mem_cons.mpr ⟨b_law_take, List.forall_mem_cons.mpr ⟨b_law_tick, List.forall_mem_cons.mpr ⟨b_law_shows_2, List.forall_mem_cons.mpr ⟨b_law_hours, List.forall_mem_cons.mpr ⟨b_law_told_3, List.forall_mem_cons.mpr ⟨b_law_k03, List.forall_mem_nil _⟩⟩⟩⟩⟩⟩⟩⟩⟩⟩⟩⟩⟩⟩⟩⟩⟩⟩⟩⟩⟩⟩⟩⟩⟩⟩⟩⟩⟩⟩⟩⟩⟩⟩⟩⟩⟩⟩⟩⟩⟩⟩⟩⟩⟩⟩⟩⟩
theorem k_is_number : d_is_number.okB LT.tab = true := by kernel_rfl
theorem k_is_switch : d_is_switch.okB LT.tab = true := by kernel_rfl
theorem k_is_plan : d_is_plan.okB LT.tab = true := by kernel_rfl
theorem k_check_plan : d_check_plan.okB LT.tab = true := by kernel_rfl
theorem k_plan_value : d_plan_value.okB LT.tab = true := by kernel_rfl
theorem k_next_switch : d_next_switch.okB LT.tab = true := by kernel_rfl
theorem k_check_order : d_check_order.okB LT.tab = true := by kernel_rfl
theorem k_is_value : d_is_value.okB LT.tab = true := by kernel_rfl
theorem k_is_until : d_is_until.okB LT.tab = true := by kernel_rfl
theorem k_is_stretch : d_is_stretch.okB LT.tab = true := by kernel_rfl
theorem k_hour_of : d_hour_of.okB LT.tab = true := by kernel_rfl
theorem k_plan_pieces : d_plan_pieces.okB LT.tab = true := by kernel_rfl
theorem k_end_of_next : d_end_of_next.okB LT.tab = true := by kernel_rfl
theorem k_turning_at : d_turning_at.okB LT.tab = true := by kernel_rfl
theorem k_away_at : d_away_at.okB LT.tab = true := by kernel_rfl
theorem k_followed_by : d_followed_by.okB LT.tab = true := by kernel_rfl
theorem k_shown_by : d_shown_by.okB LT.tab = true := by kernel_rfl
theorem k_House_init : d_House_init.okB LT.tab = true := by kernel_rfl
theorem k_House_now : d_House_now.okB LT.tab = true := by kernel_rfl
theorem k_House_check_room : d_House_check_room.okB LT.tab = true := by kernel_rfl
theorem k_House_check_hour : d_House_check_hour.okB LT.tab = true := by kernel_rfl
theorem k_House_plan_room : d_House_plan_room.okB LT.tab = true := by kernel_rfl
theorem k_House_turn : d_House_turn.okB LT.tab = true := by kernel_rfl
theorem k_House_back : d_House_back.okB LT.tab = true := by kernel_rfl
theorem k_House_away : d_House_away.okB LT.tab = true := by kernel_rfl
theorem k_House_home : d_House_home.okB LT.tab = true := by kernel_rfl
theorem k_House_follow : d_House_follow.okB LT.tab = true := by kernel_rfl
theorem k_House_value_at : d_House_value_at.okB LT.tab = true := by kernel_rfl
theorem k_House_shown : d_House_shown.okB LT.tab = true := by kernel_rfl
theorem k_do_deed : d_do_deed.okB LT.tab = true := by kernel_rfl
theorem k_replay : d_replay.okB LT.tab = true := by kernel_rfl
theorem k_law_begin : d_law_begin.okB LT.tab = true := by kernel_rfl
theorem k_law_draw : d_law_draw.okB LT.tab = true := by kernel_rfl
theorem k_law_plan : d_law_plan.okB LT.tab = true := by kernel_rfl
theorem k_law_until : d_law_until.okB LT.tab = true := by kernel_rfl
theorem k_law_away : d_law_away.okB LT.tab = true := by kernel_rfl
theorem k_law_deed : d_law_deed.okB LT.tab = true := by kernel_rfl
theorem k_law_follows : d_law_follows.okB LT.tab = true := by kernel_rfl
theorem k_law_rings : d_law_rings.okB LT.tab = true := by kernel_rfl
theorem k_law_log : d_law_log.okB LT.tab = true := by kernel_rfl
theorem k_law_plan_shows : d_law_plan_shows.okB LT.tab = true := by kernel_rfl
theorem k_law_new : d_law_new.okB LT.tab = true := by kernel_rfl
theorem k_law_take : d_law_take.okB LT.tab = true := by kernel_rfl
theorem k_law_tick : d_law_tick.okB LT.tab = true := by kernel_rfl
theorem k_law_shows_2 : d_law_shows_2.okB LT.tab = true := by kernel_rfl
theorem k_law_hours : d_law_hours.okB LT.tab = true := by kernel_rfl
theorem k_law_told_3 : d_law_told_3.okB LT.tab = true := by kernel_rfl
theorem k_law_k03 : d_law_k03.okB LT.tab = true := by kernel_rfl
theorem ok : LT.okB = true := by kernel_rfl
abbrev PP := PF LT.ds
theorem p_is_number : PP 1 = some f_is_number := rfl
theorem p_is_switch : PP 2 = some f_is_switch := rfl
theorem p_is_plan : PP 3 = some f_is_plan := rfl
theorem p_check_plan : PP 4 = some f_check_plan := rfl
theorem p_plan_value : PP 5 = some f_plan_value := rfl
theorem p_next_switch : PP 6 = some f_next_switch := rfl
theorem p_check_order : PP 8 = some f_check_order := rfl
theorem p_is_value : PP 9 = some f_is_value := rfl
theorem p_is_until : PP 10 = some f_is_until := rfl
theorem p_is_stretch : PP 11 = some f_is_stretch := rfl
theorem p_hour_of : PP 12 = some f_hour_of := rfl
theorem p_plan_pieces : PP 13 = some f_plan_pieces := rfl
theorem p_end_of_next : PP 14 = some f_end_of_next := rfl
theorem p_turning_at : PP 15 = some f_turning_at := rfl
theorem p_away_at : PP 16 = some f_away_at := rfl
theorem p_followed_by : PP 17 = some f_followed_by := rfl
theorem p_shown_by : PP 18 = some f_shown_by := rfl
theorem p_House_init : PP 19 = some f_House_init := rfl
theorem p_House_now : PP 20 = some f_House_now := rfl
theorem p_House_check_room : PP 21 = some f_House_check_room := rfl
theorem p_House_check_hour : PP 22 = some f_House_check_hour := rfl
theorem p_House_plan_room : PP 23 = some f_House_plan_room := rfl
theorem p_House_turn : PP 24 = some f_House_turn := rfl
theorem p_House_back : PP 25 = some f_House_back := rfl
theorem p_House_away : PP 26 = some f_House_away := rfl
theorem p_House_home : PP 27 = some f_House_home := rfl
theorem p_House_follow : PP 28 = some f_House_follow := rfl
theorem p_House_value_at : PP 32 = some f_House_value_at := rfl
theorem p_House_shown : PP 33 = some f_House_shown := rfl
theorem p_do_deed : PP 34 = some f_do_deed := rfl
theorem p_replay : PP 35 = some f_replay := rfl
theorem p_law_begin : PP 90 = some f_law_begin := rfl
theorem p_law_draw : PP 91 = some f_law_draw := rfl
theorem p_law_plan : PP 92 = some f_law_plan := rfl
theorem p_law_until : PP 93 = some f_law_until := rfl
theorem p_law_away : PP 94 = some f_law_away := rfl
theorem p_law_deed : PP 99 = some f_law_deed := rfl
theorem p_law_follows : PP 100 = some f_law_follows := rfl
theorem p_law_rings : PP 101 = some f_law_rings := rfl
theorem p_law_log : PP 102 = some f_law_log := rfl
theorem p_law_plan_shows : PP 113 = some f_law_plan_shows := rfl
theorem p_law_new : PP 114 = some f_law_new := rfl
theorem p_law_take : PP 115 = some f_law_take := rfl
theorem p_law_tick : PP 116 = some f_law_tick := rfl
theorem p_law_shows_2 : PP 117 = some f_law_shows_2 := rfl
theorem p_law_hours : PP 118 = some f_law_hours := rfl
theorem p_law_told_3 : PP 119 = some f_law_told_3 := rfl
theorem p_law_k03 : PP 154 = some f_law_k03 := rfl
/-! ### the head -/
abbrev R : PySem.W.OpenRow := PySem.W.OpenLaw.row PySem.Challenge.rw_weekswitch_k03_whole_hours_walked
abbrev hk : PySem.W.Hook := LT.hook 6
def ob (s : PySem.W.SharedT) : AlY := LT.obs 6 (HandSHeadRun.getT s)
theorem ob_eq (s : PySem.W.SharedT) : ob s = hk.obs s.abs := LT.obs_eq (HandSHeadRun.getT_eq s)
abbrev qv : Program := PySem.W.view R.prog [56]
def loose : List PySem.Str := (["_wall", "WeekError", "BadPlan", "BadCount", "BadOrder", "BadRoom", "BadHour", "BadValue", "BadUntil", "BadStretch", "BadOffset", "Ring", "WEEK", "MOST", "is_number", "is_switch", "is_plan", "check_plan", "plan_value", "next_switch", "LATEST", "ORDERS", "check_order", "is_value", "is_until", "is_stretch", "hour_of", "plan_pieces", "end_of_next", "turning_at"] : List PySem.Str) ++ (["away_at", "followed_by", "shown_by", "House", "do_deed", "replay", "_law_begin", "_law_draw", "_law_plan", "_law_until", "_law_away", "_law_deed", "_law_follows", "_law_rings", "_law_log", "_law_plan_shows", "_law_new", "_law_take", "_law_tick", "_law_shows", "_law_hours", "_law_told"] : List PySem.Str)
theorem run (w : World) : HandSHeadRun.RunEq R qv hk ob 40000 loose w := by
  intro os
  kernel_rfl
end K03
namespace K03
open PySem PySem.W PySem.Calls PyProof.Rows L2 Ws Pg
/-- the law holds where the interpreter says so -/
theorem holds_of (n : Nat) (hn : Room (2 * n) callerA) (hl : ∀ (ns : List Int) (st : AS) (d : D), ns.length ≤ 63 → Scr st d ns → ∃ st', callF PP n 154 [d] st = .ok (.bl true) st') : PySem.Challenge.rw_weekswitch_k03_whole_hours_walked.Holds := by
  w_on; o_law
  refine HandSHeadRun.head_any (r := OpenLaw.row PySem.Challenge.rw_weekswitch_k03_whole_hours_walked) (q := view (OpenLaw.row PySem.Challenge.rw_weekswitch_k03_whole_hours_walked).prog [56]) (H := K03.hk) (ob := K03.ob) (M := 40000) (loose := K03.loose) (d := HandSHeadRun.topDef (OpenLaw.row PySem.Challenge.rw_weekswitch_k03_whole_hours_walked).prog 56) (kwd := []) K03.ob_eq
    (by kernel_rfl) (fun s => by kernel_rfl) K03.run (by kernel_rfl) (by kernel_rfl) (by kernel_rfl) (by rfl) (by first | assumption | decide +kernel) (by decide +kernel) ⟨rfl, rfl, rfl, rfl, rfl, by decide +kernel⟩ ?hw ?hc
  case hw => w_witness2
  case hc =>
    refine walk_ofX (l := PySem.Challenge.rw_weekswitch_k03_whole_hours_walked) (n := 63) (k := 2 * n) (x := "_law_script") rfl (by decide) (by kernel_rfl) hn ?F
    intro w mg fa h Y Gn hmg0
    obtain ⟨K, KX, c, cp⟩ := Y
    have hmg : mg ("law" : PySem.Str) = some (.ref fa) := by
      have e : (HandSHeadRun.topDef (OpenLaw.row PySem.Challenge.rw_weekswitch_k03_whole_hours_walked).prog 56).name = ("law" : PySem.Str) := by kernel_rfl
      rw [← e]
      exact hmg0
    obtain ⟨fD, X⟩ := LT.text (w := w) (mg := mg) KX Gn c cp ok bo
    have hf : LT.tab.fns 154 = some ((some ("law" : PySem.Str), [("_law_script" : PySem.Str)]) : Option PySem.Str × List PySem.Str) := by kernel_rfl
    have g1 := X.fx.fns 154 _ _ hf
    have ea : (LT.gam K w mg fD).fA 154 = fa := by
      have e2 := g1.2.1 "law" rfl
      have e3 : (LT.gam K w mg fD).mg "law" = mg ("law" : PySem.Str) := rfl
      rw [e3, hmg] at e2
      cases e2
      rfl
    have ep : (LT.gam K w mg fD).fP 154 = ([("_law_script" : PySem.Str)] : List PySem.Str) := g1.1
    have hfs : (LT.tab.fns 154).isSome = true := by rw [hf]; rfl
    obtain ⟨dd, hd, okd, hpd, FD⟩ := X.fns 154 hfs
    refine ⟨K, (LT.gam K w mg fD).fD 154, spI (LT.gam K w mg fD) (callF PP n) 154, KX, ?_, fun H a ns hz hO hS => law_end ep hl H a ns hz hO hS, fun base hb hns => ?_⟩
    · have q := FD.bindsA (ps := ([("_law_script" : PySem.Str)] : List PySem.Str)) (by
        have e4 : dd = d_law_k03 := by
          have e5 : LT.ds[154]? = some (some d_law_k03) := rfl
          rw [e5] at hd
          exact (Option.some.inj (Option.some.inj hd)).symm
        rw [e4]
        exact b_law_k03)
      exact fun s u => q s [u] rfl
    · have q := fns_ok X (base := base) (Pg := PySem.Challenge.rw_weekswitch_k03_whole_hours_walked.prog) n 154 hfs
      rw [ep, ea] at q
      exact q
end K03
end
end

section
set_option Elab.async false
set_option linter.all false
set_option maxRecDepth 100000
namespace K03
open Ws Pg
theorem h03 : HWk PP := { is_number := rfl, is_switch := rfl, is_plan := rfl, check_plan := rfl, check_order := rfl, is_value := rfl, is_until := rfl, is_stretch := rfl, hour_of := rfl, followed_by := rfl, init := rfl, now := rfl, check_room := rfl, check_hour := rfl, plan_room := rfl, turn := rfl, back := rfl, away := rfl, home := rfl, follow := rfl, do_deed := rfl, replay := rfl, plan_value := rfl, next_switch := rfl, plan_pieces := rfl, end_of_next := rfl, turning_at := rfl, away_at := rfl, shown_by := rfl, value_at := rfl, shown := rfl, law_begin := rfl, law_draw := rfl, law_plan := rfl, law_until := rfl, law_away := rfl, law_deed := rfl, law_follows := rfl, law_rings := rfl, law_log := rfl, plan_shows := rfl, new := rfl, take := rfl, tick := rfl, shows := rfl, hours := rfl, told := rfl }
end K03
theorem PySem.Challenge.cw_weekswitch_k03_whole_hours_walked_holds : PySem.Challenge.rw_weekswitch_k03_whole_hours_walked.Holds :=
  K03.holds_of 10 ⟨rfl, by decide, by decide⟩ fun ns st d _ hs => Pg.law03_run K03.h03 rfl 0 ns st d hs
end

