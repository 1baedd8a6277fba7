import PyProof.Rows.All
import Wide.All
import OpenK.AllK
import Wide.FinOn
import HandS.ForMost
import HandS.Flow
import HandS.Wide
import HandS.IsInst
import HandS.Deep
import HandS.NoneIn
import HandS.TupAny
import HandS.Style
import HandS.Zip
import KE.SortData
import KE.KDictKeyed
import KE.KDictSum
import KE.KDictCopyH
import PyProof.MaxThree
import HandS.Sort
import HandS.DictComp
import HandS.SetFor
import HandS.SetIn
import HandS.Strs
import HandS.More
import HandS.Defaults
import OpenK.KMore
import HandS.Dict
import PySem.Challenge.RW_tablerail_k15_whole_more_points_no_longe
set_option Elab.async false
set_option linter.all false
set_option maxRecDepth 100000
set_option maxHeartbeats 4000000
/-! R: a core language over deep data, its interpreter -/
namespace R
open PySem L2

/-! ### values, state -/
/-- the world that the keys' hashes are of -/
class W0 where
  w : World

inductive Res (α : Type) where
  | ok (a : α)
  | ex (c : Str) (a : PyData)
  | no
namespace Res
def bind {α β : Type} : Res α → (α → Res β) → Res β
  | .ok a, f => f a
  | .ex c a, _ => .ex c a
  | .no, _ => .no
theorem bind_ok {α β : Type} (a : α) (f : α → Res β) : (Res.ok a).bind f = f a := rfl
theorem bind_no {α β : Type} (f : α → Res β) : (Res.no : Res α).bind f = .no := rfl
theorem of_bind {α β : Type} {x : Res α} {f : α → Res β} {b : β} (h : x.bind f = .ok b) : ∃ a, x = .ok a ∧ f a = .ok b := by
  cases x with
  | ok a => exact ⟨a, rfl, h⟩
  | ex c a => cases h
  | no => cases h
end Res
/-- a value: deep data, a dict (keys ints and texts; keys tuples of these), a cell -/
inductive MV where
  | d (x : PyData)
  | k (kvs : List (Key × PyData))
  | t (kvs : List (PyData × PyData))
  | p (xs : List PyData)
  | r (n : Nat)
/-- a shared thing that changes -/
inductive Cell where
  | lst (xs : List PyData)
abbrev Cells := List Cell
/-- a name's slot: nothing, a value, a list or dict of its own -/
inductive Sl where
  | no
  | v (x : MV)
  | ol (xs : List PyData)
  | ok (kvs : List (Key × PyData))
  | ot (kvs : List (PyData × PyData))
abbrev Env := List Sl

/-! ### syntax -/
inductive CO where | eq | ne | lt | le | gt | ge | isin | notin | isN | notN
  deriving DecidableEq
inductive TY where | int | str | bool | list | tuple | dict
  deriving DecidableEq
inductive Prim where
  | add | sub | mul | fdiv | mod | pow | neg
  | cmp (o : CO)
  | idx | tup | lst | len | listOf | tupleOf | abs | max2 | min2 | max4 | int1
  | isi (ts : List TY)
  | sl11 | sl10 | sl01 | rev
  | sorted1 | rep | count | all1
  | dictT | sortT | ninT | tupleP | dn | getT
  | dictK | sortK | ninK | getK | sum1 | lenSet
  deriving DecidableEq
inductive Kon where | non | bl (b : Bool) | int (i : Int) | str (s : Str)
  deriving DecidableEq
inductive TG where | n (i : Nat) | t (is : List Nat)
  deriving DecidableEq
mutual
inductive E where
  | var (i : Nat)
  | own (i : Nat)
  | k (c : Kon)
  | glob (g : Nat)
  | prim (p : Prim) (es : Es)
  | and (a b : E)
  | or (a b : E)
  | not (a : E)
  | ite (t a b : E)
  | chain (o o' : CO) (a b c : E)
  | call (f : Nat) (es : Es)
  | cidx (a i : E)
  | callK (j : Nat) (es kes : Es)
  | gdk (g : Nat) (e : E)
  | dct (kvs : List (Str × Kon))
  | dix (a i : E)
  | comp (vs : List (Str × Nat)) (tg : TG) (src : SR) (cnd : Es) (elt : E)
  | dcomp (vs : List (Str × Nat)) (tg : TG) (src : SR) (cnd : Es) (ke ve : E)
  | disp (ke ve : E)
inductive Es where
  | nil
  | cons (e : E) (es : Es)
/-- what is walked -/
inductive SR where
  | seq (e : E)
  | rng (a : E)
  | rng2 (a b : E)
  | zip (a b : E)
  | enum (a : E)
end
mutual
inductive S where
  | asg (t : TG) (e : E)
  | par (ms : List (Bool × Nat)) (es : Es)
  | own (i : Nat) (e : E)
  | newc (i : Nat) (e : E)
  | cset (a i e : E)
  | app (i : Nat) (e : E)
  | lset (i : Nat) (a e : E)
  | ins (i : Nat) (a e : E)
  | popS (i : Nat) (a : E)
  | dput (i : Nat) (a e : E)
  | dsd (i : Nat) (a e : E)
  | kput (i : Nat) (a e : E)
  | parT (is : List Nat) (es : Es)
  | forPop (t : TG) (d l : Nat) (c : Int) (b : Ss)
  | frz (i : Nat)
  | ite (c : E) (a b : Ss)
  | forr (t : TG) (src : SR) (b : Ss)
  | whil (c : E) (b : Ss)
  | ret (e : E)
  | retN
  | expr (e : E)
  | brk
  | cont
  | pass
inductive Ss where
  | nil
  | cons (s : S) (ss : Ss)
end

/-- where a parameter's value comes from: by place, by a keyword, its default -/
inductive Ar where
  | p (i : Nat)
  | k (i : Nat)
  | d (x : PyData)
/-- a form of call: the def, its name, how many by place, the keywords, the parameters' values -/
structure KForm where
  f : Nat
  x : Str
  n : Nat
  ks : List Str
  ar : List Ar
/-- what stands at the top -/
structure Glo where
  v : List MV
  kw : List KForm
def arF (xs ys : List MV) : List Ar → Option (List MV)
  | [] => some []
  | .p i :: r => xs[i]?.bind fun x => (arF xs ys r).map (x :: ·)
  | .k i :: r => ys[i]?.bind fun x => (arF xs ys r).map (x :: ·)
  | .d x :: r => (arF xs ys r).map (.d x :: ·)
def lookS : List (Key × PyData) → Str → Option PyData
  | [], _ => none
  | (k, v) :: r, z => match k with
    | .inr y => if y = z then some v else lookS r z
    | .inl _ => lookS r z
/-! ### operations -/
def flatD : PyData → Bool
  | .none => true | .bool _ => true | .int _ => true | .str _ => true
  | _ => false
/-- is x == y told by the flat rule -/
def scalD : PyData → PyData → Bool
  | .none, .none => true | .none, .int _ => true | .int _, .none => true | .none, .bool _ => true | .bool _, .none => true | .none, .str _ => true | .str _, .none => true
  | .int _, .int _ => true | .bool _, .bool _ => true | .str _, .str _ => true
  | .int _, .str _ => true | .str _, .int _ => true | .bool _, .str _ => true | .str _, .bool _ => true
  | _, _ => false
def eqD (x y : PyData) : Res Bool :=
  if scalD x y = true then .ok (PyData.eqv x y) else if (SeqAt.shaped x && SeqAt.shaped y) = true then .ok (PyData.eqv x y) else .no
def inD (x : PyData) : PyData → Res Bool
  | .list ys => if (SeqAt.shaped x && SeqAt.shaped (.list ys)) = true then .ok (ys.any fun z => PyData.eqv z x) else .no
  | .tuple ys => if (SeqAt.shaped x && SeqAt.shaped (.tuple ys)) = true then .ok (ys.any fun z => PyData.eqv z x) else .no
  | .str z => match x with
    | .str c => .ok (!(Builtin.Str.occurrences z c 0 z.length 1).isEmpty)
    | _ => .no
  | _ => .no
def isNoneD : PyData → Bool
  | .none => true
  | _ => false
/-- are the two compared place by place -/
def ltOk (x y : PyData) : Bool := PySem.W.alike x y && decide (x.depth ≤ 60)
def cmpD (o : CO) (x y : PyData) : Res Bool :=
  match o with
  | .eq => eqD x y
  | .ne => (eqD x y).bind fun b => .ok (!b)
  | .lt => match x, y with
    | .int i, .int j => .ok (decide (i < j))
    | .str i, .str j => .ok (decide (i.cps.toList < j.cps.toList))
    | .tuple xs, .tuple ys => if ltOk (.tuple xs) (.tuple ys) = true then .ok (PySem.W.dataLt (.tuple xs) (.tuple ys)) else .no
    | _, _ => .no
  | .le => match x, y with
    | .int i, .int j => .ok (decide (i ≤ j))
    | _, _ => .no
  | .gt => match x, y with
    | .int i, .int j => .ok (decide (j < i))
    | _, _ => .no
  | .ge => match x, y with
    | .int i, .int j => .ok (decide (j ≤ i))
    | _, _ => .no
  | .isin => inD x y
  | .notin => (inD x y).bind fun b => .ok (!b)
  | .isN => match y with
    | .none => .ok (isNoneD x)
    | .bool b => match x with
      | .bool a => .ok (decide (a = b))
      | _ => .no
    | _ => .no
  | .notN => match y with
    | .none => .ok (!isNoneD x)
    | .bool b => match x with
      | .bool a => .ok (!decide (a = b))
      | _ => .no
    | _ => .no
def mulOk (i j : Int) : Bool := decide ((-(2 ^ 64) < i ∧ i < 2 ^ 64) ∨ (-(2 ^ 64) < j ∧ j < 2 ^ 64))
def atD (xs : List PyData) (i : Int) : Res MV :=
  match atI xs i with
  | some x => .ok (.d x)
  | none => .no
def lenOk (n : Nat) : Bool := decide (n ≤ sizeLine)
def allD : List MV → Option (List PyData)
  | [] => some []
  | .d x :: r => (allD r).map (x :: ·)
  | _ :: _ => none
def tyHas : TY → PyData → Bool
  | .int, .int _ => true
  | .int, .bool _ => true
  | .bool, .bool _ => true
  | .str, .str _ => true
  | .list, .list _ => true
  | .tuple, .tuple _ => true
  | _, _ => false
def isiD (ts : List TY) (x : PyData) : Bool := ts.any fun t => tyHas t x
def itemsD : PyData → Option (List PyData)
  | .list xs => some xs
  | .tuple xs => some xs
  | _ => none
def enumL (i : Int) : List PyData → List PyData
  | [] => []
  | x :: xs => .tuple [.int i, x] :: enumL (i + 1) xs
def cutD (xs : List PyData) (lo hi : Option Int) : List PyData := (xs.drop (HT.sIx xs.length 0 lo)).take (HT.sIx xs.length xs.length hi - HT.sIx xs.length 0 lo)
def sl3 (x : PyData) (a b : Option Int) : Res MV :=
  match x with
  | .list xs => .ok (.d (.list (cutD xs a b)))
  | .tuple xs => .ok (.d (.tuple (cutD xs a b)))
  | .str z => if lenOk z.length = true then .ok (.d (.str (cutS z a b))) else .no
  | _ => .no
def notNT : PyData → Bool
  | .none => false
  | .tuple _ => false
  | _ => true
def tupNe : PyData → Bool
  | .tuple (_ :: _) => true
  | _ => false
/-- may a list be sorted -/
def sortOk (xs : List PyData) : Bool := lenOk xs.length && xs.all (fun x => xs.all fun y => PySem.W.alike x y) && (xs.all tupNe || xs.all notNT) && xs.all (fun x => decide (x.depth ≤ 60))
def sortD (xs : List PyData) : List PyData := xs.mergeSort (PySem.W.dataLe false id)
def boolsD : List PyData → Option (List Bool)
  | [] => some []
  | .bool b :: r => (boolsD r).map (b :: ·)
  | _ :: _ => none
/-- a key (a text and an int) as a sign -/
def nkD : PyData → Option NestedKey
  | .tuple [.str z, .int i] => some (.tup [.text z, .num i])
  | _ => none
def prT : PyData → Option (PyData × PyData)
  | .tuple [k, v] => (nkD k).map fun _ => (k, v)
  | _ => none
def prsT : List PyData → Option (List (PyData × PyData))
  | [] => some []
  | x :: xs => (prT x).bind fun p => (prsT xs).map (p :: ·)
def putT (kvs : List (PyData × PyData)) (k v : PyData) : List (PyData × PyData) :=
  if (kvs.any fun q => decide (nkD q.1 = nkD k)) = true then kvs.map (fun q => if nkD q.1 = nkD k then (q.1, v) else q) else kvs ++ [(k, v)]
def mergeT (acc ps : List (PyData × PyData)) : List (PyData × PyData) := ps.foldl (fun a p => putT a p.1 p.2) acc
def lookT : List (PyData × PyData) → PyData → Option PyData
  | [], _ => none
  | q :: r, k => if nkD q.1 = nkD k then some q.2 else lookT r k
def dictD (xs : List PyData) : Res MV := match prsT xs with
  | some ps => if lenOk xs.length = true then .ok (.t (mergeT [] ps)) else .no
  | none => .no
def lookK : List (Key × PyData) → Key → Option PyData
  | [], _ => none
  | (k, v) :: r, z => if k = z then some v else lookK r z
def keyD : PyData → Option Key
  | .int i => some (.inl i)
  | .str z => some (.inr z)
  | _ => none
def keyP : Key → PyData
  | .inl i => .int i
  | .inr z => .str z
def putD (kvs : List (Key × PyData)) (k : Key) (v : PyData) : List (Key × PyData) :=
  if (kvs.any fun q => decide (q.1 = k)) = true then kvs.map (fun q => if q.1 = k then (q.1, v) else q) else kvs ++ [(k, v)]
def mergeD (acc ps : List (Key × PyData)) : List (Key × PyData) := ps.foldl (fun a p => putD a p.1 p.2) acc
def prK : PyData → Option (Key × PyData)
  | .tuple [k, v] => (keyD k).map fun k => (k, v)
  | _ => none
def prsK : List PyData → Option (List (Key × PyData))
  | [] => some []
  | x :: xs => (prK x).bind fun p => (prsK xs).map (p :: ·)
def dictKD (xs : List PyData) : Res MV := match prsK xs with
  | some ps => if lenOk xs.length = true then .ok (.k (mergeD [] ps)) else .no
  | none => .no
def txK : List (Key × PyData) → Option (List Str)
  | [] => some []
  | q :: r => match q.1 with
    | .inr z => (txK r).map (z :: ·)
    | .inl _ => none
def strLe (a b : Str) : Bool := decide (a.cps.toList ≤ b.cps.toList)
def sortS (ks : List Str) : List Str := ks.mergeSort strLe
def intsD : List PyData → Option (List Int)
  | [] => some []
  | .int i :: r => (intsD r).map (i :: ·)
  | _ :: _ => none
def strsD : List PyData → Option (List Str)
  | [] => some []
  | .str i :: r => (strsD r).map (i :: ·)
  | _ :: _ => none
def primF (p : Prim) (vs : List MV) : Res MV :=
  match p with
  | .add => match vs with
    | [.d (.int i), .d (.int j)] => .ok (.d (.int (i + j)))
    | [.d (.list a), .d (.list b)] => if lenOk (a.length + b.length) = true then .ok (.d (.list (a ++ b))) else .no
    | [.d (.str a), .d (.str b)] => if lenOk (a.length + b.length) = true then .ok (.d (.str (a ++ b))) else .no
    | [.d (.tuple a), .d (.tuple b)] => if lenOk (a.length + b.length) = true then .ok (.d (.tuple (a ++ b))) else .no
    | _ => .no
  | .sub => match vs with
    | [.d (.int i), .d (.int j)] => .ok (.d (.int (i - j)))
    | _ => .no
  | .mul => match vs with
    | [.d (.int i), .d (.int j)] => if mulOk i j = true then .ok (.d (.int (i * j))) else .no
    | _ => .no
  | .fdiv => match vs with
    | [.d (.int i), .d (.int j)] => if (decide (0 < j) && decide (j.natAbs.log2 < 9000)) = true then .ok (.d (.int (i / j))) else .no
    | _ => .no
  | .mod => match vs with
    | [.d (.int i), .d (.int j)] => if decide (0 < j) = true then .ok (.d (.int (i % j))) else .no
    | _ => .no
  | .pow => match vs with
    | [.d (.int i), .d (.int j)] => if decide (0 ≤ j ∧ j ≤ 1000000 ∧ i.natAbs < 2 ^ 64) = true then .ok (.d (.int (i ^ j.toNat))) else .no
    | _ => .no
  | .neg => match vs with
    | [.d (.int i)] => .ok (.d (.int (-i)))
    | _ => .no
  | .cmp o => match vs with
    | [.d x, .d y] => (cmpD o x y).bind fun b => .ok (.d (.bool b))
    | _ => .no
  | .idx => match vs with
    | [.d (.list xs), .d (.int i)] => atD xs i
    | [.d (.tuple xs), .d (.int i)] => atD xs i
    | [.d (.str z), .d (.int i)] => if lenOk z.length = true then (match atI z.cps.toList i with
      | some c => .ok (.d (.str ⟨#[c]⟩))
      | none => .no) else .no
    | _ => .no
  | .tup => match allD vs with
    | some xs => if lenOk xs.length = true then .ok (.d (.tuple xs)) else .no
    | none => .no
  | .lst => match allD vs with
    | some xs => if lenOk xs.length = true then .ok (.d (.list xs)) else .no
    | none => .no
  | .len => match vs with
    | [.d (.list xs)] => .ok (.d (.int xs.length))
    | [.d (.tuple xs)] => .ok (.d (.int xs.length))
    | [.d (.str z)] => if lenOk z.length = true then .ok (.d (.int z.length)) else .no
    | _ => .no
  | .listOf => match vs with
    | [.d (.list xs)] => .ok (.d (.list xs))
    | [.d (.tuple xs)] => .ok (.d (.list xs))
    | _ => .no
  | .tupleOf => match vs with
    | [.d (.list xs)] => .ok (.d (.tuple xs))
    | [.d (.tuple xs)] => .ok (.d (.tuple xs))
    | _ => .no
  | .abs => match vs with
    | [.d (.int i)] => .ok (.d (.int (if i < 0 then -i else i)))
    | _ => .no
  | .max2 => match vs with
    | [.d (.int i), .d (.int j)] => .ok (.d (.int (if j > i then j else i)))
    | _ => .no
  | .min2 => match vs with
    | [.d (.int i), .d (.int j)] => .ok (.d (.int (if j < i then j else i)))
    | _ => .no
  | .max4 => match vs with
    | [.d (.int i), .d (.int j), .d (.int k), .d (.int l)] => .ok (.d (.int (max (max (max i j) k) l)))
    | _ => .no
  | .int1 => match vs with
    | [.d (.int i)] => .ok (.d (.int i))
    | [.d (.bool b)] => .ok (.d (.int (if b then 1 else 0)))
    | _ => .no
  | .isi ts => match vs with
    | [.d x] => .ok (.d (.bool (isiD ts x)))
    | _ => .no
  | .sl11 => match vs with
    | [.d x, .d (.int a), .d (.int b)] => sl3 x (some a) (some b)
    | _ => .no
  | .sl10 => match vs with
    | [.d x, .d (.int a)] => sl3 x (some a) none
    | _ => .no
  | .sl01 => match vs with
    | [.d x, .d (.int b)] => sl3 x none (some b)
    | _ => .no
  | .rev => match vs with
    | [.d (.list xs)] => .ok (.d (.list xs.reverse))
    | [.d (.tuple xs)] => if lenOk xs.length = true then .ok (.d (.tuple xs.reverse)) else .no
    | _ => .no
  | .rep => match vs with
    | [.d (.list xs), .d (.int k)] => if (decide (0 ≤ k ∧ k ≤ 1000) && decide (xs.length ≤ 1000)) = true then .ok (.d (.list (List.replicate k.toNat xs).flatten)) else .no
    | _ => .no
  | .all1 => match vs with
    | [.d (.list xs)] => (match boolsD xs with
      | some bs => .ok (.d (.bool (bs.all id)))
      | none => .no)
    | _ => .no
  | .count => match vs with
    | [.d (.list xs), .d x] => if (SeqAt.shaped (.list xs) && SeqAt.shaped x) = true then .ok (.d (.int (xs.countP fun y => PyData.eqv y x : Nat))) else .no
    | _ => .no
  | .sorted1 => match vs with
    | [.d (.list xs)] => if sortOk xs = true then .ok (.d (.list (sortD xs))) else .no
    | _ => .no
  | .dictT => match vs with
    | [.d (.list xs)] => dictD xs
    | [.p xs] => dictD xs
    | _ => .no
  | .tupleP => match vs with
    | [.d (.list xs)] => .ok (.p xs)
    | _ => .no
  | .dn => match vs with
    | [.p xs] => .ok (.d (.tuple xs))
    | _ => .no
  | .getT => match vs with
    | [.t kvs, .d x, .d y] => if (nkD x).isSome = true then .ok (.d ((lookT kvs x).getD y)) else .no
    | _ => .no
  | .sortT => match vs with
    | [.t kvs] => if sortOk (kvs.map (·.1)) = true then .ok (.d (.list (sortD (kvs.map (·.1))))) else .no
    | _ => .no
  | .ninT => match vs with
    | [.d x, .t kvs] => if (nkD x).isSome = true then .ok (.d (.bool (!(lookT kvs x).isSome))) else .no
    | _ => .no
  | .dictK => match vs with
    | [.d (.list xs)] => dictKD xs
    | _ => .no
  | .sortK => match vs with
    | [.k kvs] => (match txK kvs with
      | some ks => if ks.length < 64 then .ok (.d (.list ((sortS ks).map .str))) else .no
      | none => .no)
    | _ => .no
  | .ninK => match vs with
    | [.d x, .k kvs] => (match keyD x with
      | some k => .ok (.d (.bool (!(lookK kvs k).isSome)))
      | none => .no)
    | _ => .no
  | .getK => match vs with
    | [.k kvs, .d x, .d y] => (match keyD x with
      | some k => .ok (.d ((lookK kvs k).getD y))
      | none => .no)
    | _ => .no
  | .sum1 => match vs with
    | [.d (.list xs)] => (match intsD xs with
      | some ns => .ok (.d (.int ns.sum))
      | none => .no)
    | _ => .no
  | .lenSet => match vs with
    | [.d (.tuple xs)] => (match strsD xs with
      | some ks => if ks.length ≤ 60 ∧ ks.Nodup then .ok (.d (.int ks.length)) else .no
      | none => .no)
    | _ => .no
def truth : MV → Res Bool
  | .d (.bool b) => .ok b
  | .d (.int i) => .ok (i != 0)
  | .d .none => .ok false
  | _ => .no
def konV : Kon → MV
  | .non => .d .none
  | .bl b => .d (.bool b)
  | .int i => .d (.int i)
  | .str s => .d (.str s)
def konD : Kon → PyData
  | .non => .none
  | .bl b => .bool b
  | .int i => .int i
  | .str s => .str s
def dctV (kvs : List (Str × Kon)) : List (Key × PyData) := kvs.map fun p => (.inr p.1, konD p.2)
def setAll : List Nat → List PyData → Env → Env
  | i :: is, x :: xs, env => setAll is xs (env.set i (.v (.d x)))
  | _, _, env => env
/-- a store -/
def asgT (t : TG) (x : MV) (env : Env) : Res Env :=
  match t with
  | .n i => .ok (env.set i (.v x))
  | .t is => match x with
    | .d (.tuple xs) => if is.length = xs.length then .ok (setAll is xs env) else .no
    | .d (.list xs) => if is.length = xs.length then .ok (setAll is xs env) else .no
    | _ => .no
def setAllM : List Nat → List MV → Env → Env
  | i :: is, x :: xs, env => setAllM is xs (env.set i (.v x))
  | _, _, env => env
def stM (own : Bool) (i : Nat) (x : MV) (env : Env) : Res Env :=
  if own = true then (match x with
    | .d (.list xs) => .ok (env.set i (.ol xs))
    | .t kvs => .ok (env.set i (.ot kvs))
    | .k kvs => .ok (env.set i (.ok kvs))
    | _ => .no) else .ok (env.set i (.v x))
def stAll : List (Bool × Nat) → List MV → Env → Res Env
  | [], [], env => .ok env
  | m :: ms, x :: xs, env => (stM m.1 m.2 x env).bind fun env' => stAll ms xs env'
  | _, _, _ => .no
def wipeE (env : Env) : List Nat → Env
  | [] => env
  | v :: vs => (wipeE env vs).set v .no
def lcL (step : PyData → Cells → Res (Option PyData × Cells)) : List PyData → List PyData → Cells → Res (List PyData × Cells)
  | [], acc, cs => .ok (acc, cs)
  | x :: xs, acc, cs => (step x cs).bind fun r => match r.1 with
    | some y => if lenOk (acc.length + 1) = true then lcL step xs (acc ++ [y]) r.2 else .no
    | none => lcL step xs acc r.2
def dcL (step : PyData → Cells → Res (Option (Key × PyData) × Cells)) : List PyData → List (Key × PyData) → Cells → Res (List (Key × PyData) × Cells)
  | [], acc, cs => .ok (acc, cs)
  | x :: xs, acc, cs => (step x cs).bind fun r => match r.1 with
    | some y => if lenOk (acc.length + 1) = true then dcL step xs (putD acc y.1 y.2) r.2 else .no
    | none => dcL step xs acc r.2
def rngL (lo : Int) : Nat → List PyData
  | 0 => []
  | n + 1 => .int lo :: rngL (lo + 1) n
def rngOk (i j : Int) : Bool := decide (-(2 ^ 62) ≤ i ∧ i < 2 ^ 62 ∧ -(2 ^ 62) ≤ j ∧ j < 2 ^ 62)
def zipL : List PyData → List PyData → List PyData
  | x :: xs, y :: ys => .tuple [x, y] :: zipL xs ys
  | _, _ => []

structure Cxt where
  cl : Nat → List MV → Cells → Res (MV × Cells)
  gl : Glo
  W : Nat

/-! ### the interpreter -/
mutual
def evE (C : Cxt) : E → Env → Cells → Res (MV × Cells)
  | .var i, env, cs => match env[i]? with
    | some (.v x) => .ok (x, cs)
    | _ => .no
  | .own i, env, cs => match env[i]? with
    | some (.ol xs) => .ok (.d (.list xs), cs)
    | some (.ok kvs) => .ok (.k kvs, cs)
    | some (.ot kvs) => .ok (.t kvs, cs)
    | _ => .no
  | .k c, _, cs => .ok (konV c, cs)
  | .glob g, _, cs => match C.gl.v[g]? with
    | some (.d x) => .ok (.d x, cs)
    | _ => .no
  | .gdk g e, env, cs => (evE C e env cs).bind fun r => (match r.1, C.gl.v[g]? with
    | .d (.str z), some (.k kvs) => (match lookS kvs z with
      | some y => .ok (.d y, r.2)
      | none => .no)
    | _, _ => .no)
  | .dct kvs, _, cs => .ok (.k (dctV kvs), cs)
  | .dix a i, env, cs => (evE C a env cs).bind fun r => (evE C i env r.2).bind fun q => (match r.1, q.1 with
    | .k kvs, .d y => (match (keyD y).bind (lookK kvs) with
      | some v => .ok (.d v, q.2)
      | none => .no)
    | .t kvs, .d y => (match lookT kvs y with
      | some v => .ok (.d v, q.2)
      | none => .no)
    | _, _ => .no)
  | .callK j es kes, env, cs => (evEs C es env cs).bind fun r => (evEs C kes env r.2).bind fun q => (match C.gl.kw[j]? with
    | some fo => if (decide (r.1.length = fo.n) && decide (q.1.length = fo.ks.length)) = true then (match arF r.1 q.1 fo.ar with
      | some vs => C.cl fo.f vs q.2
      | none => .no) else .no
    | none => .no)
  | .prim p es, env, cs => (evEs C es env cs).bind fun r => (primF p r.1).bind fun y => .ok (y, r.2)
  | .and a b, env, cs => (evE C a env cs).bind fun r => (truth r.1).bind fun t => if t = true then evE C b env r.2 else .ok r
  | .or a b, env, cs => (evE C a env cs).bind fun r => (truth r.1).bind fun t => if t = true then .ok r else evE C b env r.2
  | .not a, env, cs => (evE C a env cs).bind fun r => (truth r.1).bind fun t => .ok (.d (.bool (!t)), r.2)
  | .ite t a b, env, cs => (evE C t env cs).bind fun r => (truth r.1).bind fun t => if t = true then evE C a env r.2 else evE C b env r.2
  | .chain o o' a b c, env, cs => (evE C a env cs).bind fun r => (evE C b env r.2).bind fun q => (primF (.cmp o) [r.1, q.1]).bind fun t => (truth t).bind fun t =>
      if t = true then (evE C c env q.2).bind fun u => (primF (.cmp o') [q.1, u.1]).bind fun y => .ok (y, u.2) else .ok (.d (.bool false), q.2)
  | .call f es, env, cs => (evEs C es env cs).bind fun r => C.cl f r.1 r.2
  | .cidx a i, env, cs => (evE C a env cs).bind fun r => (evE C i env r.2).bind fun q => match r.1, q.1 with
    | .r n, .d (.int j) => (match q.2[n]? with
      | some (.lst xs) => (atD xs j).bind fun y => .ok (y, q.2)
      | none => .no)
    | _, _ => .no
  | .comp vs tg src cnd elt, env, cs => (evSR C src env cs).bind fun r => (lcL (fun x cs =>
      (asgT tg (.d x) (wipeE env (vs.map (·.2)))).bind fun env' => (evT C cnd env' cs).bind fun q => if q.1 = true then (evE C elt env' q.2).bind fun u => (match u.1 with
        | .d y => .ok (some y, u.2)
        | _ => .no) else .ok (none, q.2)) r.1 [] r.2).bind fun q => .ok (.d (.list q.1), q.2)
  | .dcomp vs tg src cnd ke ve, env, cs => (evSR C src env cs).bind fun r => (dcL (fun x cs =>
      (asgT tg (.d x) (wipeE env (vs.map (·.2)))).bind fun env' => (evT C cnd env' cs).bind fun q => if q.1 = true then (evE C ke env' q.2).bind fun u => (evE C ve env' u.2).bind fun w => (match u.1, w.1 with
        | .d y, .d z => (match keyD y with
          | some k => .ok (some (k, z), w.2)
          | none => .no)
        | _, _ => .no) else .ok (none, q.2)) r.1 [] r.2).bind fun q => .ok (.k q.1, q.2)
  | .disp ke ve, env, cs => (evE C ke env cs).bind fun u => (evE C ve env u.2).bind fun w => (match u.1, w.1 with
        | .d y, .d z => (match keyD y with
          | some k => .ok (.k [(k, z)], w.2)
          | none => .no)
        | _, _ => .no)
def evEs (C : Cxt) : Es → Env → Cells → Res (List MV × Cells)
  | .nil, _, cs => .ok ([], cs)
  | .cons e es, env, cs => (evE C e env cs).bind fun r => (evEs C es env r.2).bind fun q => .ok (r.1 :: q.1, q.2)
/-- the tests of a comprehension: none or one -/
def evT (C : Cxt) : Es → Env → Cells → Res (Bool × Cells)
  | .nil, _, cs => .ok (true, cs)
  | .cons e .nil, env, cs => (evE C e env cs).bind fun r => (truth r.1).bind fun t => .ok (t, r.2)
  | .cons _ (.cons _ _), _, _ => .no
def evSR (C : Cxt) : SR → Env → Cells → Res (List PyData × Cells)
  | .seq e, env, cs => (evE C e env cs).bind fun r => (match r.1 with
    | .d (.list xs) => .ok (xs, r.2)
    | .d (.tuple xs) => .ok (xs, r.2)
    | .d (.str z) => .ok (z.cps.toList.map fun c => PyData.str ⟨#[c]⟩, r.2)
    | _ => .no)
  | .rng a, env, cs => (evE C a env cs).bind fun r => (match r.1 with
    | .d (.int j) => if rngOk 0 j = true then .ok (rngL 0 j.toNat, r.2) else .no
    | _ => .no)
  | .rng2 a b, env, cs => (evE C a env cs).bind fun r => (evE C b env r.2).bind fun q => (match r.1, q.1 with
    | .d (.int i), .d (.int j) => if rngOk i j = true then .ok (rngL i (j - i).toNat, q.2) else .no
    | _, _ => .no)
  | .zip a b, env, cs => (evE C a env cs).bind fun r => (evE C b env r.2).bind fun q => (match r.1, q.1 with
    | .d (.list xs), .d (.list ys) => .ok (zipL xs ys, q.2)
    | .d (.tuple xs), .d (.tuple ys) => .ok (zipL xs ys, q.2)
    | _, _ => .no)
  | .enum a, env, cs => (evE C a env cs).bind fun r => (match r.1 with
    | .d (.list xs) => .ok (enumL 0 xs, r.2)
    | _ => .no)
end
/-- how a statement ends -/
inductive Fl where
  | nx | bk | ct
  | rt (x : MV)
abbrev Out := Fl × Env × Cells
def loopL (step : PyData → Env → Cells → Res Out) : List PyData → Env → Cells → Res Out
  | [], env, cs => .ok (.nx, env, cs)
  | x :: xs, env, cs => (step x env cs).bind fun r => match r.1 with
    | .nx => loopL step xs r.2.1 r.2.2
    | .ct => loopL step xs r.2.1 r.2.2
    | .bk => .ok (.nx, r.2.1, r.2.2)
    | .rt y => .ok (.rt y, r.2.1, r.2.2)
def loopW (c : Env → Cells → Res (Bool × Cells)) (step : Env → Cells → Res Out) : Nat → Env → Cells → Res Out
  | 0, _, _ => .no
  | n + 1, env, cs => (c env cs).bind fun t => if t.1 = true then (step env t.2).bind fun r => (match r.1 with
    | .nx => loopW c step n r.2.1 r.2.2
    | .ct => loopW c step n r.2.1 r.2.2
    | .bk => .ok (.nx, r.2.1, r.2.2)
    | .rt y => .ok (.rt y, r.2.1, r.2.2)) else .ok (.nx, env, t.2)
mutual
def evS (C : Cxt) : S → Env → Cells → Res Out
  | .asg t e, env, cs => (evE C e env cs).bind fun r => (asgT t r.1 env).bind fun env' => .ok (.nx, env', r.2)
  | .par ms es, env, cs => (evEs C es env cs).bind fun r => (stAll ms r.1 env).bind fun env' => .ok (.nx, env', r.2)
  | .own i e, env, cs => (evE C e env cs).bind fun r => (stM true i r.1 env).bind fun env' => .ok (.nx, env', r.2)
  | .newc i e, env, cs => (evE C e env cs).bind fun r => (match r.1 with
    | .d (.list xs) => .ok (.nx, env.set i (.v (.r r.2.length)), r.2 ++ [.lst xs])
    | _ => .no)
  | .cset a i e, env, cs => (evE C e env cs).bind fun u => (evE C a env u.2).bind fun r => (evE C i env r.2).bind fun q => (match u.1, r.1, q.1 with
    | .d y, .r n, .d (.int j) => (match q.2[n]? with
      | some (.lst xs) => (match ixN xs.length j with
        | some m => .ok (.nx, env, q.2.set n (.lst (xs.set m y)))
        | none => .no)
      | none => .no)
    | _, _, _ => .no)
  | .app i e, env, cs => (evE C e env cs).bind fun r => (match r.1, env[i]? with
    | .d y, some (.ol xs) => if lenOk (xs.length + 1) = true then .ok (.nx, env.set i (.ol (xs ++ [y])), r.2) else .no
    | _, _ => .no)
  | .lset i a e, env, cs => (evE C e env cs).bind fun r => (evE C a env r.2).bind fun q => (match r.1, q.1, env[i]? with
    | .d y, .d (.int j), some (.ol xs) => (match ixN xs.length j with
      | some m => .ok (.nx, env.set i (.ol (xs.set m y)), q.2)
      | none => .no)
    | _, _, _ => .no)
  | .ins i a e, env, cs => (evE C a env cs).bind fun q => (evE C e env q.2).bind fun r => (match q.1, r.1, env[i]? with
    | .d (.int j), .d y, some (.ol xs) => if (lenOk (xs.length + 1) && decide (0 ≤ j) && decide (j.toNat ≤ xs.length)) = true then .ok (.nx, env.set i (.ol (xs.take j.toNat ++ y :: xs.drop j.toNat)), r.2) else .no
    | _, _, _ => .no)
  | .popS i a, env, cs => (evE C a env cs).bind fun q => (match q.1, env[i]? with
    | .d (.int j), some (.ol xs) => if (decide (0 ≤ j) && decide (j.toNat < xs.length) && lenOk xs.length) = true then .ok (.nx, env.set i (.ol (xs.eraseIdx j.toNat)), q.2) else .no
    | _, _ => .no)
  | .dput i a e, env, cs => (evE C e env cs).bind fun r => (evE C a env r.2).bind fun q => (match r.1, q.1, env[i]? with
    | .d y, .d k, some (.ot kvs) => if ((nkD k).isSome && lenOk (kvs.length + 1)) = true then .ok (.nx, env.set i (.ot (putT kvs k y)), q.2) else .no
    | _, _, _ => .no)
  | .dsd i a e, env, cs => (evE C a env cs).bind fun q => (evE C e env q.2).bind fun r => (match q.1, r.1, env[i]? with
    | .d k, .d y, some (.ot kvs) => if ((nkD k).isSome && lenOk (kvs.length + 1)) = true then .ok (.nx, env.set i (.ot (if (lookT kvs k).isSome = true then kvs else putT kvs k y)), r.2) else .no
    | _, _, _ => .no)
  | .parT is es, env, cs => (evEs C es env cs).bind fun r => if (decide (is.length = r.1.length) && decide (is.length ≤ 100)) = true then .ok (.nx, setAllM is r.1 env, r.2) else .no
  | .kput i a e, env, cs => (evE C e env cs).bind fun r => (evE C a env r.2).bind fun q => (match r.1, q.1, env[i]? with
    | .d y, .d x, some (.ok kvs) => (match keyD x with
      | some k => if lenOk (kvs.length + 1) = true then .ok (.nx, env.set i (.ok (putD kvs k y)), q.2) else .no
      | none => .no)
    | _, _, _ => .no)
  | .forPop t d l c b, env, cs => (match env[l]?, env[d]? with
    | some (.ol xs), some (.v (.k kvs)) => (match xs.getLast? with
      | some y => (match (keyD y).bind (lookK kvs) with
        | some (.tuple zs) => (match atI zs c with
          | some (.tuple ws) => loopL (fun x env cs => (asgT t (.d x) env).bind fun env' => evSs C b env' cs) ws (env.set l (.ol xs.dropLast)) cs
          | _ => .no)
        | _ => .no)
      | none => .no)
    | _, _ => .no)
  | .frz i, env, cs => (match env[i]? with
    | some (.ol xs) => .ok (.nx, env.set i (.v (.d (.list xs))), cs)
    | some (.ok kvs) => .ok (.nx, env.set i (.v (.k kvs)), cs)
    | some (.ot kvs) => .ok (.nx, env.set i (.v (.t kvs)), cs)
    | some (.v _) => .ok (.nx, env, cs)
    | _ => .no)
  | .ite c a b, env, cs => (evE C c env cs).bind fun r => (truth r.1).bind fun t => if t = true then evSs C a env r.2 else evSs C b env r.2
  | .forr t src b, env, cs => (evSR C src env cs).bind fun r => loopL (fun x env cs => (asgT t (.d x) env).bind fun env' => evSs C b env' cs) r.1 env r.2
  | .whil c b, env, cs => loopW (fun env cs => (evE C c env cs).bind fun r => (truth r.1).bind fun t => .ok (t, r.2)) (evSs C b) C.W env cs
  | .ret e, env, cs => (evE C e env cs).bind fun r => .ok (.rt r.1, env, r.2)
  | .retN, env, cs => .ok (.rt (.d .none), env, cs)
  | .expr e, env, cs => (evE C e env cs).bind fun r => .ok (.nx, env, r.2)
  | .brk, env, cs => .ok (.bk, env, cs)
  | .cont, env, cs => .ok (.ct, env, cs)
  | .pass, env, cs => .ok (.nx, env, cs)
def evSs (C : Cxt) : Ss → Env → Cells → Res Out
  | .nil, env, cs => .ok (.nx, env, cs)
  | .cons s ss, env, cs => (evS C s env cs).bind fun r => match r.1 with
    | .nx => evSs C ss r.2.1 r.2.2
    | f => .ok (f, r.2.1, r.2.2)
end
/-- a def: its names, how many are parameters, its body -/
structure Def where
  names : List Str
  np : Nat
  body : Ss
def startE (D : Def) (vs : List MV) : Env := vs.map Sl.v ++ List.replicate (D.names.length - vs.length) Sl.no
/-- at most n calls within one another -/
def run (defs : List Def) (gl : Glo) (W : Nat) : Nat → Nat → List MV → Cells → Res (MV × Cells)
  | 0, _, _, _ => .no
  | n + 1, f, vs, cs => match defs[f]? with
    | none => .no
    | some D => if vs.length = D.np then (evSs ⟨run defs gl W n, gl, W⟩ D.body (startE D vs) cs).bind fun r => (match r.1 with
      | .rt x => .ok (x, r.2.2)
      | .nx => .ok (.d .none, r.2.2)
      | _ => .no) else .no
end R

namespace R
open PySem L2
variable [W0]
section
variable {K : PySem.W.Frag} {F F' F1 F2 H H' H1 H2 : Hp}

theorem rd_mono (h : Same F F') {a : Addr} {u : HO} (r : Rd F a u) : Rd F' a u := by
  rcases r with r | ⟨o, r⟩
  · exact .inl (h _ _ r)
  · exact .inr ⟨o, h _ _ r⟩
theorem sqT_mono (h : Same F F') {a : Addr} {xs : List V} (r : SqT K F a xs) : SqT K F' a xs := by
  rcases r with r | r
  · exact .inl (rd_mono h r)
  · exact .inr r
theorem sqL_mono (h : Same F F') {a : Addr} {xs : List V} (r : SqL K F a xs) : SqL K F' a xs := h.seq r
mutual
theorem dp_mono (h : Same F F') : ∀ (d : PyData) (v : V), Dp K F v d → Dp K F' v d
  | .none, _, r => by cases r; exact .non
  | .bool b, _, r => by cases r; exact .bl b
  | .int i, _, r => by cases r; exact .int i
  | .str x, _, r => by cases r; exact .str x
  | .list ds, _, r => by
    cases r with
    | lst hs ha => exact .lst (sqL_mono h hs) (dpAll_mono h ds _ ha)
  | .tuple ds, _, r => by
    cases r with
    | tup hs ha => exact .tup (sqT_mono h hs) (dpAll_mono h ds _ ha)
  | .dict _, _, r => by cases r
theorem dpAll_mono (h : Same F F') : ∀ (ds : List PyData) (vs : List V), DpAll K F vs ds → DpAll K F' vs ds
  | [], _, r => by cases r; exact .nil
  | d :: ds, _, r => by
    cases r with
    | cons a b => exact .cons (dp_mono h d _ a) (dpAll_mono h ds _ b)
end
theorem dpAll_len : ∀ {ds : List PyData} {vs : List V}, DpAll K F vs ds → vs.length = ds.length
  | [], _, r => by cases r; rfl
  | d :: ds, _, r => by
    cases r with
    | cons a b => rw [List.length_cons, List.length_cons, dpAll_len b]
theorem dpAll_get : ∀ {ds : List PyData} {vs : List V} {i : Nat} {d : PyData}, DpAll K F vs ds → ds[i]? = some d → ∃ v, vs[i]? = some v ∧ Dp K F v d
  | [], _, _, _, _, e => by simp at e
  | d :: ds, _, 0, _, r, e => by
    cases r with
    | cons a b => simp at e; subst e; exact ⟨_, rfl, a⟩
  | d :: ds, _, i + 1, _, r, e => by
    cases r with
    | cons a b =>
      obtain ⟨v, h1, h2⟩ := dpAll_get b (i := i) (by simpa using e)
      exact ⟨v, by simpa using h1, h2⟩
theorem dpAll_get' : ∀ {ds : List PyData} {vs : List V} {i : Nat} {v : V}, DpAll K F vs ds → vs[i]? = some v → ∃ d, ds[i]? = some d ∧ Dp K F v d
  | [], _, _, _, r, e => by cases r; simp at e
  | d :: ds, _, 0, _, r, e => by
    cases r with
    | cons a b => simp at e; subst e; exact ⟨_, rfl, a⟩
  | d :: ds, _, i + 1, _, r, e => by
    cases r with
    | cons a b =>
      obtain ⟨v, h1, h2⟩ := dpAll_get' b (i := i) (by simpa using e)
      exact ⟨v, by simpa using h1, h2⟩
theorem dpAll_app : ∀ {ds es : List PyData} {vs ws : List V}, DpAll K F vs ds → DpAll K F ws es → DpAll K F (vs ++ ws) (ds ++ es)
  | [], _, _, _, r, q => by cases r; exact q
  | d :: ds, _, _, _, r, q => by
    cases r with
    | cons a b => exact .cons a (dpAll_app b q)
theorem dpAll_take : ∀ (n : Nat) {ds : List PyData} {vs : List V}, DpAll K F vs ds → DpAll K F (vs.take n) (ds.take n)
  | 0, _, _, _ => by simp; exact .nil
  | n + 1, [], _, r => by cases r; exact .nil
  | n + 1, d :: ds, _, r => by
    cases r with
    | cons a b => exact .cons a (dpAll_take n b)
theorem dpAll_drop : ∀ (n : Nat) {ds : List PyData} {vs : List V}, DpAll K F vs ds → DpAll K F (vs.drop n) (ds.drop n)
  | 0, _, _, r => r
  | n + 1, [], _, r => by cases r; exact .nil
  | n + 1, d :: ds, _, r => by
    cases r with
    | cons a b => exact dpAll_drop n b
theorem dpAll_set : ∀ (n : Nat) {ds : List PyData} {vs : List V} {v : V} {d : PyData}, DpAll K F vs ds → Dp K F v d → DpAll K F (vs.set n v) (ds.set n d)
  | _, [], _, _, _, r, _ => by cases r; exact .nil
  | 0, d :: ds, _, _, _, r, q => by
    cases r with
    | cons a b => exact .cons q b
  | n + 1, d :: ds, _, _, _, r, q => by
    cases r with
    | cons a b => exact .cons a (dpAll_set n b q)
theorem dpAll_rev : ∀ {ds : List PyData} {vs : List V}, DpAll K F vs ds → DpAll K F vs.reverse ds.reverse
  | [], _, r => by cases r; exact .nil
  | d :: ds, _, r => by
    cases r with
    | cons a b => rw [List.reverse_cons, List.reverse_cons]; exact dpAll_app (dpAll_rev b) (.cons a .nil)
/-- a dict's pairs -/
def KR {κ : Type} (K : PySem.W.Frag) (F : Hp) (ks : List (κ × V)) (kvs : List (κ × PyData)) : Prop := Paired (fun (p : κ × V) (q : κ × PyData) => p.1 = q.1 ∧ Dp K F p.2 q.2) ks kvs
theorem kr_mono {κ : Type} (h : Same F F') {ks : List (κ × V)} {kvs : List (κ × PyData)} (r : KR K F ks kvs) : KR K F' ks kvs := Paired.mapP r fun _ _ z => ⟨z.1, dp_mono h _ _ z.2⟩

/-- the dict at a has these keys and values, by their objects -/
def TPhi (w : World) (a : Addr) (xs : List (NestedKey × Addr × Value)) : Heap → Prop := fun h => ((a == sysModules) = false ∧ xs.length ≤ sizeLine) ∧ ∃ o es ep, h.get? a = some o ∧ o.ExactDict ∧ o.data = .dict es ep ∧ es.toList = xs.map (fun x => ⟨x.1.hash w, .ref x.2.1, x.2.2⟩) ∧ (xs.map (·.1)).Nodup
def TR (K : PySem.W.Frag) (F : Hp) (xs : List (NestedKey × Addr × Value)) (kvs : List (PyData × PyData)) : Prop :=
  Paired (fun (x : NestedKey × Addr × Value) (q : PyData × PyData) => (nkD q.1 = some x.1 ∧ Dp K F (.ref x.2.1) q.1) ∧ ∃ v, RelV v x.2.2 ∧ Dp K F v q.2) xs kvs
theorem tr_mono (h : Same F F') {xs : List (NestedKey × Addr × Value)} {kvs : List (PyData × PyData)} (r : TR K F xs kvs) : TR K F' xs kvs :=
  Paired.mapP r fun _ _ z => ⟨⟨z.1.1, dp_mono h _ _ z.1.2⟩, let ⟨v, h1, h2⟩ := z.2; ⟨v, h1, dp_mono h _ _ h2⟩⟩
def RelM (K : PySem.W.Frag) (F : Hp) (ρ : List Addr) (v : V) : MV → Prop
  | .d x => Dp K F v x
  | .k kvs => ∃ a ks, v = .ref a ∧ F a = some (.dK ks) ∧ KR K F ks kvs
  | .t kvs => ∃ a xs, v = .ref a ∧ F a = some (.ext (TPhi W0.w a xs)) ∧ TR K F xs kvs
  | .p xs => ∃ a o vs, v = .ref a ∧ F a = some (.frz o (.tup vs)) ∧ o.dict = none ∧ DpAll K F vs xs
  | .r n => ∃ a, v = .ref a ∧ ρ[n]? = some a
/-- an owned list or dict, read on loan -/
def Bor (K : PySem.W.Frag) (F : Hp) (ρ : List Addr) (H : Hp) (v : V) : MV → Prop
  | .d (.list xs) => ∃ p vs, v = .ref p ∧ H p = some (.lst vs) ∧ DpAll K F vs xs ∧ p ∉ ρ
  | .k kvs => ∃ p ks, v = .ref p ∧ H p = some (.dK ks) ∧ KR K F ks kvs ∧ p ∉ ρ
  | .t kvs => ∃ p zs, v = .ref p ∧ H p = some (.ext (TPhi W0.w p zs)) ∧ TR K F zs kvs ∧ p ∉ ρ
  | _ => False
def RelX (K : PySem.W.Frag) (F : Hp) (ρ : List Addr) (H : Hp) (v : V) (x : MV) : Prop := RelM K F ρ v x ∨ Bor K F ρ H v x
def CellR (K : PySem.W.Frag) (F H : Hp) (a : Addr) : Cell → Prop
  | .lst xs => ∃ vs, H a = some (.lst vs) ∧ DpAll K F vs xs
structure OkC (K : PySem.W.Frag) (F : Hp) (ρ : List Addr) (cs : Cells) (H : Hp) : Prop where
  sub : Same F H
  nd : ρ.Nodup
  len : ρ.length = cs.length
  out : ∀ a ∈ ρ, F a = none
  cell : ∀ (n : Nat) (a : Addr) (c : Cell), ρ[n]? = some a → cs[n]? = some c → CellR K F H a c
def Sl.isOwn : Sl → Bool
  | .ol _ => true | .ok _ => true | .ot _ => true
  | _ => false
def SlotR (K : PySem.W.Frag) (F : Hp) (ρ : List Addr) (H : Hp) (w : Option (Option V)) : Sl → Prop
  | .no => True
  | .v x => ∃ v, w = some (some v) ∧ RelM K F ρ v x
  | .ol xs => ∃ p vs, w = some (some (.ref p)) ∧ H p = some (.lst vs) ∧ DpAll K F vs xs ∧ F p = none ∧ p ∉ ρ
  | .ok kvs => ∃ p ks, w = some (some (.ref p)) ∧ H p = some (.dK ks) ∧ KR K F ks kvs ∧ F p = none ∧ p ∉ ρ
  | .ot kvs => ∃ p zs, w = some (some (.ref p)) ∧ H p = some (.ext (TPhi W0.w p zs)) ∧ TR K F zs kvs ∧ F p = none ∧ p ∉ ρ
structure OkV (K : PySem.W.Frag) (F : Hp) (ρ : List Addr) (env : Env) (σ : St) (H : Hp) : Prop where
  len : σ.length = env.length
  sl : ∀ (i : Nat) (s : Sl), env[i]? = some s → SlotR K F ρ H (σ[i]?) s
  dis : ∀ (i j : Nat) (s t : Sl) (p : Addr), env[i]? = some s → env[j]? = some t → s.isOwn = true → t.isOwn = true → σ[i]? = some (some (.ref p)) → σ[j]? = some (some (.ref p)) → i = j
/-- a step that changes no slot -/
structure Fwd (K : PySem.W.Frag) (F : Hp) (ρ : List Addr) (H F' : Hp) (ρ' : List Addr) (cs' : Cells) (H' : Hp) : Prop where
  ok : OkC K F' ρ' cs' H'
  sub : Same F F'
  new : ∀ a o, F' a = some o → F a = some o ∨ H a = none
  rho : ∃ more, ρ' = ρ ++ more ∧ ∀ a ∈ more, H a = none
  keep : ∀ a o, H a = some o → a ∉ ρ → H' a = some o
variable {ρ ρ' ρ1 ρ2 : List Addr} {cs cs' cs1 cs2 : Cells} {env : Env} {σ : St} {v : V} {x : MV}
theorem Fwd.refl (h : OkC K F ρ cs H) : Fwd K F ρ H F ρ cs H := ⟨h, Same.refl _, fun _ _ e => .inl e, ⟨[], by simp, fun _ z => by cases z⟩, fun _ _ e _ => e⟩
theorem OkC.at (h : OkC K F ρ cs H) {a : Addr} (ha : a ∈ ρ) : H a ≠ none := by
  obtain ⟨n, hn, e⟩ := List.getElem_of_mem ha
  have h1 : ρ[n]? = some a := by rw [List.getElem?_eq_getElem hn, e]
  have h2 : n < cs.length := by rw [← h.len]; exact hn
  have h3 := h.cell n a cs[n] h1 (List.getElem?_eq_getElem h2)
  cases hc : cs[n] with
  | lst xs =>
    rw [hc] at h3
    obtain ⟨vs, e, _⟩ := h3
    rw [e]; simp
theorem Fwd.dom (w : Fwd K F ρ H F' ρ' cs' H') {a : Addr} (h : H' a = none) : H a = none := by
  cases e : H a with
  | none => rfl
  | some o =>
    by_cases ha : a ∈ ρ
    · obtain ⟨more, hm, _⟩ := w.rho
      exact absurd h (w.ok.at (by rw [hm]; exact List.mem_append_left _ ha))
    · rw [w.keep a o e ha] at h; cases h
theorem Fwd.trans (w1 : Fwd K F ρ H F1 ρ1 cs1 H1) (w2 : Fwd K F1 ρ1 H1 F2 ρ2 cs2 H2) : Fwd K F ρ H F2 ρ2 cs2 H2 := by
  obtain ⟨m1, e1, n1⟩ := w1.rho
  obtain ⟨m2, e2, n2⟩ := w2.rho
  refine ⟨w2.ok, w1.sub.trans w2.sub, fun a o e => ?_, ⟨m1 ++ m2, by rw [e2, e1, List.append_assoc], fun a ha => ?_⟩, fun a o e ha => ?_⟩
  · rcases w2.new a o e with h | h
    · exact w1.new a o h
    · exact .inr (w1.dom h)
  · rcases List.mem_append.mp ha with h | h
    · exact n1 a h
    · exact w1.dom (n2 a h)
  · refine w2.keep a o (w1.keep a o e ha) fun z => ?_
    rw [e1] at z
    rcases List.mem_append.mp z with h | h
    · exact ha h
    · rw [n1 a h] at e; cases e
theorem relM_mono (h : Same F F') (hr : ∃ more, ρ' = ρ ++ more) (r : RelM K F ρ v x) : RelM K F' ρ' v x := by
  cases x with
  | d x => exact dp_mono h _ _ r
  | k kvs => obtain ⟨a, ks, e, f, q⟩ := r; exact ⟨a, ks, e, h _ _ f, kr_mono h q⟩
  | t kvs => obtain ⟨a, ks, e, f, q⟩ := r; exact ⟨a, ks, e, h _ _ f, tr_mono h q⟩
  | p xs => obtain ⟨a, o, vs, e, f, d, q⟩ := r; exact ⟨a, o, vs, e, h _ _ f, d, dpAll_mono h _ _ q⟩
  | r n =>
    obtain ⟨a, e, f⟩ := r
    obtain ⟨more, rfl⟩ := hr
    refine ⟨a, e, ?_⟩
    rw [List.getElem?_append_left (List.getElem?_eq_some_iff.mp f).1]; exact f
theorem Fwd.relM (w : Fwd K F ρ H F' ρ' cs' H') (r : RelM K F ρ v x) : RelM K F' ρ' v x := relM_mono w.sub (let ⟨m, e, _⟩ := w.rho; ⟨m, e⟩) r
theorem Fwd.notin (w : Fwd K F ρ H F' ρ' cs' H') {p : Addr} {o : HO} (e : H p = some o) (h : p ∉ ρ) : p ∉ ρ' := by
  obtain ⟨m, e1, n⟩ := w.rho
  rw [e1]
  intro z
  rcases List.mem_append.mp z with z | z
  · exact h z
  · rw [n p z] at e; cases e
theorem Fwd.bor (w : Fwd K F ρ H F' ρ' cs' H') (r : Bor K F ρ H v x) : Bor K F' ρ' H' v x := by
  cases x with
  | d x =>
    cases x with
    | list xs => obtain ⟨p, vs, e, f, q, n⟩ := r; exact ⟨p, vs, e, w.keep _ _ f n, dpAll_mono w.sub _ _ q, w.notin f n⟩
    | _ => exact r.elim
  | k kvs => obtain ⟨p, vs, e, f, q, n⟩ := r; exact ⟨p, vs, e, w.keep _ _ f n, kr_mono w.sub q, w.notin f n⟩
  | t kvs => obtain ⟨p, vs, e, f, q, n⟩ := r; exact ⟨p, vs, e, w.keep _ _ f n, tr_mono w.sub q, w.notin f n⟩
  | p xs => exact r.elim
  | r n => exact r.elim
theorem Fwd.relX (w : Fwd K F ρ H F' ρ' cs' H') (r : RelX K F ρ H v x) : RelX K F' ρ' H' v x := by
  rcases r with r | r
  · exact .inl (w.relM r)
  · exact .inr (w.bor r)
theorem Fwd.frN (w : Fwd K F ρ H F' ρ' cs' H') {p : Addr} {o : HO} (e : H p = some o) (f : F p = none) : F' p = none := by
  cases q : F' p with
  | none => rfl
  | some u =>
    rcases w.new p u q with h | h
    · rw [f] at h; cases h
    · rw [e] at h; cases h
theorem Fwd.okV (w : Fwd K F ρ H F' ρ' cs' H') (h : OkV K F ρ env σ H) : OkV K F' ρ' env σ H' := by
  refine ⟨h.len, fun i s e => ?_, h.dis⟩
  have q := h.sl i s e
  cases s with
  | no => trivial
  | v x => obtain ⟨v, e, r⟩ := q; exact ⟨v, e, w.relM r⟩
  | ol xs => obtain ⟨p, vs, e, f, q, n, m⟩ := q; exact ⟨p, vs, e, w.keep _ _ f m, dpAll_mono w.sub _ _ q, w.frN f n, w.notin f m⟩
  | ok xs => obtain ⟨p, vs, e, f, q, n, m⟩ := q; exact ⟨p, vs, e, w.keep _ _ f m, kr_mono w.sub q, w.frN f n, w.notin f m⟩
  | ot xs => obtain ⟨p, vs, e, f, q, n, m⟩ := q; exact ⟨p, vs, e, w.keep _ _ f m, tr_mono w.sub q, w.frN f n, w.notin f m⟩
theorem same_upd {p : Addr} {o : HO} (h : H p = none) : Same H (upd H p o) := fun b u e => by
  rw [upd_ne (ne_of_none e h)]; exact e
theorem cellR_mono (h : Same F F') (hH : Same H H') {a : Addr} {c : Cell} (r : CellR K F H a c) : CellR K F' H' a c := by
  cases c with
  | lst xs => obtain ⟨vs, e, q⟩ := r; exact ⟨vs, hH _ _ e, dpAll_mono h _ _ q⟩
/-- a new object that never changes -/
theorem Fwd.fresh (h : OkC K F ρ cs H) {p : Addr} (o : HO) (hp : H p = none) : Fwd K F ρ H (upd F p o) ρ cs (upd H p o) := by
  have hF : F p = none := h.sub.free hp
  have hpr : p ∉ ρ := fun z => h.at z hp
  have sF : Same F (upd F p o) := same_upd hF
  have sH : Same H (upd H p o) := same_upd hp
  refine ⟨⟨fun a u e => ?_, h.nd, h.len, fun a ha => ?_, fun n a c e1 e2 => cellR_mono sF sH (h.cell n a c e1 e2)⟩, sF, fun a u e => ?_, ⟨[], by simp, fun _ z => by cases z⟩, fun a u e _ => sH _ _ e⟩
  · by_cases q : a = p
    · subst q; rw [upd_same] at e ⊢; exact e
    · rw [upd_ne q] at e ⊢; exact h.sub _ _ e
  · rw [upd_ne (fun q => hpr (by rw [← q]; exact ha))]; exact h.out a ha
  · by_cases q : a = p
    · subst q; exact .inr hp
    · rw [upd_ne q] at e; exact .inl e
/-- a new object that may change -/
theorem Fwd.own (h : OkC K F ρ cs H) {p : Addr} (o : HO) (hp : H p = none) : Fwd K F ρ H F ρ cs (upd H p o) := by
  have sH : Same H (upd H p o) := same_upd hp
  exact ⟨⟨h.sub.trans sH, h.nd, h.len, h.out, fun n a c e1 e2 => cellR_mono (Same.refl _) sH (h.cell n a c e1 e2)⟩, Same.refl _, fun _ _ e => .inl e, ⟨[], by simp, fun _ z => by cases z⟩, fun a u e _ => sH _ _ e⟩
/-- what is read as deep data, for the rules -/
theorem RelX.dp (w : OkC K F ρ cs H) {d : PyData} (r : RelX K F ρ H v (.d d)) : Dp K H v d := by
  rcases r with r | r
  · exact dp_mono w.sub _ _ r
  · cases d with
    | list xs => obtain ⟨p, vs, e, f, q, n⟩ := r; rw [e]; exact .lst (SqL.of f) (dpAll_mono w.sub _ _ q)
    | _ => exact r.elim
/-- a list to be read: its items are data for good -/
theorem RelX.lst (w : OkC K F ρ cs H) {xs : List PyData} (r : RelX K F ρ H v (.d (.list xs))) : ∃ p vs, v = .ref p ∧ SqL K H p vs ∧ DpAll K F vs xs := by
  rcases r with r | r
  · have r : Dp K F v (.list xs) := r
    cases r with
    | lst hs ha => exact ⟨_, _, rfl, sqL_mono w.sub hs, ha⟩
  · obtain ⟨p, vs, e, f, q, n⟩ := r; exact ⟨p, vs, e, SqL.of f, q⟩
theorem RelX.tup (w : OkC K F ρ cs H) {xs : List PyData} (r : RelX K F ρ H v (.d (.tuple xs))) : ∃ p vs, v = .ref p ∧ SqT K H p vs ∧ DpAll K F vs xs ∧ Dp K F v (.tuple xs) := by
  rcases r with r | r
  · have r : Dp K F v (.tuple xs) := r
    cases r with
    | tup hs ha => exact ⟨_, _, rfl, sqT_mono w.sub hs, ha, .tup hs ha⟩
  · exact r.elim
theorem RelX.tdict (w : OkC K F ρ cs H) {kvs : List (PyData × PyData)} (r : RelX K F ρ H v (.t kvs)) : ∃ p zs, v = .ref p ∧ H p = some (.ext (TPhi W0.w p zs)) ∧ TR K F zs kvs := by
  rcases r with ⟨a, xs, e, f, q⟩ | ⟨p, zs, e, f, q, _⟩
  · exact ⟨a, xs, e, w.sub _ _ f, q⟩
  · exact ⟨p, zs, e, f, q⟩
theorem RelX.kdict (w : OkC K F ρ cs H) {kvs : List (Key × PyData)} (r : RelX K F ρ H v (.k kvs)) : ∃ p ks, v = .ref p ∧ H p = some (.dK ks) ∧ KR K F ks kvs := by
  rcases r with ⟨a, xs, e, f, q⟩ | ⟨p, zs, e, f, q, _⟩
  · exact ⟨a, xs, e, w.sub _ _ f, q⟩
  · exact ⟨p, zs, e, f, q⟩
theorem RelX.dtup {xs : List PyData} (r : RelX K F ρ H v (.d (.tuple xs))) : Dp K F v (.tuple xs) := by
  rcases r with r | r
  · exact r
  · exact r.elim
theorem RelX.int {i : Int} (r : RelX K F ρ H v (.d (.int i))) : v = .int i := by
  rcases r with r | r
  · have r : Dp K F v (.int i) := r
    cases r; rfl
  · exact r.elim
theorem RelX.str {i : Str} (r : RelX K F ρ H v (.d (.str i))) : v = .str i := by
  rcases r with r | r
  · have r : Dp K F v (.str i) := r
    cases r; rfl
  · exact r.elim
theorem RelX.bl {i : Bool} (r : RelX K F ρ H v (.d (.bool i))) : v = .bl i := by
  rcases r with r | r
  · have r : Dp K F v (.bool i) := r
    cases r; rfl
  · exact r.elim
theorem RelX.non (r : RelX K F ρ H v (.d .none)) : v = .non := by
  rcases r with r | r
  · have r : Dp K F v .none := r
    cases r; rfl
  · exact r.elim
end
end R

namespace R
open PySem L2
variable [W0]
/-! ### readings by the interpreter -/
inductive Fg where | m | x | n
  deriving DecidableEq
/-- a new list, not yet shared -/
def RelN (K : PySem.W.Frag) (F' : Hp) (ρ' : List Addr) (H H' : Hp) (v : V) : MV → Prop
  | .d (.list xs) => ∃ p vs, v = .ref p ∧ H' p = some (.lst vs) ∧ DpAll K F' vs xs ∧ F' p = none ∧ p ∉ ρ' ∧ H p = none
  | .t kvs => ∃ p zs, v = .ref p ∧ H' p = some (.ext (TPhi W0.w p zs)) ∧ TR K F' zs kvs ∧ F' p = none ∧ p ∉ ρ' ∧ H p = none
  | .k kvs => ∃ p ks, v = .ref p ∧ H' p = some (.dK ks) ∧ KR K F' ks kvs ∧ F' p = none ∧ p ∉ ρ' ∧ H p = none
  | x => RelM K F' ρ' v x
/-- no list, no dict -/
def nL : MV → Bool
  | .d (.list _) => false
  | .t _ => false
  | .k _ => false
  | _ => true
def RelG (g : Fg) (K : PySem.W.Frag) (F' : Hp) (ρ' : List Addr) (H H' : Hp) (v : V) (x : MV) : Prop :=
  match g with
  | .m => RelM K F' ρ' v x
  | .x => RelX K F' ρ' H' v x
  | .n => RelN K F' ρ' H H' v x
section
variable {K : PySem.W.Frag} {F F' F1 F2 H H' H1 H2 : Hp} {ρ ρ' ρ1 ρ2 : List Addr} {cs cs' cs1 cs2 : Cells} {env : Env} {σ : St} {v : V} {x : MV}
theorem relN_of_not (h : nL x = true) : RelN K F' ρ' H H' v x = RelM K F' ρ' v x := by
  cases x with
  | d y => cases y with
    | list xs => cases h
    | _ => rfl
  | t _ => cases h
  | k _ => cases h
  | _ => rfl
theorem RelG.toX {g : Fg} (r : RelG g K F' ρ' H H' v x) : RelX K F' ρ' H' v x := by
  cases g with
  | m => exact .inl r
  | x => exact r
  | n =>
    have r : RelN K F' ρ' H H' v x := r
    cases x with
    | d y =>
      cases y with
      | list xs => obtain ⟨p, vs, e, f, q, a, b, c⟩ := r; exact .inr ⟨p, vs, e, f, q, b⟩
      | _ => exact .inl r
    | t kvs => obtain ⟨p, vs, e, f, q, a, b, c⟩ := r; exact .inr ⟨p, vs, e, f, q, b⟩
    | k kvs => obtain ⟨p, vs, e, f, q, a, b, c⟩ := r; exact .inr ⟨p, vs, e, f, q, b⟩
    | _ => exact .inl r
theorem freeze1 {p : Addr} {o : HO} (w : Fwd K F ρ H F' ρ' cs' H') (f : H' p = some o) (a : F' p = none) (b : p ∉ ρ') (c : H p = none) : Fwd K F ρ H (upd F' p o) ρ' cs' H' := by
  have sF : Same F' (upd F' p o) := same_upd a
  refine ⟨⟨fun z u e => ?_, w.ok.nd, w.ok.len, fun z hz => ?_, fun n z k e1 e2 => cellR_mono sF (Same.refl _) (w.ok.cell n z k e1 e2)⟩, w.sub.trans sF, fun z u e => ?_, w.rho, w.keep⟩
  · by_cases h : z = p
    · subst h; rw [upd_same] at e; rw [← e]; exact f
    · rw [upd_ne h] at e; exact w.ok.sub _ _ e
  · rw [upd_ne (fun h => b (by rw [← h]; exact hz))]; exact w.ok.out z hz
  · by_cases h : z = p
    · subst h; exact .inr c
    · rw [upd_ne h] at e; exact w.new z u e
/-- a new list shared from here on -/
theorem freeze (w : Fwd K F ρ H F' ρ' cs' H') (r : RelN K F' ρ' H H' v x) : ∃ F2, Fwd K F ρ H F2 ρ' cs' H' ∧ RelM K F2 ρ' v x := by
  have done : RelM K F' ρ' v x → ∃ F2, Fwd K F ρ H F2 ρ' cs' H' ∧ RelM K F2 ρ' v x := fun q => ⟨F', w, q⟩
  cases x with
  | d y =>
    cases y with
    | list xs =>
      obtain ⟨p, vs, e, f, q, a, b, c⟩ := r
      have sF : Same F' (upd F' p (.lst vs)) := same_upd a
      refine ⟨upd F' p (.lst vs), ⟨⟨fun z u e => ?_, w.ok.nd, w.ok.len, fun z hz => ?_, fun n z k e1 e2 => cellR_mono sF (Same.refl _) (w.ok.cell n z k e1 e2)⟩, w.sub.trans sF, fun z u e => ?_, w.rho, w.keep⟩, ?_⟩
      · by_cases h : z = p
        · subst h; rw [upd_same] at e; rw [← e]; exact f
        · rw [upd_ne h] at e; exact w.ok.sub _ _ e
      · rw [upd_ne (fun h => b (by rw [← h]; exact hz))]; exact w.ok.out z hz
      · by_cases h : z = p
        · subst h; exact .inr c
        · rw [upd_ne h] at e; exact w.new z u e
      · subst e
        exact Dp.lst (SqL.of upd_same) (dpAll_mono sF _ _ q)
    | _ => exact done r
  | t kvs =>
    obtain ⟨p, vs, e, f, q, a, b, c⟩ := r
    exact ⟨_, freeze1 w f a b c, p, vs, e, upd_same, tr_mono (same_upd a) q⟩
  | k kvs =>
    obtain ⟨p, vs, e, f, q, a, b, c⟩ := r
    exact ⟨_, freeze1 w f a b c, p, vs, e, upd_same, kr_mono (same_upd a) q⟩
  | _ => exact done r
end
def tG (K : PySem.W.Frag) (C : Cxt) (g : Fg) (c : E) : TE := fun σ H Q => ∃ F ρ cs env x cs', OkC K F ρ cs H ∧ OkV K F ρ env σ H ∧ evE C c env cs = .ok (x, cs') ∧
  ∀ F' ρ' H' v, Fwd K F ρ H F' ρ' cs' H' → RelG g K F' ρ' H H' v x → Q v H'
def RelXs (g : Fg) (K : PySem.W.Frag) (F : Hp) (ρ : List Addr) (H : Hp) (vs : List V) (xs : List MV) : Prop :=
  Paired (fun v x => match g with | .m => RelM K F ρ v x | _ => RelX K F ρ H v x) vs xs
def tAr (K : PySem.W.Frag) (C : Cxt) (g : Fg) (c : Es) : TA := fun σ H Q => ∃ F ρ cs env xs cs', OkC K F ρ cs H ∧ OkV K F ρ env σ H ∧ evEs C c env cs = .ok (xs, cs') ∧
  ∀ F' ρ' H' vs, Fwd K F ρ H F' ρ' cs' H' → RelXs g K F' ρ' H' vs xs → Q vs H'
def tTst (K : PySem.W.Frag) (C : Cxt) (c : E) : TT := fun σ H Q => ∃ F ρ cs env x cs' b, OkC K F ρ cs H ∧ OkV K F ρ env σ H ∧ evE C c env cs = .ok (x, cs') ∧ truth x = .ok b ∧
  ∀ F' ρ' H', Fwd K F ρ H F' ρ' cs' H' → Q b H'
section
variable {X : Cx} {C : Cxt} {e a b : Expr} {c ca cb : E} {g : Fg}
theorem pe_wk {t t' : TE} (h : PE X e t) (w : ∀ σ H Q, t' σ H Q → t σ H Q) : PE X e t' := ⟨fun pins s σ H Q I q => h.run pins s σ H Q I (w σ H Q q)⟩
theorem pt_wk {t t' : TT} (h : PT X e t) (w : ∀ σ H Q, t' σ H Q → t σ H Q) : PT X e t' := ⟨fun pins s σ H Q I q => h.run pins s σ H Q I (w σ H Q q)⟩
theorem pw_wk {t t' : TT} (h : PW X e t) (w : ∀ σ H Q, t' σ H Q → t σ H Q) : PW X e t' := ⟨fun wh pins s σ H Q I q => h.run wh pins s σ H Q I (w σ H Q q)⟩
theorem pa_wk {es : List Expr} {t t' : TA} (h : PA X es t) (w : ∀ σ H Q, t' σ H Q → t σ H Q) : PA X es t' := ⟨fun p pins s σ H Q I q => h.run p pins s σ H Q I (w σ H Q q)⟩
theorem ps_wk {st : Stmt} {t t' : TS} (h : PS X st t) (w : ∀ D σ H, t' D σ H → t D σ H) : PS X st t' := ⟨fun pins s σ H D I q => h.run pins s σ H D I (w D σ H q)⟩
theorem pss_wk {st : List Stmt} {t t' : TS} (h : PSs X st t) (w : ∀ D σ H, t' D σ H → t D σ H) : PSs X st t' := ⟨fun pins s σ H D I q => h.run pins s σ H D I (w D σ H q)⟩
/-- as an operand -/
theorem tG_x (h : PE X e (tG X.K C g c)) : PE X e (tG X.K C .x c) := pe_wk h fun σ H Q ⟨F, ρ, cs, env, x, cs', h1, h2, h3, k⟩ =>
  ⟨F, ρ, cs, env, x, cs', h1, h2, h3, fun F' ρ' H' v w r => k F' ρ' H' v w (RelG.toX r)⟩
/-- for good -/
theorem tG_m (h : PE X e (tG X.K C g c)) (hg : g ≠ .x) : PE X e (tG X.K C .m c) := by
  cases g with
  | m => exact h
  | x => exact absurd rfl hg
  | n => exact pe_wk h fun σ H Q ⟨F, ρ, cs, env, x, cs', h1, h2, h3, k⟩ => ⟨F, ρ, cs, env, x, cs', h1, h2, h3, fun F' ρ' H' v w r =>
      let ⟨F2, w2, r2⟩ := freeze w r
      k F2 ρ' H' v w2 r2⟩
/-- what an operation of two asks -/
def Op2 (X : Cx) (g : Fg) (p : Prim) (r : R2) : Prop := ∀ (F : Hp) (ρ : List Addr) (cs : Cells) (H : Hp) (v1 v2 : V) (x1 x2 x : MV) (Q : VK), OkC X.K F ρ cs H → RelX X.K F ρ H v1 x1 → RelX X.K F ρ H v2 x2 →
  primF p [x1, x2] = .ok x → (∀ F' H' v, Fwd X.K F ρ H F' ρ cs H' → RelG g X.K F' ρ H H' v x → Q v H') → r v1 v2 H Q
def Op1 (X : Cx) (g : Fg) (p : Prim) (r : V → Hp → VK → Prop) : Prop := ∀ (F : Hp) (ρ : List Addr) (cs : Cells) (H : Hp) (v1 : V) (x1 x : MV) (Q : VK), OkC X.K F ρ cs H → RelX X.K F ρ H v1 x1 →
  primF p [x1] = .ok x → (∀ F' H' v, Fwd X.K F ρ H F' ρ cs H' → RelG g X.K F' ρ H H' v x → Q v H') → r v1 H Q
def OpA (X : Cx) (g : Fg) (p : Prim) (r : List V → Hp → VK → Prop) : Prop := ∀ (F : Hp) (ρ : List Addr) (cs : Cells) (H : Hp) (vs : List V) (xs : List MV) (x : MV) (Q : VK), OkC X.K F ρ cs H → RelXs .x X.K F ρ H vs xs →
  primF p xs = .ok x → (∀ F' H' v, Fwd X.K F ρ H F' ρ cs H' → RelG g X.K F' ρ H H' v x → Q v H') → r vs H Q
theorem RelG.back {g : Fg} {K : PySem.W.Frag} {F' : Hp} {ρ' : List Addr} {H H1 H2 : Hp} {v : V} {x : MV} (h : ∀ a, H1 a = none → H a = none) (r : RelG g K F' ρ' H1 H2 v x) : RelG g K F' ρ' H H2 v x := by
  cases g with
  | m => exact r
  | x => exact r
  | n =>
    have r : RelN K F' ρ' H1 H2 v x := r
    show RelN K F' ρ' H H2 v x
    cases x with
    | d y =>
      cases y with
      | list xs => obtain ⟨p, vs, e, f, q, a, b, c⟩ := r; exact ⟨p, vs, e, f, q, a, b, h p c⟩
      | _ => exact r
    | t kvs => obtain ⟨p, vs, e, f, q, a, b, c⟩ := r; exact ⟨p, vs, e, f, q, a, b, h p c⟩
    | k kvs => obtain ⟨p, vs, e, f, q, a, b, c⟩ := r; exact ⟨p, vs, e, f, q, a, b, h p c⟩
    | _ => exact r
theorem evEs2 {C : Cxt} {ca cb : E} {env : Env} {cs cs' : Cells} {xs : List MV} (h : evEs C (.cons ca (.cons cb .nil)) env cs = .ok (xs, cs')) :
    ∃ x1 c1 x2, evE C ca env cs = .ok (x1, c1) ∧ evE C cb env c1 = .ok (x2, cs') ∧ xs = [x1, x2] := by
  simp only [evEs] at h
  obtain ⟨⟨x1, c1⟩, h1, h⟩ := Res.of_bind h
  obtain ⟨⟨ys, c3⟩, h2, h⟩ := Res.of_bind h
  obtain ⟨⟨x2, c2⟩, h3, h2⟩ := Res.of_bind h2
  cases h2
  cases h
  exact ⟨x1, c1, x2, h1, h3, rfl⟩
theorem evEs1 {C : Cxt} {ca : E} {env : Env} {cs cs' : Cells} {xs : List MV} (h : evEs C (.cons ca .nil) env cs = .ok (xs, cs')) :
    ∃ x1, evE C ca env cs = .ok (x1, cs') ∧ xs = [x1] := by
  simp only [evEs] at h
  obtain ⟨⟨x1, c1⟩, h1, h⟩ := Res.of_bind h
  cases h
  exact ⟨x1, h1, rfl⟩
theorem evPrim {C : Cxt} {p : Prim} {es : Es} {env : Env} {cs cs' : Cells} {x : MV} (h : evE C (.prim p es) env cs = .ok (x, cs')) :
    ∃ xs, evEs C es env cs = .ok (xs, cs') ∧ primF p xs = .ok x := by
  simp only [evE] at h
  obtain ⟨⟨x1, c1⟩, h1, h⟩ := Res.of_bind h
  obtain ⟨y, h2, h⟩ := Res.of_bind h
  cases h
  exact ⟨x1, h1, h2⟩
theorem two {p : Prim} {r : R2} (ho : Op2 X g p r) {σ : St} {H : Hp} {Q : VK} (h : tG X.K C g (.prim p (.cons ca (.cons cb .nil))) σ H Q) : tOp r (tG X.K C .x ca) (tG X.K C .x cb) σ H Q := by
  obtain ⟨F, ρ, cs, env, x, cs', h1, h2, h3, k⟩ := h
  obtain ⟨xs, h4, h5⟩ := evPrim h3
  obtain ⟨x1, c1, x2, e1, e2, rfl⟩ := evEs2 h4
  refine ⟨F, ρ, cs, env, x1, c1, h1, h2, e1, fun F1 ρ1 H1 v1 w1 r1 => ⟨F1, ρ1, c1, env, x2, cs', w1.ok, w1.okV h2, e2, fun F2 ρ2 H2 v2 w2 r2 => ?_⟩⟩
  have w := w1.trans w2
  exact ho F2 ρ2 cs' H2 v1 v2 x1 x2 x Q w.ok (w2.relX r1) r2 h5 fun F' H' v w' r' => k F' ρ2 H' v (w.trans w') (r'.back fun a => w.dom)
theorem one {p : Prim} {r : V → Hp → VK → Prop} (ho : Op1 X g p r) {σ : St} {H : Hp} {Q : VK} (h : tG X.K C g (.prim p (.cons ca .nil)) σ H Q) : tUn r (tG X.K C .x ca) σ H Q := by
  obtain ⟨F, ρ, cs, env, x, cs', h1, h2, h3, k⟩ := h
  obtain ⟨xs, h4, h5⟩ := evPrim h3
  obtain ⟨x1, e1, rfl⟩ := evEs1 h4
  refine ⟨F, ρ, cs, env, x1, cs', h1, h2, e1, fun F1 ρ1 H1 v1 w r1 => ?_⟩
  exact ho F1 ρ1 cs' H1 v1 x1 x Q w.ok r1 h5 fun F' H' v w' r' => k F' ρ1 H' v (w.trans w') (r'.back fun a => w.dom)
theorem lots {p : Prim} {ces : Es} {r : List V → Hp → VK → Prop} (ho : OpA X g p r) {σ : St} {H : Hp} {Q : VK} (h : tG X.K C g (.prim p ces) σ H Q) : tCB r (tAr X.K C .x ces) σ H Q := by
  obtain ⟨F, ρ, cs, env, x, cs', h1, h2, h3, k⟩ := h
  obtain ⟨xs, h4, h5⟩ := evPrim h3
  refine ⟨F, ρ, cs, env, xs, cs', h1, h2, h4, fun F1 ρ1 H1 vs w r1 => ?_⟩
  exact ho F1 ρ1 cs' H1 vs xs x Q w.ok r1 h5 fun F' H' v w' r' => k F' ρ1 H' v (w.trans w') (r'.back fun a => w.dom)
end
end R

namespace R
open PySem PySem.Spec PyProof.Rows L2
variable [W0]
section
variable {X : Cx}
/-! ### list + list of whatever is read -/
def rCatS (K : PySem.W.Frag) : R2 := fun x y H Q => ∃ l b xs zs, x = .ref l ∧ y = .ref b ∧ SqL K H l xs ∧ SqL K H b zs ∧ xs.length + zs.length ≤ sizeLine ∧ ∀ p, H p = none → Q (.ref p) (upd H p (.lst (xs ++ zs)))
theorem op_catS : OpR X (binaryOp .Add) (rCatS X.K) := by
  intro pins s σ H x y v u Q I rx ry h
  obtain ⟨l, b, xs, zs, rfl, rfl, hH, hB, hz, q⟩ := h
  cases rx
  cases ry
  obtain ⟨its, r, p1, z1⟩ := I.list hH
  obtain ⟨its2, r2, p2, z2⟩ := I.list hB
  obtain ⟨⟨cls, dd, data, sl⟩, ho, hc, n, hd⟩ := p1.isList
  obtain ⟨⟨cls2, dd2, data2, sl2⟩, ho2, hc2, n2, hd2⟩ := p2.isList
  simp only at hc hd hc2 hd2
  subst hc hd hc2 hd2
  have e : its.toArray ++ its2.toArray = (its ++ its2).toArray := by simp
  have hl1 := r.length
  have hl2 := r2.length
  refine concat_meets ⟨_, ho, rfl⟩ ⟨_, ho2, rfl⟩ noFill_list_add seq_list_add PySem.F.slot_list_add PySem.F.entry_list_add (PySem.F.args_list_add_2 _ _) (list_addW l b its.toArray its2.toArray n n2 dd dd2 sl sl2 (by simp; omega)) ⟨ho, ho2, ?_⟩
  rw [e]
  exact ⟨.ref _, _, I.lnew (t' := s.toks) (r.append r2) (by rw [List.length_append]; omega), rfl, q _ I.fresh⟩
/-! ### what an operation gives -/
variable {F H : Hp} {ρ : List Addr} {cs : Cells} {Q : VK}
/-- a value without an object -/
theorem give (ok : OkC X.K F ρ cs H) {g : Fg} {v : V} {x : MV} (r : RelM X.K F ρ v x) (hx : g = .m ∨ nL x = true) (hg : g ≠ .x) (k : ∀ F' H' v, Fwd X.K F ρ H F' ρ cs H' → RelG g X.K F' ρ H H' v x → Q v H') : Q v H := by
  refine k F H v (Fwd.refl ok) ?_
  cases g with
  | m => exact r
  | x => exact absurd rfl hg
  | n =>
    show RelN X.K F ρ H H v x
    rcases hx with h | h
    · cases h
    · rw [relN_of_not h]; exact r
theorem give_int (ok : OkC X.K F ρ cs H) {g : Fg} {i : Int} (hg : g ≠ .x) (k : ∀ F' H' v, Fwd X.K F ρ H F' ρ cs H' → RelG g X.K F' ρ H H' v (.d (.int i)) → Q v H') : Q (.int i) H :=
  give (x := .d (.int i)) ok (show Dp X.K F (.int i) (.int i) from .int i) (.inr rfl) hg k
theorem give_bl (ok : OkC X.K F ρ cs H) {g : Fg} {i : Bool} (hg : g ≠ .x) (k : ∀ F' H' v, Fwd X.K F ρ H F' ρ cs H' → RelG g X.K F' ρ H H' v (.d (.bool i)) → Q v H') : Q (.bl i) H :=
  give (x := .d (.bool i)) ok (show Dp X.K F (.bl i) (.bool i) from .bl i) (.inr rfl) hg k
theorem give_str (ok : OkC X.K F ρ cs H) {g : Fg} {i : Str} (hg : g ≠ .x) (k : ∀ F' H' v, Fwd X.K F ρ H F' ρ cs H' → RelG g X.K F' ρ H H' v (.d (.str i)) → Q v H') : Q (.str i) H :=
  give (x := .d (.str i)) ok (show Dp X.K F (.str i) (.str i) from .str i) (.inr rfl) hg k
/-- a new tuple -/
theorem give_tup (ok : OkC X.K F ρ cs H) {g : Fg} {vs : List V} {xs : List PyData} (ha : DpAll X.K F vs xs) (hg : g ≠ .x) (k : ∀ F' H' v, Fwd X.K F ρ H F' ρ cs H' → RelG g X.K F' ρ H H' v (.d (.tuple xs)) → Q v H') :
    ∀ p, H p = none → Q (.ref p) (upd H p (.tup vs)) := fun p hp => by
  have w := Fwd.fresh ok (.tup vs) hp
  have r : RelM X.K (upd F p (.tup vs)) ρ (.ref p) (.d (.tuple xs)) := Dp.tup (SqT.of upd_same) (dpAll_mono w.sub _ _ ha)
  refine k _ _ _ w ?_
  cases g with
  | m => exact r
  | x => exact absurd rfl hg
  | n => exact r
/-- a new list -/
theorem give_lst (ok : OkC X.K F ρ cs H) {g : Fg} {vs : List V} {xs : List PyData} (ha : DpAll X.K F vs xs) (hg : g = .n) (k : ∀ F' H' v, Fwd X.K F ρ H F' ρ cs H' → RelG g X.K F' ρ H H' v (.d (.list xs)) → Q v H') :
    ∀ p, H p = none → Q (.ref p) (upd H p (.lst vs)) := fun p hp => by
  subst hg
  refine k _ _ _ (Fwd.own ok (.lst vs) hp) ?_
  exact ⟨p, vs, rfl, upd_same, ha, ok.sub.free hp, fun z => ok.at z hp, hp⟩

/-! ### operators -/
theorem o_add : Op2 X .n .add (fun x y H Q => (rI0 fun i j => .int (i + j)) x y H Q ∨ rCatS X.K x y H Q ∨ (∃ i j, x = .str i ∧ y = .str j ∧ i.length + j.length ≤ sizeLine ∧ Q (.str (i ++ j)) H) ∨ rCatA X.K x y H Q) := by
  intro F ρ cs H v1 v2 x1 x2 x Q ok r1 r2 h k
  simp only [primF] at h
  split at h
  · rename_i i j e
    cases e
    cases h
    exact .inl ⟨i, j, r1.int, r2.int, give_int ok (by decide) k⟩
  · rename_i a b e
    cases e
    split at h
    · rename_i hz
      cases h
      obtain ⟨p, vs, rfl, hs, ha⟩ := r1.lst ok
      obtain ⟨q, ws, rfl, hs2, hb⟩ := r2.lst ok
      refine .inr (.inl ⟨p, q, vs, ws, rfl, rfl, hs, hs2, ?_, give_lst ok (dpAll_app ha hb) rfl k⟩)
      rw [dpAll_len ha, dpAll_len hb]
      exact of_decide_eq_true hz
    · cases h
  · rename_i a b e
    cases e
    split at h
    · rename_i hz
      cases h
      exact .inr (.inr (.inl ⟨a, b, r1.str, r2.str, of_decide_eq_true hz, give_str ok (by decide) k⟩))
    · cases h
  · rename_i a b e
    cases e
    split at h
    · rename_i hz
      cases h
      have d1 := r1.dtup
      have d2 := r2.dtup
      obtain ⟨p, vs, rfl, hs, ha, _⟩ := r1.tup ok
      obtain ⟨q, ws, rfl, hs2, hb, _⟩ := r2.tup ok
      refine .inr (.inr (.inr ⟨p, q, vs, ws, rfl, rfl, hs, hs2, ?_, fun e => ?_, fun _ e => ?_, fun _ _ => give_tup ok (dpAll_app ha hb) (by decide) k⟩))
      · rw [dpAll_len ha, dpAll_len hb]
        exact of_decide_eq_true hz
      · subst e
        cases a with
        | nil => exact give (x := .d (.tuple b)) ok d2 (.inr rfl) (by decide) k
        | cons _ _ => cases ha
      · subst e
        cases b with
        | nil => rw [List.append_nil] at k; exact give (x := .d (.tuple a)) ok d1 (.inr rfl) (by decide) k
        | cons _ _ => cases hb
    · cases h
  · cases h
theorem o_sub : Op2 X .m .sub (rI0 fun i j => .int (i - j)) := by
  intro F ρ cs H v1 v2 x1 x2 x Q ok r1 r2 h k
  simp only [primF] at h
  split at h
  · rename_i i j e
    cases e
    cases h
    exact ⟨i, j, r1.int, r2.int, give_int ok (by decide) k⟩
  · cases h
theorem o_mul : Op2 X .m .mul (rI CMul fun i j => .int (i * j)) := by
  intro F ρ cs H v1 v2 x1 x2 x Q ok r1 r2 h k
  simp only [primF] at h
  split at h
  · rename_i i j e
    cases e
    split at h
    · rename_i hz
      cases h
      exact ⟨i, j, r1.int, r2.int, (by have q := of_decide_eq_true hz; exact q), give_int ok (by decide) k⟩
    · cases h
  · cases h
theorem o_fdiv : Op2 X .m .fdiv (rI CDivW fun i j => .int (i / j)) := by
  intro F ρ cs H v1 v2 x1 x2 x Q ok r1 r2 h k
  simp only [primF] at h
  split at h
  · rename_i i j e
    cases e
    split at h
    · rename_i hz
      cases h
      rw [Bool.and_eq_true] at hz
      exact ⟨i, j, r1.int, r2.int, ⟨of_decide_eq_true hz.1, of_decide_eq_true hz.2⟩, give_int ok (by decide) k⟩
    · cases h
  · cases h
theorem o_mod : Op2 X .m .mod (rI (fun _ j => 0 < j) fun i j => .int (i % j)) := by
  intro F ρ cs H v1 v2 x1 x2 x Q ok r1 r2 h k
  simp only [primF] at h
  split at h
  · rename_i i j e
    cases e
    split at h
    · rename_i hz
      cases h
      exact ⟨i, j, r1.int, r2.int, of_decide_eq_true hz, give_int ok (by decide) k⟩
    · cases h
  · cases h
theorem o_pow : Op2 X .m .pow (rI CPow fun i j => .int (i ^ j.toNat)) := by
  intro F ρ cs H v1 v2 x1 x2 x Q ok r1 r2 h k
  simp only [primF] at h
  split at h
  · rename_i i j e
    cases e
    split at h
    · rename_i hz
      cases h
      exact ⟨i, j, r1.int, r2.int, (by have q := of_decide_eq_true hz; exact q), give_int ok (by decide) k⟩
    · cases h
  · cases h
theorem o_neg : Op1 X .m .neg (rU fun i => .int (-i)) := by
  intro F ρ cs H v1 x1 x Q ok r1 h k
  simp only [primF] at h
  split at h
  · rename_i i e
    cases e
    cases h
    exact ⟨i, r1.int, give_int ok (by decide) k⟩
  · cases h

/-! ### comparisons -/
def coOp : CO → CmpOp
  | .eq => .Eq | .ne => .NotEq | .lt => .Lt | .le => .LtE | .gt => .Gt | .ge => .GtE | .isin => .In | .notin => .NotIn | .isN => .Is | .notN => .IsNot
def rInT (K : PySem.W.Frag) : R2 := fun x y H Q => ∃ d ds, Dp K H x d ∧ Dp K H y (.tuple ds) ∧ SeqAt.shaped d = true ∧ SeqAt.shaped (.tuple ds) = true ∧ Q (.bl (ds.any fun z => PyData.eqv z d)) H
def rNotInT (K : PySem.W.Frag) : R2 := fun x y H Q => ∃ d ds, Dp K H x d ∧ Dp K H y (.tuple ds) ∧ SeqAt.shaped d = true ∧ SeqAt.shaped (.tuple ds) = true ∧ Q (.bl (!(ds.any fun z => PyData.eqv z d))) H
theorem op_inT (hu : X.A.units + 65 < cLine) : OpR X (compareOp .In) (rInT X.K) := by
  intro pins s σ H x y v u Q I rx ry h
  obtain ⟨d, ds, hd, he, sd, se, q⟩ := h
  obtain ⟨as, r1⟩ := Dp.reads I d x v hd rx
  have hxs : PyData.canLayAll0 ds = true := SeqAt.canLay_of_shaped se
  have hroom : X.A.units + 1 + min (PyData.depthAll ds) d.depth < cLine := room_in_shaped sd hu
  cases he with
  | tup hs ha =>
    cases ry
    obtain ⟨its, rv, pl, hz⟩ := I.tuple hs
    obtain ⟨bs, r2⟩ := Dp.readsAll I ds _ its ha rv
    have hmap : its.map (SeqAt.readOf s.heap) = ds := SeqAt.readsAll_map ds its bs hxs r2
    have he := SeqAt.items_eqAt (A := X.A) (vs := its.toArray) (show ReadsAll s.heap its.toArray.toList ds bs from r2) r1 hxs (SeqAt.canLay_of_shaped sd) hroom
    refine SeqAt.in_tupleAt (fun u => PyData.eqv (SeqAt.readOf s.heap u) d) pl (fun w hw => he w (by simpa using hw)) ⟨.bl _, H, I, rfl, ?_⟩
    have e : its.toArray.any (fun u => PyData.eqv (SeqAt.readOf s.heap u) d) = ds.any fun z => PyData.eqv z d := by
      rw [← hmap, List.any_map]
      simp
      rfl
    rw [e]
    exact q
theorem op_notInT (hu : X.A.units + 65 < cLine) : OpR X (compareOp .NotIn) (rNotInT X.K) := by
  intro pins s σ H x y v u Q I rx ry h
  obtain ⟨d, ds, hd, he, sd, se, q⟩ := h
  obtain ⟨as, r1⟩ := Dp.reads I d x v hd rx
  have hxs : PyData.canLayAll0 ds = true := SeqAt.canLay_of_shaped se
  have hroom : X.A.units + 1 + min (PyData.depthAll ds) d.depth < cLine := room_in_shaped sd hu
  cases he with
  | tup hs ha =>
    cases ry
    obtain ⟨its, rv, pl, hz⟩ := I.tuple hs
    obtain ⟨bs, r2⟩ := Dp.readsAll I ds _ its ha rv
    have hmap : its.map (SeqAt.readOf s.heap) = ds := SeqAt.readsAll_map ds its bs hxs r2
    have he := SeqAt.items_eqAt (A := X.A) (vs := its.toArray) (show ReadsAll s.heap its.toArray.toList ds bs from r2) r1 hxs (SeqAt.canLay_of_shaped sd) hroom
    refine SeqAt.notIn_tupleAt (fun u => PyData.eqv (SeqAt.readOf s.heap u) d) pl (fun w hw => he w (by simpa using hw)) ⟨.bl _, H, I, rfl, ?_⟩
    have e : its.toArray.any (fun u => PyData.eqv (SeqAt.readOf s.heap u) d) = ds.any fun z => PyData.eqv z d := by
      rw [← hmap, List.any_map]
      simp
      rfl
    rw [e]
    exact q
def rLtD (K : PySem.W.Frag) : R2 := fun x y H Q => ∃ d e, Dp K H x d ∧ Dp K H y e ∧ PySem.W.alike d e = true ∧ d ≠ .none ∧ d.depth ≤ 60 ∧ Q (.bl (PySem.W.dataLt d e)) H
theorem op_ltD (hu : X.A.units + 65 < cLine) : OpR X (compareOp .Lt) (rLtD X.K) := by
  intro pins s σ H x y v u Q I rx ry h
  obtain ⟨d, e, hd, he, ha, hn, hdp, q⟩ := h
  obtain ⟨as, r1⟩ := Dp.reads I d x v hd rx
  obtain ⟨bs, r2⟩ := Dp.reads I e y u he ry
  exact PySem.W.rcLt_alike d e X.A s v u as bs r1 r2 ha hn (by omega) X.prog X.w _ _ ⟨.bl _, H, I, rfl, q⟩
/-- the rule for each -/
def rCo (K : PySem.W.Frag) : CO → R2
  | .eq => fun x y H Q => rEq x y H Q ∨ rEqD K x y H Q
  | .ne => fun x y H Q => rNe x y H Q ∨ rNeD K x y H Q
  | .lt => fun x y H Q => (rI0 fun i j => .bl (decide (i < j))) x y H Q ∨ (∃ i j, x = .str i ∧ y = .str j ∧ Q (.bl (decide (i.cps.toList < j.cps.toList))) H) ∨ rLtD K x y H Q
  | .le => rI0 fun i j => .bl (decide (i ≤ j))
  | .gt => rI0 fun i j => .bl (decide (j < i))
  | .ge => rI0 fun i j => .bl (decide (j ≤ i))
  | .isin => fun x y H Q => rInD K x y H Q ∨ rInT K x y H Q ∨ (∃ i j, x = .str i ∧ y = .str j ∧ Q (.bl (!(Builtin.Str.occurrences j i 0 j.length 1).isEmpty)) H)
  | .notin => fun x y H Q => rNotInD K x y H Q ∨ rNotInT K x y H Q ∨ (∃ i j, x = .str i ∧ y = .str j ∧ Q (.bl (!(!(Builtin.Str.occurrences j i 0 j.length 1).isEmpty))) H)
  | .isN => fun x y H Q => (y = .non ∧ Q (.bl (decide (x = .non))) H) ∨ rIsB x y H Q
  | .notN => fun x y H Q => (y = .non ∧ Q (.bl (!decide (x = .non))) H) ∨ rNotB x y H Q
theorem opr_co {k : Nat} (hr : Room k X.A) (o : CO) : OpR X (compareOp (coOp o)) (rCo X.K o) := by
  have hu := hr.un
  cases o with
  | eq => exact OpR.or op_eq (op_eqD hr.units)
  | ne => exact OpR.or op_ne (op_neD hr.units)
  | lt => exact OpR.or op_lt (OpR.or op_lt_str (op_ltD (by omega)))
  | le => exact op_le
  | gt => exact op_gt
  | ge => exact op_ge
  | isin => exact OpR.or (op_inD (by omega)) (OpR.or (op_inT (by omega)) op_in_str)
  | notin => exact OpR.or (op_notInD (by omega)) (OpR.or (op_notInT (by omega)) op_notin_str)
  | isN => exact OpR.or op_isN op_isBl
  | notN => exact OpR.or op_notN op_notBl
theorem scal_of {v1 v2 : V} {x y : PyData} (ok : OkC X.K F ρ cs H) (r1 : RelX X.K F ρ H v1 (.d x)) (r2 : RelX X.K F ρ H v2 (.d y)) (h : scalD x y = true) : scal v1 v2 = true ∧ decide (v1 = v2) = PyData.eqv x y := by
  cases x <;> cases y <;> first
    | (exact absurd (show false = true from h) Bool.false_ne_true)
    | skip
  all_goals first
    | (rw [r1.non]; first | rw [r2.non] | rw [r2.int] | rw [r2.bl] | rw [r2.str]; skip)
    | (rw [r1.int]; first | rw [r2.non] | rw [r2.int] | rw [r2.bl] | rw [r2.str]; skip)
    | (rw [r1.bl]; first | rw [r2.non] | rw [r2.int] | rw [r2.bl] | rw [r2.str]; skip)
    | (rw [r1.str]; first | rw [r2.non] | rw [r2.int] | rw [r2.bl] | rw [r2.str]; skip)
  all_goals refine ⟨rfl, ?_⟩
  all_goals first
    | (simp [PyData.eqv]; done)
    | (rw [PyData.eqv]; first | exact dec_int | exact dec_bl | exact dec_str | simp)
end
end R

namespace R
open PySem PySem.Spec PyProof.Rows L2
variable [W0]
section
variable {X : Cx} {F H : Hp} {ρ : List Addr} {cs : Cells} {Q : VK}
theorem shaped2 {x y : PyData} (h : (SeqAt.shaped x && SeqAt.shaped y) = true) : SeqAt.shaped x = true ∧ SeqAt.shaped y = true := Bool.and_eq_true_iff.mp h
theorem isN_eq {v : V} {a : PyData} (ok : OkC X.K F ρ cs H) (r : RelX X.K F ρ H v (.d a)) : decide (v = V.non) = isNoneD a := by
  cases a with
  | none => have e := r.non; subst e; rfl
  | bool b => have e := r.bl; subst e; rfl
  | int b => have e := r.int; subst e; rfl
  | str b => have e := r.str; subst e; rfl
  | list b => obtain ⟨p, vs, rfl, _⟩ := r.lst ok; rfl
  | tuple b => obtain ⟨p, vs, rfl, _⟩ := r.tup ok; rfl
  | dict b => cases r.dp ok
theorem o_cmp (o : CO) : Op2 X .m (.cmp o) (rCo X.K o) := by
  intro F ρ cs H v1 v2 x1 x2 x Q ok r1 r2 h k
  simp only [primF] at h
  split at h
  · rename_i a b e
    cases e
    obtain ⟨c, h1, h2⟩ := Res.of_bind h
    cases h2
    have q : Q (.bl c) H := give_bl ok (by decide) k
    cases o with
    | eq =>
      simp only [cmpD, eqD] at h1
      split at h1
      · rename_i hs
        cases h1
        obtain ⟨e1, e2⟩ := scal_of ok r1 r2 hs
        exact .inl ⟨e1, by rw [e2]; exact q⟩
      · split at h1
        · rename_i hs
          cases h1
          obtain ⟨s1, s2⟩ := shaped2 hs
          exact .inr ⟨a, b, r1.dp ok, r2.dp ok, s1, s2, q⟩
        · cases h1
    | ne =>
      simp only [cmpD] at h1
      obtain ⟨c', g1, g2⟩ := Res.of_bind h1
      clear h1
      have g2 := Res.ok.inj g2
      subst g2
      simp only [eqD] at g1
      split at g1
      · rename_i hs
        have g1 := Res.ok.inj g1
        subst g1
        obtain ⟨e1, e2⟩ := scal_of ok r1 r2 hs
        exact .inl ⟨e1, by rw [e2]; exact q⟩
      · split at g1
        · rename_i hs
          have g1 := Res.ok.inj g1
          subst g1
          obtain ⟨s1, s2⟩ := shaped2 hs
          exact .inr ⟨a, b, r1.dp ok, r2.dp ok, s1, s2, q⟩
        · cases g1
    | lt =>
      simp only [cmpD] at h1
      split at h1
      · cases h1; exact .inl ⟨_, _, r1.int, r2.int, q⟩
      · cases h1; exact .inr (.inl ⟨_, _, r1.str, r2.str, q⟩)
      · split at h1
        · rename_i hl
          cases h1
          unfold ltOk at hl
          rw [Bool.and_eq_true, decide_eq_true_eq] at hl
          exact .inr (.inr ⟨_, _, r1.dp ok, r2.dp ok, hl.1, (fun z => by cases z), hl.2, q⟩)
        · cases h1
      · cases h1
    | le =>
      simp only [cmpD] at h1
      split at h1
      · cases h1; exact ⟨_, _, r1.int, r2.int, q⟩
      · cases h1
    | gt =>
      simp only [cmpD] at h1
      split at h1
      · cases h1; exact ⟨_, _, r1.int, r2.int, q⟩
      · cases h1
    | ge =>
      simp only [cmpD] at h1
      split at h1
      · cases h1; exact ⟨_, _, r1.int, r2.int, q⟩
      · cases h1
    | isin =>
      simp only [cmpD, inD] at h1
      split at h1
      · split at h1
        · rename_i hs
          cases h1
          obtain ⟨s1, s2⟩ := shaped2 hs
          exact .inl ⟨_, _, r1.dp ok, r2.dp ok, s1, s2, q⟩
        · cases h1
      · split at h1
        · rename_i hs
          cases h1
          obtain ⟨s1, s2⟩ := shaped2 hs
          exact .inr (.inl ⟨_, _, r1.dp ok, r2.dp ok, s1, s2, q⟩)
        · cases h1
      · split at h1
        · cases h1; exact .inr (.inr ⟨_, _, r1.str, r2.str, q⟩)
        · cases h1
      · cases h1
    | notin =>
      simp only [cmpD] at h1
      obtain ⟨c', g1, g2⟩ := Res.of_bind h1
      clear h1
      have g2 := Res.ok.inj g2
      subst g2
      simp only [inD] at g1
      split at g1
      · split at g1
        · rename_i hs
          have g1 := Res.ok.inj g1
          subst g1
          obtain ⟨s1, s2⟩ := shaped2 hs
          exact .inl ⟨_, _, r1.dp ok, r2.dp ok, s1, s2, q⟩
        · cases g1
      · split at g1
        · rename_i hs
          have g1 := Res.ok.inj g1
          subst g1
          obtain ⟨s1, s2⟩ := shaped2 hs
          exact .inr (.inl ⟨_, _, r1.dp ok, r2.dp ok, s1, s2, q⟩)
        · cases g1
      · split at g1
        · have g1 := Res.ok.inj g1
          subst g1
          exact .inr (.inr ⟨_, _, r1.str, r2.str, q⟩)
        · cases g1
      · cases g1
    | isN =>
      simp only [cmpD] at h1
      split at h1
      · have h1 := Res.ok.inj h1
        subst h1
        exact .inl ⟨r2.non, by rw [isN_eq ok r1]; exact q⟩
      · split at h1
        · have h1 := Res.ok.inj h1
          subst h1
          exact .inr ⟨_, _, r1.bl, r2.bl, q⟩
        · cases h1
      · cases h1
    | notN =>
      simp only [cmpD] at h1
      split at h1
      · have h1 := Res.ok.inj h1
        subst h1
        exact .inl ⟨r2.non, by rw [isN_eq ok r1]; exact q⟩
      · split at h1
        · have h1 := Res.ok.inj h1
          subst h1
          exact .inr ⟨_, _, r1.bl, r2.bl, q⟩
        · cases h1
      · cases h1
  · cases h
/-! ### subscripts -/
theorem atI_rel {K : PySem.W.Frag} {F : Hp} {vs : List V} {xs : List PyData} (h : DpAll K F vs xs) {i : Int} {y : PyData} (e : atI xs i = some y) : ∃ v, atI vs i = some v ∧ Dp K F v y := by
  unfold atI at e ⊢
  rw [dpAll_len h]
  cases q : ixN xs.length i with
  | none => rw [q] at e; cases e
  | some j => rw [q] at e; exact dpAll_get h e
theorem give_d {K : PySem.W.Frag} (ok : OkC K F ρ cs H) {v : V} {x : PyData} (r : Dp K F v x) (k : ∀ F' H' v, Fwd K F ρ H F' ρ cs H' → RelG .m K F' ρ H H' v (.d x) → Q v H') : Q v H := k F H v (Fwd.refl ok) r
theorem o_idx : Op2 X .m .idx (fun x y H Q => rIxL X.K x y H Q ∨ rIxT X.K x y H Q ∨ rIxS x y H Q) := by
  intro F ρ cs H v1 v2 x1 x2 x Q ok r1 r2 h k
  simp only [primF] at h
  split at h
  · rename_i xs i e
    cases e
    simp only [atD] at h
    split at h
    · rename_i y he
      cases h
      obtain ⟨p, vs, rfl, hs, ha⟩ := r1.lst ok
      obtain ⟨v, h1, h2⟩ := atI_rel ha he
      exact .inl ⟨p, vs, i, v, rfl, r2.int, hs, h1, give_d ok h2 k⟩
    · cases h
  · rename_i xs i e
    cases e
    simp only [atD] at h
    split at h
    · rename_i y he
      cases h
      obtain ⟨p, vs, rfl, hs, ha, _⟩ := r1.tup ok
      have hd : Dp X.K F (.ref p) (.tuple xs) := by
        rcases r1 with r | r
        · exact r
        · exact r.elim
      cases hd with
      | tup hs' ha' =>
        obtain ⟨v, h1, h2⟩ := atI_rel ha' he
        exact .inr (.inl ⟨p, _, i, v, rfl, r2.int, sqT_mono ok.sub hs', h1, give_d ok h2 k⟩)
    · cases h
  · rename_i z i e
    cases e
    split at h
    · rename_i hz
      split at h
      · rename_i c hc
        cases h
        exact .inr (.inr ⟨z, i, c, r1.str, r2.int, of_decide_eq_true hz, hc, give_str ok (by decide) k⟩)
      · cases h
    · cases h
  · cases h
/-! ### displays -/
theorem relXs_all {F : Hp} : ∀ {vs : List V} {xs : List MV} {ds : List PyData}, RelXs .m X.K F ρ H vs xs → allD xs = some ds → DpAll X.K F vs ds
  | _, _, _, .nil, h => by simp only [allD] at h; cases h; exact .nil
  | _, _, _, .cons (b := x) r t, h => by
    cases x with
    | d y =>
      simp only [allD] at h
      cases q : allD _ with
      | none => rw [q] at h; simp at h
      | some es =>
        rw [q] at h
        simp at h
        subst h
        exact .cons r (relXs_all t q)
    | k _ => cases h
    | t _ => cases h
    | p _ => cases h
    | r _ => cases h
theorem allD_len : ∀ {xs : List MV} {ds : List PyData}, allD xs = some ds → xs.length = ds.length
  | [], _, h => by simp only [allD] at h; cases h; rfl
  | x :: xs, ds, h => by
    cases x with
    | d y =>
      simp only [allD] at h
      cases q : allD xs with
      | none => rw [q] at h; simp at h
      | some es =>
        rw [q] at h
        simp at h
        subst h
        rw [List.length_cons, List.length_cons, allD_len q]
    | k _ => cases h
    | t _ => cases h
    | p _ => cases h
    | r _ => cases h
/-- a tuple written -/
theorem d_tup {ces : Es} {C : Cxt} {σ : L2.St} (h : tG X.K C .m (.prim .tup ces) σ H Q) : tTup (tAr X.K C .m ces) σ H Q := by
  obtain ⟨F, ρ, cs, env, x, cs', h1, h2, h3, k⟩ := h
  obtain ⟨xs, h4, h5⟩ := evPrim h3
  refine ⟨F, ρ, cs, env, xs, cs', h1, h2, h4, fun F1 ρ1 H1 vs w r1 => ?_⟩
  simp only [primF] at h5
  split at h5
  · rename_i ds he
    split at h5
    · rename_i hz
      cases h5
      have ha := relXs_all r1 he
      refine ⟨by rw [dpAll_len ha]; exact of_decide_eq_true hz, give_tup w.ok ha (g := .m) (by decide) fun F' H' v w' r' => k F' ρ1 H' v (w.trans w') (r'.back fun a => w.dom)⟩
    · cases h5
  · cases h5
theorem d_lst {ces : Es} {C : Cxt} {σ : L2.St} (h : tG X.K C .n (.prim .lst ces) σ H Q) : tLst (tAr X.K C .m ces) σ H Q := by
  obtain ⟨F, ρ, cs, env, x, cs', h1, h2, h3, k⟩ := h
  obtain ⟨xs, h4, h5⟩ := evPrim h3
  refine ⟨F, ρ, cs, env, xs, cs', h1, h2, h4, fun F1 ρ1 H1 vs w r1 => ?_⟩
  simp only [primF] at h5
  split at h5
  · rename_i ds he
    split at h5
    · rename_i hz
      cases h5
      have ha := relXs_all r1 he
      refine ⟨by rw [dpAll_len ha]; exact of_decide_eq_true hz, give_lst w.ok ha rfl fun F' H' v w' r' => k F' ρ1 H' v (w.trans w') (r'.back fun a => w.dom)⟩
    · cases h5
  · cases h5
/-! ### built-ins -/
theorem relXs1 {vs : List V} {x : MV} (r : RelXs .x X.K F ρ H vs [x]) : ∃ v, vs = [v] ∧ RelX X.K F ρ H v x := by
  cases r with
  | cons a b => cases b; exact ⟨_, rfl, a⟩
theorem relXs2 {vs : List V} {x y : MV} (r : RelXs .x X.K F ρ H vs [x, y]) : ∃ v w, vs = [v, w] ∧ RelX X.K F ρ H v x ∧ RelX X.K F ρ H w y := by
  cases r with
  | cons a b =>
    obtain ⟨w, rfl, r2⟩ := relXs1 (X := X) b
    exact ⟨_, w, rfl, a, r2⟩
theorem o_len : OpA X .m .len (fun xs H Q => ∃ x n, xs = [x] ∧ LenV X.K x H n ∧ Q (.int n) H) := by
  intro F ρ cs H vs xs x Q ok r h k
  simp only [primF] at h
  split at h
  · cases h
    obtain ⟨v, rfl, r1⟩ := relXs1 r
    obtain ⟨p, ws, rfl, hs, ha⟩ := r1.lst ok
    exact ⟨_, _, rfl, .inl ⟨ws, hs, (dpAll_len ha).symm⟩, give_int ok (by decide) k⟩
  · cases h
    obtain ⟨v, rfl, r1⟩ := relXs1 r
    obtain ⟨p, ws, rfl, hs, ha, _⟩ := r1.tup ok
    exact ⟨_, _, rfl, .inr ⟨ws, hs, (dpAll_len ha).symm⟩, give_int ok (by decide) k⟩
  · split at h
    · rename_i hz
      cases h
      obtain ⟨v, rfl, r1⟩ := relXs1 r
      rw [r1.str]
      exact ⟨_, _, rfl, ⟨of_decide_eq_true hz, rfl⟩, give_int ok (by decide) k⟩
    · cases h
  · cases h
theorem o_listOf : OpA X .n .listOf (fun xs H Q => ∃ p ys, xs = [.ref p] ∧ (SqL X.K H p ys ∨ SqT X.K H p ys) ∧ ∀ l, H l = none → Q (.ref l) (upd H l (.lst ys))) := by
  intro F ρ cs H vs xs x Q ok r h k
  simp only [primF] at h
  split at h
  · cases h
    obtain ⟨v, rfl, r1⟩ := relXs1 r
    obtain ⟨p, ws, rfl, hs, ha⟩ := r1.lst ok
    exact ⟨_, _, rfl, .inl hs, give_lst ok ha rfl k⟩
  · cases h
    obtain ⟨v, rfl, r1⟩ := relXs1 r
    obtain ⟨p, ws, rfl, hs, ha, _⟩ := r1.tup ok
    exact ⟨_, _, rfl, .inr hs, give_lst ok ha rfl k⟩
  · cases h
theorem o_tupleOf : OpA X .m .tupleOf (fun xs H Q => ∃ p ys, xs = [.ref p] ∧ ((SqL X.K H p ys ∧ ∀ l, H l = none → Q (.ref l) (upd H l (.tup ys))) ∨ (SqT X.K H p ys ∧ Q (.ref p) H))) := by
  intro F ρ cs H vs xs x Q ok r h k
  simp only [primF] at h
  split at h
  · cases h
    obtain ⟨v, rfl, r1⟩ := relXs1 r
    obtain ⟨p, ws, rfl, hs, ha⟩ := r1.lst ok
    exact ⟨_, _, rfl, .inl ⟨hs, give_tup ok ha (by decide) k⟩⟩
  · rename_i zs
    cases h
    obtain ⟨v, rfl, r1⟩ := relXs1 r
    have hd := r1
    obtain ⟨p, ws, rfl, hs, ha, _⟩ := r1.tup ok
    have hd : Dp X.K F (.ref p) (.tuple zs) := by
      rcases hd with r | r
      · exact r
      · exact r.elim
    exact ⟨_, _, rfl, .inr ⟨hs, give_d ok hd k⟩⟩
  · cases h
theorem o_abs : OpA X .m .abs (fun xs H Q => ∃ i, xs = [.int i] ∧ Q (.int (if i < 0 then -i else i)) H) := by
  intro F ρ cs H vs xs x Q ok r h k
  simp only [primF] at h
  split at h
  · cases h
    obtain ⟨v, rfl, r1⟩ := relXs1 r
    rw [r1.int]
    exact ⟨_, rfl, give_int ok (by decide) k⟩
  · cases h
theorem o_max2 : OpA X .m .max2 (fun xs H Q => ∃ i j, xs = [.int i, .int j] ∧ Q (.int (if j > i then j else i)) H) := by
  intro F ρ cs H vs xs x Q ok r h k
  simp only [primF] at h
  split at h
  · cases h
    obtain ⟨v, w, rfl, r1, r2⟩ := relXs2 r
    rw [r1.int, r2.int]
    exact ⟨_, _, rfl, give_int ok (by decide) k⟩
  · cases h
theorem o_min2 : OpA X .m .min2 (fun xs H Q => ∃ i j, xs = [.int i, .int j] ∧ Q (.int (if j < i then j else i)) H) := by
  intro F ρ cs H vs xs x Q ok r h k
  simp only [primF] at h
  split at h
  · cases h
    obtain ⟨v, w, rfl, r1, r2⟩ := relXs2 r
    rw [r1.int, r2.int]
    exact ⟨_, _, rfl, give_int ok (by decide) k⟩
  · cases h
theorem o_int1 : OpA X .m .int1 (fun xs H Q => (∃ i, xs = [.int i] ∧ Q (.int i) H) ∨ ∃ k, xs = [.bl k] ∧ Q (.int (if k then 1 else 0)) H) := by
  intro F ρ cs H vs xs x Q ok r h k
  simp only [primF] at h
  split at h
  · cases h
    obtain ⟨v, rfl, r1⟩ := relXs1 r
    rw [r1.int]
    exact .inl ⟨_, rfl, give_int ok (by decide) k⟩
  · cases h
    obtain ⟨v, rfl, r1⟩ := relXs1 r
    rw [r1.bl]
    exact .inr ⟨_, rfl, give_int ok (by decide) k⟩
  · cases h
end
end R

namespace R
open PySem PySem.Spec PyProof.Rows L2
variable [W0]
section
variable {prog : Program} {w : World} {A : Around} {E : Value → Shared → Prop} {s : Shared}
theorem args_max4 (p q r z : Value) : argsOk "max" ⟨[p, q, r, z], []⟩ := by
  unfold argsOk
  kernel_rfl
/-- four values: the walk of the tuple that is made of them -/
theorem max4_walk {p q r z : Value} {Q : Value → Shared → Prop} (hh : A.handled = none) {its : Array Value} (hi : its = #[p, q, r, z])
    {bt : Nat → Nat → Bool} (hc : CmpOf prog w A.in1 .Gt (fun i v => its[i]? = some v) bt)
    (h : ∀ v h' tk, its[argBest bt 3]? = some v → (∀ b o, s.heap.get? b = some o → h'.get? b = some o) → Q v { s with heap := h', toks := tk }) :
    wpAny (model prog w) A (call (.builtin "max") [p, q, r, z]) Q E s := by
  subst hi
  have nm : (toString "max" ++ toString ".loop" : String) = "max.loop" := by decide
  refine call_function_tree F.kind_max F.plain_max F.entry_max (args_max4 p q r z) ?_
  show wpAny (model prog w) A.in1 (Builtin.Builtins.bindParams "max" ["key", "default"] 0 ⟨[], []⟩ >>= _) _ _ s
  refine wpAny_bind (wpAny_of_eq (by rfl : Builtin.Builtins.bindParams "max" ["key", "default"] 0 ⟨[], []⟩ = pure [none, none]) ?_)
  show wpAny (model prog w) A.in1 (newTuple [p, q, r, z] >>= _) _ _ s
  refine wpAny_bind (wpAny_newObj_type ?_)
  have tup : (s.heap.push { cls := .type "tuple", data := .seq #[p, q, r, z] }).IsTuple s.heap.objs.size #[p, q, r, z] := ⟨_, Heap.get?_push_size _ rfl, rfl, 0, rfl⟩
  have sz : (s.heap.push { cls := .type "tuple", data := .seq #[p, q, r, z] }).objs.size = s.heap.objs.size + 1 := Heap.size_push ..
  refine wpAny_bind (wpAny_pyIter_tuple tup ?_)
  have wk := Walks.tuple (prog := prog) (w := w) (A := A.in1) hh (s.heap.push { cls := .type "tuple", data := .seq #[p, q, r, z] }).objs.size s.heap.objs.size (by rw [sz]; exact Nat.ne_of_lt (Nat.lt_succ_self _)) #[p, q, r, z]
  refine wpAny_bind (wpAny_newObj_type ?_)
  rw [nm]
  have sz2 : ∀ o : Obj, ((s.heap.push { cls := .type "tuple", data := .seq #[p, q, r, z] }).push o).objs.size = s.heap.objs.size + 2 := fun o => by rw [Heap.size_push, sz]
  refine wpAny_pure ⟨plainId_quiet F.plain_max_loop _, codeAny_max_loop_first wk bt hc _ (fun hm => ?_) (Nat.zero_lt_succ 3) (wk.frame _ _ _ ⟨⟨_, Heap.get?_push_size _ rfl, rfl, rfl⟩, tup.push _⟩ fun b _ o e => Heap.get?_push_of_some _ e) (Heap.get?_push_size _ rfl) fun v h' tk hP hk => ?_⟩
  · rcases List.mem_cons.mp hm with e | hm
    · exact absurd ((sz2 _).symm.trans (e.trans sz)) (by omega)
    · rcases List.mem_cons.mp hm with e | hm
      · exact absurd ((sz2 _).symm.trans e) (by omega)
      · cases hm
  · refine h v h' tk hP fun b o e => ?_
    have lb := Heap.lt_size e
    refine hk b o (fun hm => ?_) (fun e2 => ?_) (Heap.get?_push_of_some _ (Heap.get?_push_of_some _ (Heap.get?_push_of_some _ e)))
    · rcases List.mem_cons.mp hm with e2 | hm
      · exact absurd (Nat.lt_of_le_of_lt (Nat.le_of_eq (e2.trans sz).symm) lb) (by omega)
      · cases hm
    · exact absurd (Nat.lt_of_le_of_lt (Nat.le_of_eq (e2.trans (sz2 _)).symm) lb) (by omega)
theorem best4 (f : Nat → Int) : f (argBest (fun i j => decide (f i > f j)) 3) = max (max (max (f 0) (f 1)) (f 2)) (f 3) := by
  have step : ∀ k, f (argBest (fun i j => decide (f i > f j)) (k + 1)) = max (f (argBest (fun i j => decide (f i > f j)) k)) (f (k + 1)) := fun k => by
    show f (if decide (f (k + 1) > f (argBest (fun i j => decide (f i > f j)) k)) = true then k + 1 else argBest (fun i j => decide (f i > f j)) k) = _
    split
    · rename_i h
      have := of_decide_eq_true h
      omega
    · rename_i h
      have : ¬ f (k + 1) > f (argBest (fun i j => decide (f i > f j)) k) := fun z => h (decide_eq_true z)
      omega
  rw [step, step, step]
  rfl
theorem max4_ints {a b c d : Int} {t u x y : Tok} {Q : Value → Shared → Prop} (hh : A.handled = none)
    (h : ∀ h' tk tk', (∀ b o, s.heap.get? b = some o → h'.get? b = some o) → Q (.int (max (max (max a b) c) d) tk') { s with heap := h', toks := tk }) :
    wpAny (model prog w) A (call (.builtin "max") [.int a t, .int b u, .int c x, .int d y]) Q E s := by
  refine max4_walk hh (its := intItems #[(a, t), (b, u), (c, x), (d, y)]) (by simp [intItems]) (CmpOf.ints_gt (numAt #[(a, t), (b, u), (c, x), (d, y)]) fun _ _ => intItems_at) fun v h' tk hv hk => ?_
  obtain ⟨t', rfl⟩ := intItems_at hv
  have e : numAt #[(a, t), (b, u), (c, x), (d, y)] (argBest (fun i j => decide (numAt #[(a, t), (b, u), (c, x), (d, y)] i > numAt #[(a, t), (b, u), (c, x), (d, y)] j)) 3) = max (max (max a b) c) d := by
    exact best4 _
  rw [e]
  exact h h' tk t' hk
end
section
variable {X : Cx}
theorem vals4 {x y z t : V} {us : List Value} (r : Vals [x, y, z, t] us) : ∃ a b c d, us = [a, b, c, d] ∧ RelV x a ∧ RelV y b ∧ RelV z c ∧ RelV t d := by
  cases r with
  | cons r1 r2 =>
    cases r2 with
    | cons r3 r4 =>
      obtain ⟨c, d, rfl, q2, q3⟩ := vals2 r4
      exact ⟨_, _, c, d, rfl, r1, r3, q2, q3⟩
theorem call_max4 (hc : X.calm = true) : CallR X (.builtin "max") (fun xs H Q => ∃ i j k l, xs = [.int i, .int j, .int k, .int l] ∧ Q (.int (max (max (max i j) k) l)) H) := by
  intro pins s σ H xs us Q I r h
  obtain ⟨i, j, k, l, rfl, q⟩ := h
  obtain ⟨_, _, _, _, rfl, ⟨t1, rfl⟩, ⟨t2, rfl⟩, ⟨t3, rfl⟩, ⟨t4, rfl⟩⟩ := vals4 r
  exact max4_ints (I.ok.hd hc) fun h' tk tk' kp => ⟨.int _, H, I.kept kp, ⟨_, rfl⟩, q⟩
theorem o_max4 : OpA X .m .max4 (fun xs H Q => ∃ i j k l, xs = [.int i, .int j, .int k, .int l] ∧ Q (.int (max (max (max i j) k) l)) H) := by
  intro F ρ cs H vs xs x Q ok r h k
  simp only [primF] at h
  split at h
  · cases h
    cases r with
    | cons r1 r => cases r with
      | cons r2 r => 
        obtain ⟨v, w, rfl, r3, r4⟩ := relXs2 (X := X) r
        rw [RelX.int r1, RelX.int r2, r3.int, r4.int]
        exact ⟨_, _, _, _, rfl, give_int ok (by decide) k⟩
  · cases h
end
end R

namespace R
open PySem PySem.Spec PySem.W PyProof.Rows L2
variable [W0]
section
variable {X : Cx}
theorem sortOk_of {xs : List PyData} (h : sortOk xs = true) : xs.length ≤ sizeLine ∧ AllAlike xs ∧ Sortable xs ∧ ∀ x ∈ xs, x.depth ≤ 60 := by
  unfold sortOk lenOk at h
  simp only [Bool.and_eq_true, Bool.or_eq_true, List.all_eq_true, decide_eq_true_eq] at h
  obtain ⟨⟨⟨h1, h2⟩, h3⟩, h4⟩ := h
  refine ⟨h1, fun d hd d2 hd2 => h2 d hd d2 hd2, ?_, h4⟩
  rcases h3 with h3 | h3
  · refine .inl fun d hd => ?_
    have := h3 d hd
    cases d with
    | tuple ys =>
      cases ys with
      | nil => cases this
      | cons y ys => exact ⟨y, ys, rfl⟩
    | _ => cases this
  · refine .inr fun d hd => ?_
    have := h3 d hd
    cases d with
    | none => cases this
    | tuple ys => cases this
    | _ => exact ⟨fun e => (by cases e), fun _ e => (by cases e)⟩
theorem each_pairs {K : PySem.W.Frag} {H : Hp} : ∀ {ws : List V} {xs : List PyData} {us : List Value}, DpAll K H ws xs → Vals ws us → ∃ bs : List (V × PyData), bs.map (·.1) = ws ∧ bs.map (·.2) = xs ∧ EachIs (fun u (b : V × PyData) => RelV b.1 u ∧ Dp K H b.1 b.2) us bs
  | [], [], us, _, v => by cases v; exact ⟨[], rfl, rfl, .nil⟩
  | w :: ws, x :: xs, us, d, v => by
    cases d with
    | cons d1 d2 =>
      cases v with
      | cons v1 v2 =>
        obtain ⟨bs, e1, e2, e3⟩ := each_pairs d2 v2
        exact ⟨(w, x) :: bs, by rw [List.map_cons, e1], by rw [List.map_cons, e2], .cons ⟨v1, d1⟩ e3⟩
  | [], _ :: _, _, d, _ => by cases d
  | _ :: _, [], _, d, _ => by cases d
theorem pairs_each {K : PySem.W.Frag} {H : Hp} : ∀ {us : List Value} {bs : List (V × PyData)}, EachIs (fun u (b : V × PyData) => RelV b.1 u ∧ Dp K H b.1 b.2) us bs → Vals (bs.map (·.1)) us ∧ DpAll K H (bs.map (·.1)) (bs.map (·.2))
  | _, _, .nil => ⟨.nil, .nil⟩
  | _, _, .cons h t => let ⟨a, b⟩ := pairs_each t; ⟨.cons h.1 a, .cons h.2 b⟩
theorem call_sorted1 (hu : X.A.units + 65 < cLine) : CallR X (.builtin "sorted") (fun ws H Q => ∃ (p : Addr) (xs : List PyData) (F : Hp), ws = [.ref p] ∧ Same F H ∧ (∃ vs, SqL X.K H p vs ∧ DpAll X.K F vs xs) ∧ sortOk xs = true ∧ ∀ l zs, H l = none → DpAll X.K F zs (sortD xs) → Q (.ref l) (upd H l (.lst zs))) := by
  intro pins s σ H ws us Q I r h
  obtain ⟨p, xs, F, rfl, hF, ⟨vs, hq, ha⟩, hs, q⟩ := h
  obtain ⟨u, rfl, rx⟩ := vals1 r
  cases rx
  obtain ⟨z1, z2, z3, z4⟩ := sortOk_of hs
  obtain ⟨its, r', pl, hz⟩ := I.list hq
  obtain ⟨bs, e1, e2, e3⟩ := each_pairs ha r'
  have er : EachIs (fun v (b : V × PyData) => ∃ as, Reads s.heap v b.2 as) its bs := e3.mono fun v b ⟨a, d⟩ => Dp.reads I b.2 b.1 v (dp_mono hF _ _ d) a
  have hbl : bs.length = xs.length := by rw [← e2, List.length_map]
  refine sorted_data (enc := fun b : V × PyData => b.2) pl.isList e3 er (by rw [e2]; exact z2) (by rw [e2]; exact z3) (by omega) (fun b hb => ?_) fun out ho eo => ?_
  · have := z4 b.2 (by rw [← e2]; exact List.mem_map.mpr ⟨b, hb, rfl⟩)
    omega
  · obtain ⟨a, b⟩ := pairs_each eo
    have em : (bs.mergeSort (PySem.W.dataLe false fun b : V × PyData => b.2)).map (·.2) = sortD xs := by
      unfold sortD
      rw [← e2]
      exact List.map_mergeSort fun _ _ _ _ => rfl
    rw [em] at b
    obtain ⟨c, hc⟩ := sortedAll_at s.heap its out.toArray
    have kp : ∀ b o, s.heap.get? b = some o → (sortedAll s.heap its out.toArray).get? b = some o := fun _ _ => sortedAll_old
    have hlen : ((bs.mergeSort (PySem.W.dataLe false fun b : V × PyData => b.2)).map (·.1)).length ≤ sizeLine := by rw [List.length_map, List.length_mergeSort]; omega
    refine ⟨.ref (s.heap.objs.size + 1), _, I.laid (t' := s.toks) kp (Nat.le_succ _) (show ObjOk X.prog X.w _ _ _ (.lst _) from ⟨hlen, out, c, a, hc⟩), rfl, q _ _ (I.hok.fresh (Nat.le_succ _)) b⟩
theorem o_sorted1 : OpA X .n .sorted1 (fun ws H Q => ∃ (p : Addr) (xs : List PyData) (F : Hp), ws = [.ref p] ∧ Same F H ∧ (∃ vs, SqL X.K H p vs ∧ DpAll X.K F vs xs) ∧ sortOk xs = true ∧ ∀ l zs, H l = none → DpAll X.K F zs (sortD xs) → Q (.ref l) (upd H l (.lst zs))) := by
  intro F ρ cs H vs xs x Q ok r h k
  simp only [primF] at h
  split at h
  · split at h
    · rename_i hs
      cases h
      obtain ⟨v, rfl, r1⟩ := relXs1 (X := X) r
      obtain ⟨p, ws, rfl, hq, ha⟩ := r1.lst ok
      exact ⟨p, _, F, rfl, ok.sub, ⟨ws, hq, ha⟩, hs, fun l zs hl hz => give_lst ok hz rfl k l hl⟩
    · cases h
  · cases h
end
end R

namespace R
open PySem PySem.Spec PySem.W PyProof.Rows L2
variable [W0]
section
variable {X : Cx}
/-- a list of any make, so many times -/
theorem times_list (p : Addr) (its : Array Value) (m : Nat) (dd : Option Addr) (ss : Array (Option Value)) (k : Int) (tk : Tok) (c0 : ¬(!Builtin.List.listFitsIndex k) = true) (c1 : ¬its.size * k.toNat > (2 ^ 63 - 1) / 8) (c2 : ¬Builtin.List.listTooLong (its.size * k.toNat) = true) :
    Meets (Builtin.«list.__mul__» ⟨[.ref p, .int k tk], []⟩) (fun _ R z => z.heap.get? p = some { cls := .type "list", dict := dd, data := .seq its m, slots := ss } ∧
      R (.ok (.ret (Value.ref z.heap.objs.size))) { z with heap := z.heap.push { cls := Value.type "list", data := Data.seq (List.foldl (fun y1 y2 => y1 ++ y2) #[] (List.replicate (if its.isEmpty = true then 0 else k.toNat) its)) }, toks := z.toks }) := by
  refine .of_wp fun P w A R z h => ?_
  obtain ⟨z1, z2, z3, z4, z5⟩ := z
  obtain ⟨hl, h⟩ := h
  have fits := AutoListH.joined_fits c2
  wp_walk
  refine wpAny_ite_false (decide_eq_false (Nat.not_lt.mpr fits)) ?_
  wp_walk
  exact ⟨_, rfl, h⟩
theorem times_back (k : Int) (tk : Tok) (p : Addr) (its : Array Value) (m : Nat) (dd : Option Addr) (ss : Array (Option Value)) :
    Meets (Builtin.«int.__rmul__» ⟨[.int k tk, .ref p], []⟩) (fun _ R z => z.heap.get? p = some { cls := .type "list", dict := dd, data := .seq its m, slots := ss } ∧ R (.ok (.ret Value.notImplemented)) z) := by
  refine .of_wp fun P w A R z h => ?_
  obtain ⟨z1, z2, z3, z4, z5⟩ := z
  obtain ⟨hl, h⟩ := h
  wp_walk
  exact ⟨_, rfl, h⟩
def rRepS (K : PySem.W.Frag) : R2 := fun x y H Q => ∃ l k xs, x = .ref l ∧ y = .int k ∧ SqL K H l xs ∧ 0 ≤ k ∧ k ≤ 1000 ∧ xs.length ≤ 1000 ∧ ∀ p, H p = none → Q (.ref p) (upd H p (.lst (List.replicate k.toNat xs).flatten))
theorem op_repS : OpR X (binaryOp .Mult) (rRepS X.K) := by
  intro pins s σ H x y v u Q I rx ry h
  obtain ⟨l, k, xs, rfl, rfl, hq, k0, k1, hz, q⟩ := h
  cases rx
  obtain ⟨tk, rfl⟩ := ry
  obtain ⟨its, rv, ⟨⟨cls, dd, data, ss⟩, m, ho, hc, hdn, hd⟩, hlen⟩ := I.list hq
  have hc1 : cls = Value.type "list" := hc
  have hd1 : data = Data.seq its.toArray m := hd
  subst hc1 hd1
  have hl := rv.length
  have big : its.toArray.size * k.toNat ≤ 1000000 := by
    rw [List.size_toArray, ← hl]
    have := Nat.mul_le_mul hz (show k.toNat ≤ 1000 by omega)
    omega
  have line := sizeLine_eq
  have hfit : ¬ (!Builtin.List.listFitsIndex k) = true := by
    rw [fitsIndex_both (by omega) (by omega)]
    exact Bool.false_ne_true
  have hcap : ¬ its.toArray.size * k.toNat > (2 ^ 63 - 1) / 8 := by omega
  have hlong : ¬ Builtin.List.listTooLong (its.toArray.size * k.toNat) = true := by
    rw [notLongL (by omega)]
    exact Bool.false_ne_true
  have hnew : List.foldl (fun y1 y2 => y1 ++ y2) #[] (List.replicate (if its.toArray.isEmpty = true then 0 else k.toNat) its.toArray) = (List.replicate k.toNat its).flatten.toArray := by
    have f0 : ∀ j : Nat, List.foldl (fun y1 y2 => y1 ++ y2) #[] (List.replicate j its.toArray) = (List.replicate j its).flatten.toArray := fun j => by
      have e := foldl_rep its j []
      rw [List.nil_append] at e
      exact e
    rw [f0]
    cases its with
    | nil => simp
    | cons a r => rw [if_neg (by simp)]
  refine wpAny_binaryOp_repeat_ref (T := "list") (U := "int") (by decide) ⟨_, ho, rfl⟩ (fun z => typeIs_int z k tk) noFill_list_mul PySem.F.fills_int_mul PySem.F.slot_int_rmul repeat_list PySem.F.slot_int_index.lookup ?_
  refine call_meets PySem.F.slot_int_rmul (typeIs_int s k tk) PySem.F.entry_int_rmul (PySem.F.args_int_rmul_2 _ _) (times_back k tk l its.toArray m dd ss) ⟨ho, rfl, ⟨_, ho, rfl⟩, ?_⟩
  refine call_meets PySem.F.slot_list_mul ⟨_, ho, rfl⟩ PySem.F.entry_list_mul (PySem.F.args_list_mul_2 _ _) (times_list l its.toArray m dd ss k tk hfit hcap hlong) ⟨ho, ?_⟩
  rw [hnew]
  exact ⟨.ref _, _, I.lnew (t' := s.toks) (rv.rep k.toNat) (by rw [PyProof.Rows.lm_len_rep_flat, Nat.mul_comm, hl, ← List.size_toArray]; omega), rfl, q _ I.fresh⟩
theorem dpAll_rep {K : PySem.W.Frag} {F : Hp} {vs : List V} {xs : List PyData} (h : DpAll K F vs xs) : ∀ k : Nat, DpAll K F (List.replicate k vs).flatten (List.replicate k xs).flatten
  | 0 => .nil
  | k + 1 => by
    rw [List.replicate_succ, List.replicate_succ, List.flatten_cons, List.flatten_cons]
    exact dpAll_app h (dpAll_rep h k)
theorem o_rep : Op2 X .n .rep (rRepS X.K) := by
  intro F ρ cs H v1 v2 x1 x2 x Q ok r1 r2 h k
  simp only [primF] at h
  split at h
  · rename_i xs j e
    cases e
    split at h
    · rename_i hz
      cases h
      simp only [Bool.and_eq_true, decide_eq_true_eq] at hz
      obtain ⟨p, vs, rfl, hs, ha⟩ := r1.lst ok
      exact ⟨p, j, vs, rfl, r2.int, hs, hz.1.1, hz.1.2, by rw [dpAll_len ha]; exact hz.2, give_lst ok (dpAll_rep ha _) rfl k⟩
    · cases h
  · cases h
end
end R

namespace HT
open PySem PySem.Spec PyProof.Rows
section
variable {prog : Program} {w : World} {A : Around} {E : Value → Shared → Prop} {s : Shared}
theorem adjust_rev (n : Nat) : Builtin.Slice.sliceAdjust none none (-1) (n : Int) = ((n : Int) - 1, -1) := by
  unfold Builtin.Slice.sliceAdjust
  simp
theorem places_rev (n : Nat) : Builtin.Slice.slicePlaces ((n : Int) - 1) (-1) (-1) = n := by
  unfold Builtin.Slice.slicePlaces
  have h1 : ¬ ((-1 : Int) > 0) := by omega
  simp only [h1, if_false, Int.neg_neg, Int.ediv_one]
  split <;> omega
theorem sliceApplied_rev {sl : Addr} {t : Tok} {n : Nat} {Q : Int × Int × Nat → Shared → Prop} (hs : s.heap.IsSliceOf sl .none .none (.int (-1) t))
    (h : Q ((n : Int) - 1, -1, n) s) : wpAny (model prog w) A (Builtin.Slice.sliceApplied (.ref sl) (pure (n : Int))) Q E s := by
  obtain ⟨os, hos, hcs, hds⟩ := id hs
  unfold Builtin.Slice.sliceApplied Builtin.Slice.sliceFields
  refine wpAny_bind (wpAny_bind (wpAny_field hos hds (x := .none) rfl (wpAny_bind (wpAny_field hos hds (x := .none) rfl (wpAny_bind (wpAny_field hos hds (x := .int (-1) t) rfl (wpAny_pure ?_)))))))
  refine wpAny_bind (slicePart_int ?_)
  show wpAny _ _ (if ((-1 : Int) == 0) = true then _ else _) _ _ s
  rw [if_neg (by decide)]
  refine wpAny_bind (slicePart_none (wpAny_bind (slicePart_none (wpAny_bind (wpAny_pure ?_)))))
  show wpAny _ _ (match Builtin.Slice.sliceAdjust none none (-1) (n : Int) with | (lo, hi) => pure (lo, (-1 : Int), Builtin.Slice.slicePlaces lo hi (-1))) _ _ s
  rw [adjust_rev n]
  show wpAny _ _ (pure ((n : Int) - 1, (-1 : Int), Builtin.Slice.slicePlaces ((n : Int) - 1) (-1) (-1))) _ _ s
  rw [places_rev]
  exact wpAny_pure h
theorem fm_congr {α β : Type} {f g : α → Option β} : ∀ {xs : List α}, (∀ x ∈ xs, f x = g x) → xs.filterMap f = xs.filterMap g
  | [], _ => rfl
  | x :: xs, h => by
    have ih := fm_congr (xs := xs) fun y hy => h y (List.mem_cons_of_mem _ hy)
    simp only [List.filterMap_cons, h x List.mem_cons_self, ih]
theorem fm_all {β : Type} : ∀ M : List β, (List.range M.length).filterMap (fun m => M[m]?) = M
  | [] => rfl
  | x :: M => by
    rw [List.length_cons, List.range_succ_eq_map, List.filterMap_cons_some (f := fun m => (x :: M)[m]?) (b := x) rfl, List.filterMap_map]
    exact congrArg (x :: ·) (fm_all M)
theorem pick_rev (xs : Array Value) : ((List.range xs.size).filterMap fun (m : Nat) => xs[(((xs.size : Int) - 1) + (m : Int) * (-1)).toNat]?).toArray = xs.toList.reverse.toArray := by
  congr 1
  have h := fm_all xs.toList.reverse
  rw [List.length_reverse, Array.length_toList] at h
  rw [← h]
  refine fm_congr fun m hm => ?_
  rw [List.mem_range] at hm
  have e1 : (((xs.size : Int) - 1) + (m : Int) * (-1)).toNat = xs.size - 1 - m := by omega
  rw [e1, List.getElem?_reverse (by simpa using hm), Array.length_toList, Array.getElem?_toList]
theorem getItem_tuple_rev {t sl : Addr} {items : Array Value} {u : Tok} {Q : Value → Shared → Prop} (ht : IsTup s.heap t items) (hs : s.heap.IsSliceOf sl .none .none (.int (-1) u))
    (h : Q (.ref s.heap.objs.size) { s with heap := s.heap.push { cls := .type "tuple", data := .seq items.toList.reverse.toArray } })
    (hsz : items.size ≤ sizeLine) : wpAny (model prog w) A (getItem (.ref t) (.ref sl)) Q E s := by
  have htake : sizeOk (.seq items.toList.reverse.toArray) := by
    show items.toList.reverse.toArray.size ≤ sizeLine
    rw [List.size_toArray, List.length_reverse, Array.length_toList]
    exact hsz
  obtain ⟨os, hos, hcs, hds⟩ := id hs
  have hTs : s.TypeIs (.ref sl) "slice" := ⟨os, hos, hcs⟩
  unfold getItem
  try with_reducible refine wpAny_holding ?_
  first | refine wpAny_bind (wpAny_pure ?_) | skip
  refine wpAny_bind (wpAny_sequenceKey ht.typeIs (by decide) ?_)
  refine wpAny_bind (wpAny_callSpecial?_slot (name := Str.ofString "__getitem__") ht.typeIs PyProof.Rows.slot_tuple_getitem
    (wpAny_call_entry PyProof.Rows.slot_tuple_getitem ht.typeIs entry_tuple_getitem ?_ (args_tuple_getitem _ _)))
  show wpAny _ _ (Builtin.Tuple.tupleItemsOf (.ref t) >>= _) _ _ s
  refine wpAny_bind (tupleItemsOf_ ht ?_)
  refine wpAny_bind (wpAny_typeOf hTs ?_)
  rw [if_pos (by decide)]
  refine wpAny_bind (sliceApplied_rev hs ?_)
  have hno : ¬ ((((items.size : Int) - 1) == 0 && (-1 : Int) == 1 && items.size == items.size) = true) := by
    intro q
    rw [Bool.and_eq_true, Bool.and_eq_true] at q
    exact absurd q.1.2 (by decide)
  show wpAny _ _ (if (((items.size : Int) - 1) == 0 && (-1 : Int) == 1 && items.size == items.size) = true then _ else _) _ _ s
  rw [if_neg hno, pick_rev]
  first
    | exact wpAny_bind (m := Builtin.Tuple.tupleExact _) (wpAny_newObj_type (wpAny_pure ⟨_, rfl, wpAny_pure h⟩) htake)
    | exact wpAny_bind (m := Builtin.Tuple.tupleExact _) (wpAny_newObj_type (wpAny_bind (wpAny_pure (wpAny_pure ⟨_, rfl, wpAny_pure h⟩))) htake)
    | exact wpAny_bind (wpAny_bind (m := Builtin.Tuple.tupleExact _) (wpAny_newObj_type (wpAny_pure (wpAny_pure ⟨_, rfl, wpAny_pure h⟩)) htake))
    | exact wpAny_bind (wpAny_bind (m := Builtin.Tuple.tupleExact _) (wpAny_newObj_type (wpAny_pure ⟨_, rfl, wpAny_pure h⟩) htake))
end
end HT
namespace R
open PySem PySem.Spec PyProof.Rows L2
section
variable {X : Cx}
/-- xs[::-1] of a list or a tuple -/
def tRevA (K : PySem.W.Frag) (te : TE) : TE := fun σ H Q => te σ H fun x H1 => ∃ a xs, x = .ref a ∧ ((SqL K H1 a xs ∧ ∀ p, H1 p = none → Q (.ref p) (upd H1 p (.lst xs.reverse))) ∨ (SqT K H1 a xs ∧ ∀ p, H1 p = none → Q (.ref p) (upd H1 p (.tup xs.reverse))))
theorem pe_revA {e : Expr} {te : TE} {k : Nat} {p1 p2 p3 pos : Pos} (he : PE X e te) : PE X (.Subscript e (.Slice none none (some (.UnaryOp .USub (.Constant (.int 1) k p1) p2)) p3) pos) (tRevA X.K te) := by
  refine ⟨fun pins s σ H Q I h => ?_⟩
  refine Subscript_ (thn (he.run pins s σ H _ I h) fun v s1 ⟨x, H1, I1, r1, q1⟩ => ?_)
  obtain ⟨a, xs, ex, q⟩ := q1
  subst ex
  cases r1
  have hst : PE X (.UnaryOp .USub (.Constant (.int 1) k p1) p2) (tUn (rU fun i => .int (-i)) (tC (.int 1))) := pe_un un_neg pe_int
  refine wpAny_Slice (thn (po_none.run pins s1 σ H1 (fun o H2 => o = none ∧ H2 = H1) I1 ⟨rfl, rfl⟩) fun vl s2 ⟨l, H2, I2, pl, el, e2⟩ => ?_)
  subst el e2
  refine thn (po_none.run pins s2 σ H2 (fun o H3 => o = none ∧ H3 = H2) I2 ⟨rfl, rfl⟩) fun vu s3 ⟨u, H3, I3, pu, eu, e3⟩ => ?_
  subst eu e3
  refine thn ((po_some hst).run pins s3 σ H3 (fun o H4 => o = some (-1) ∧ H4 = H3) I3 ⟨1, rfl, -1, rfl, rfl, rfl⟩) fun vs s4 ⟨o, H4, I4, ps, eo, e4⟩ => ?_
  subst eo e4
  have I5 : Inv X pins σ H4 { s4 with heap := s4.heap.push { cls := .type "slice", data := .fields #[vl, vu, vs] } } := I4.kept (t' := s4.toks) fun b ob q => Heap.get?_push_of_some _ q
  show wpAny (model X.prog X.w) X.A (subscriptTail e (.Slice none none (some (.UnaryOp .USub (.Constant (.int 1) k p1) p2)) p3) (.ref a) (.ref s4.heap.objs.size)) (EP X pins σ Q) X.xe { s4 with heap := s4.heap.push { cls := .type "slice", data := .fields #[vl, vu, vs] } }
  rcases q with ⟨hx, q⟩ | ⟨hx, q⟩
  · obtain ⟨its, r, ht, hz⟩ := I5.list hx
    have hlen := r.length
    refine tail_any (ops := [.ref a, .ref s4.heap.objs.size]) ht.isList.typeIs (PySem.slot_list_getitem.lookup) ?_ (by with_unfolding_all rfl)
    refine wpAny_getItem_list_slice ht.isList (Heap.IsSliceOf.new _ vl vu vs) pl pu ps (by decide) ?_ (by rw [List.size_toArray]; omega)
    rw [PySem.W.krv_pick]
    refine ⟨.ref _, _, I5.laid (t' := s4.toks) (o := .lst xs.reverse) (fun b ob q => Heap.get?_push_of_some _ q) (Nat.le_refl _) ?_, rfl, q _ (I5.hok.fresh (Nat.le_refl _))⟩
    exact ⟨by rw [List.length_reverse]; exact hz, _, 0, r.reverse, Heap.get?_push_size _ rfl⟩
  · obtain ⟨its, r, ht, hz⟩ := I5.tuple hx
    have hlen := r.length
    cases pl
    cases pu
    cases ps with
    | int _ u =>
      refine tail_any (ops := [.ref a, .ref s4.heap.objs.size]) ht.typeIs (PyProof.Rows.slot_tuple_getitem.lookup) ?_ (by with_unfolding_all rfl)
      refine HT.getItem_tuple_rev ht (Heap.IsSliceOf.new _ .none .none (.int (-1) u)) ?_ (by rw [List.size_toArray]; omega)
      refine ⟨.ref _, _, I5.laid (t' := s4.toks) (o := .tup xs.reverse) (fun b ob q => Heap.get?_push_of_some _ q) (Nat.le_refl _) ?_, rfl, q _ (I5.hok.fresh (Nat.le_refl _))⟩
      exact ⟨by rw [List.length_reverse]; exact hz, _, r.reverse, IsTup.new _ _⟩
end
end R

namespace R
open PySem PySem.Spec PyProof.Rows L2
variable [W0]
section
variable {X : Cx} {K : PySem.W.Frag} {F : Hp}
theorem nkD_of {k : PyData} {n : NestedKey} (h : nkD k = some n) : ∃ z i, k = .tuple [.str z, .int i] ∧ n = .tup [.text z, .num i] := by
  unfold nkD at h
  split at h
  · cases h
    exact ⟨_, _, rfl, rfl⟩
  · cases h
theorem tr_any : ∀ {xs : List (NestedKey × Addr × Value)} {kvs : List (PyData × PyData)} {n : NestedKey}, TR K F xs kvs → (atKey xs n).isSome = kvs.any fun q => decide (nkD q.1 = some n)
  | [], _, _, r => by cases r; rfl
  | x :: xs, _, n, r => by
    cases r with
    | cons a t =>
      have ih := tr_any (n := n) t
      rw [List.any_cons, ← ih, a.1.1]
      unfold atKey
      rw [List.find?_cons]
      by_cases h : x.1 = n
      · simp [h]
      · simp [h]
theorem tr_put {xs : List (NestedKey × Addr × Value)} {kvs : List (PyData × PyData)} {n : NestedKey} {b : Addr} {u : Value} {k d : PyData} {v : V} (r : TR K F xs kvs) (hk : nkD k = some n) (hb : Dp K F (.ref b) k) (hv : RelV v u) (hd : Dp K F v d) : TR K F (storedH xs n b u) (putT kvs k d) := by
  have ha := tr_any (n := n) r
  unfold storedH putT
  rw [hk, ← ha]
  by_cases h : (atKey xs n).isSome = true
  · rw [if_pos h, if_pos h]
    clear ha h
    induction r with
    | nil => exact .nil
    | @cons x q xs kvs a t ih =>
      refine .cons ?_ ih
      unfold putAt
      by_cases e : x.1 = n
      · have e2 : nkD q.1 = some n := by rw [a.1.1, e]
        simp only [if_pos e, if_pos e2]
        exact ⟨⟨a.1.1, a.1.2⟩, v, hv, hd⟩
      · have e2 : ¬ nkD q.1 = some n := by rw [a.1.1]; exact fun z => e (Option.some.inj z)
        simp only [if_neg e, if_neg e2]
        exact a
  · rw [if_neg h, if_neg h]
    clear ha h
    induction r with
    | nil => exact .cons ⟨⟨hk, hb⟩, v, hv, hd⟩ .nil
    | cons a t ih => exact .cons a ih
theorem tr_merge : ∀ {ps : List (NestedKey × Addr × Value)} {dps : List (PyData × PyData)} {xs : List (NestedKey × Addr × Value)} {kvs : List (PyData × PyData)}, TR K F ps dps → TR K F xs kvs → TR K F (storedAllH xs ps) (mergeT kvs dps)
  | [], _, _, _, r, q => by cases r; exact q
  | p :: ps, _, _, _, r, q => by
    cases r with
    | @cons _ dp _ dps a t =>
      obtain ⟨⟨a1, a2⟩, v, a3, a4⟩ := a
      show TR K F (storedAllH (storedH _ p.1 p.2.1 p.2.2) ps) (mergeT (putT _ dp.1 dp.2) dps)
      exact tr_merge (ps := ps) (dps := dps) t (tr_put q a1 a2 a3 a4)
/-- a key that is read is of the kind -/
theorem nk_is {pins : List (Addr × Obj)} {σ : L2.St} {H : Hp} {s : Shared} (I : Inv X pins σ H s) {b : Addr} {k : PyData} {n : NestedKey} (hd : Dp X.K H (.ref b) k) (hk : nkD k = some n) : (nestedKind X.prog X.w).is s.heap n b := by
  obtain ⟨z, i, rfl, rfl⟩ := nkD_of hk
  cases hd with
  | tup hs ha =>
    obtain ⟨its, rv, pl, _⟩ := I.tuple hs
    cases ha with
    | cons d1 t =>
      cases t with
      | cons d2 t =>
        cases t
        cases d1
        cases d2
        obtain ⟨u1, u2, rfl, r1, r2⟩ := vals2 rv
        obtain ⟨t1, rfl⟩ := r1
        obtain ⟨t2, rfl⟩ := r2
        obtain ⟨o, ho, hc, m, hdat⟩ := pl
        refine ⟨.tup ho hc hdat (.cons (.text z t1) (.cons (.int i t2) .nil)), ?_⟩
        simp [NestedKey.depth, NestedKey.depthAll]
/-- the pairs of a list -/
theorem prs_at {pins : List (Addr × Obj)} {σ : L2.St} {H : Hp} {s : Shared} (I : Inv X pins σ H s) (hF : Same F H) : ∀ {xs : List PyData} {vs : List V} {its : List Value} {dps : List (PyData × PyData)}, DpAll X.K F vs xs → Vals vs its → prsT xs = some dps →
    ∃ rs : List (Addr × NestedKey × Addr × Value), its = rs.map (fun r => Value.ref r.1) ∧ TR X.K F (rs.map (·.2)) dps ∧ ∀ r ∈ rs, PairAt s.heap r.1 (.ref r.2.2.1) r.2.2.2 ∧ (nestedKind X.prog X.w).is s.heap r.2.1 r.2.2.1
  | [], _, _, _, d, v, h => by
    cases d
    cases v
    cases h
    exact ⟨[], rfl, .nil, fun r hr => by cases hr⟩
  | x :: xs, _, _, _, d, v, h => by
    cases d with
    | @cons vx _ vxs _ d1 d2 =>
      cases v with
      | @cons _ ux _ uxs v1 v2 =>
        simp only [prsT] at h
        obtain ⟨p, hp, h⟩ := Option.bind_eq_some_iff.mp h
        obtain ⟨dps', h2, rfl⟩ := Option.map_eq_some_iff.mp h
        obtain ⟨rs, e1, e2, e3⟩ := prs_at I hF d2 v2 h2
        unfold prT at hp
        split at hp
        · rename_i k d
          obtain ⟨n, hn, rfl⟩ := Option.map_eq_some_iff.mp hp
          cases d1 with
          | @tup a ws _ hs ha =>
            cases v1
            obtain ⟨its2, rv2, pl, _⟩ := I.tuple (sqT_mono hF hs)
            cases ha with
            | cons k1 t =>
              cases t with
              | cons k2 t =>
                cases t
                obtain ⟨z, i, rfl, _⟩ := nkD_of hn
                cases k1 with
                | @tup b ws2 _ hs2 ha2 =>
                  obtain ⟨u1, u2, rfl, r1, r2⟩ := vals2 rv2
                  cases r1
                  have hk : Dp X.K F (.ref b) (.tuple [.str z, .int i]) := .tup hs2 ha2
                  refine ⟨(a, n, b, u2) :: rs, by rw [List.map_cons, e1], .cons ⟨⟨hn, hk⟩, _, r2, k2⟩ e2, fun r hr => ?_⟩
                  rcases List.mem_cons.mp hr with rfl | hr
                  · exact ⟨.inl pl, nk_is I (dp_mono hF _ _ hk) hn⟩
                  · exact e3 r hr
        · cases hp
theorem tr_len : ∀ {xs : List (NestedKey × Addr × Value)} {kvs : List (PyData × PyData)}, TR K F xs kvs → xs.length = kvs.length
  | _, _, .nil => rfl
  | _, _, .cons _ t => by rw [List.length_cons, List.length_cons, tr_len t]
theorem tr_at : ∀ {xs : List (NestedKey × Addr × Value)} {kvs : List (PyData × PyData)} {i : Nat} {x : NestedKey × Addr × Value}, TR K F xs kvs → xs[i]? = some x → ∃ q, kvs[i]? = some q ∧ (nkD q.1 = some x.1 ∧ Dp K F (.ref x.2.1) q.1) ∧ ∃ v, RelV v x.2.2 ∧ Dp K F v q.2
  | _, _, _, _, .nil, e => by simp at e
  | _, _, 0, _, .cons a t, e => by simp at e; subst e; exact ⟨_, rfl, a⟩
  | _, _, i + 1, _, .cons a t, e => by
    obtain ⟨q, h1, h2⟩ := tr_at (i := i) t (by simpa using e)
    exact ⟨q, by simpa using h1, h2⟩
theorem storedAllH_len {Q : Type} [DecidableEq Q] : ∀ (ps xs : List (Q × Addr × Value)), (storedAllH xs ps).length ≤ xs.length + ps.length
  | [], xs => by show xs.length ≤ _; simp
  | p :: ps, xs => by
    have h1 := storedAllH_len ps (storedH xs p.1 p.2.1 p.2.2)
    have h2 := storedH_length xs p.1 p.2.1 p.2.2
    show (storedAllH (storedH xs p.1 p.2.1 p.2.2) ps).length ≤ _
    rw [List.length_cons]
    omega
def rDictT (K : PySem.W.Frag) : List V → Hp → VK → Prop := fun ws H Q => ∃ (p : Addr) (xs : List PyData) (F : Hp) (kvs : List (PyData × PyData)), ws = [.ref p] ∧ Same F H ∧ (∃ vs, (SqL K H p vs ∨ ∃ o, H p = some (.frz o (.tup vs)) ∧ o.dict = none) ∧ DpAll K F vs xs) ∧ prsT xs = some kvs ∧ lenOk xs.length = true ∧
  ∀ d zs, H d = none → TR K F zs (mergeT [] kvs) → Q (.ref d) (upd H d (.ext (TPhi W0.w d zs)))
theorem call_dictT (hc : X.calm = true) (hw : X.w = W0.w) (hu : X.A.units + 65 < cLine) : CallR X (.type "dict") (rDictT X.K) := by
  intro pins s σ H ws us Q I r h
  obtain ⟨p, xs, F, kvs, rfl, hF, ⟨vs, hq, ha⟩, hp, hl, q⟩ := h
  obtain ⟨u, rfl, rx⟩ := vals1 r
  cases rx
  obtain ⟨T, its, r', hpl, mkP⟩ : ∃ (T : String) (its : List Value), Vals vs its ∧ PlainSeq T s.heap p its.toArray ∧ (∀ (Ts : Nat → Addr) (ps : List (Value × Value)), PairArg X.prog X.w T p (p :: (List.range ps.length).map Ts) [] ps.length (PairRel ps) (fun h => PlainSeq T h p its.toArray ∧ PairItems h its.toArray Ts ps)) := by
    rcases hq with hq | ⟨o, hf, hd⟩
    · obtain ⟨its, r', ⟨o, n, ho, hcl, hdn, hdt⟩, hz⟩ := I.list hq
      exact ⟨"list", its, r', ⟨o, n, ho, hcl, hdn, hdt⟩, fun Ts ps => PairArg.list p _ Ts ps⟩
    · obtain ⟨ho, hz, its, r', o2, ho2, hcl, n, hdt⟩ : s.heap.get? p = some o ∧ vs.length ≤ sizeLine ∧ ∃ its : List Value, Vals vs its ∧ IsTup s.heap p its.toArray := I.hok p _ hf
      rw [ho] at ho2
      cases ho2
      exact ⟨"tuple", its, r', ⟨o, n, ho, hcl, hd, hdt⟩, fun Ts ps => PairArg.tuple p _ Ts ps⟩
  obtain ⟨rs, rfl, e2, e3⟩ := prs_at I hF ha r' hp
  have hvl := r'.length
  have hal := dpAll_len ha
  have hzl := of_decide_eq_true hl
  have hL : rs.length = xs.length := by rw [List.length_map] at hvl; omega
  let Ts : Nat → Addr := fun j => (rs[j]?.map (·.1)).getD 0
  have hTs : ∀ j r, rs[j]? = some r → Ts j = r.1 := fun j r e => by show (rs[j]?.map (·.1)).getD 0 = r.1; rw [e]; rfl
  have P := mkP Ts (rs.map fun r => (Value.ref r.2.2.1, r.2.2.2))
  refine call_dict_pairsH (knd := nestedKind X.prog X.w) (ps := rs.map (·.2)) P (I.ok.hd hc) (by show (X.A.in1.in1).units + 8 < cLine; simp only [Around.in1_units]; omega) ⟨hpl, ?_, ?_⟩ ⟨by simp, ?_⟩ ?_ (by simp; omega) ?_
  · simp
  · intro j k v hj
    rw [List.getElem?_map] at hj
    obtain ⟨r, hr, e⟩ := Option.map_eq_some_iff.mp hj
    cases e
    refine ⟨?_, ?_⟩
    · rw [← Array.getElem?_toList]
      simp [List.getElem?_map, hr, hTs j r hr]
    · rw [hTs j r hr]
      exact (e3 r (List.mem_of_getElem? hr)).1
  · intro i key v hrel
    have hrel : (rs.map fun r => (Value.ref r.2.2.1, r.2.2.2))[i]? = some (key, v) := hrel
    rw [List.getElem?_map] at hrel
    obtain ⟨r, hr, e⟩ := Option.map_eq_some_iff.mp hrel
    cases e
    exact ⟨r.2.1, r.2.2.1, by rw [List.getElem?_map, hr]; rfl, rfl⟩
  · intro h' hk x hx
    obtain ⟨r, hr, rfl⟩ := List.mem_map.mp hx
    exact nestedKind_stays.stays (fun b o _ _ e _ => hk b o (Nat.ne_of_lt (Heap.lt_size e)) (fun q => nomatch q) e) (e3 r hr).2
  · intro h' tk hd' hk
    have hbig : (s.heap.objs.size == sysModules) = false := beq_eq_false_iff_ne.mpr (Nat.ne_of_gt I.big)
    obtain ⟨o', es, ep, ho', hex, hdat, hes, _, hnd⟩ := hd'
    have hle : (storedAllH [] (rs.map (·.2))).length ≤ sizeLine := by
      refine Nat.le_trans (storedAllH_len _ _) ?_
      rw [List.length_nil, List.length_map]
      omega
    have phi : TPhi W0.w s.heap.objs.size (storedAllH [] (rs.map (·.2))) h' := by
      refine ⟨⟨hbig, hle⟩, o', es, ep, ho', hex, hdat, ?_, hnd⟩
      rw [hes, ← hw]
      rfl
    refine ⟨.ref s.heap.objs.size, _, I.laid (t' := tk) (o := .ext (TPhi W0.w s.heap.objs.size (storedAllH [] (rs.map (·.2))))) (fun b o e => hk b o (fun q => nomatch q) e) (Nat.le_refl _) ⟨phi, ⟨o', ho'⟩, ?_⟩, rfl, q _ _ (I.hok.fresh (Nat.le_refl _)) (tr_merge e2 .nil)⟩
    intro h1 h2 p1 hsame
    obtain ⟨p0, o, es, ep, ho, r⟩ := p1
    exact ⟨p0, o, es, ep, hsame o ho, r⟩
/-! ### d[k] -/
/-- what the dict at a has at the key y -/
def TGet (K : PySem.W.Frag) (H : Hp) (a : Addr) (y : V) (v : V) : Prop := ∃ (xs : List (NestedKey × Addr × Value)) (b : Addr) (k : PyData) (n : NestedKey) (p : Addr × Value), H a = some (.ext (TPhi W0.w a xs)) ∧ y = .ref b ∧ Dp K H (.ref b) k ∧ nkD k = some n ∧ atKey xs n = some p ∧ RelV v p.2 ∧ (∀ x ∈ xs, ∃ q, nkD q = some x.1 ∧ Dp K H (.ref x.2.1) q)
theorem t_dictOf {pins : List (Addr × Obj)} {σ : L2.St} {H : Hp} {s : Shared} (I : Inv X pins σ H s) (hw : X.w = W0.w) {a : Addr} {xs : List (NestedKey × Addr × Value)} (h : H a = some (.ext (TPhi W0.w a xs))) (hk : ∀ x ∈ xs, ∃ q, nkD q = some x.1 ∧ Dp X.K H (.ref x.2.1) q) :
    s.heap.DictOfH (nestedKind X.prog X.w) a xs ∧ (a == sysModules) = false ∧ xs.length ≤ sizeLine := by
  obtain ⟨⟨⟨h1, h2⟩, o, es, ep, ho, hex, hdat, hes, hnd⟩, _⟩ : TPhi W0.w a xs s.heap ∧ _ := I.hok a _ h
  refine ⟨⟨o, es, ep, ho, hex, hdat, ?_, fun x hx => ?_, hnd⟩, h1, h2⟩
  · rw [hes, ← hw]
    rfl
  · obtain ⟨q, q1, q2⟩ := hk x hx
    exact nk_is I q2 q1
def tTGet (K : PySem.W.Frag) (td ty : TE) : TE := fun σ H Q => td σ H fun x H1 => ty σ H1 fun y H2 => ∃ a v, x = .ref a ∧ TGet K H2 a y v ∧ Q v H2
theorem pe_tget {o i : Expr} {pos : Pos} {td ty : TE} (hw : X.w = W0.w) (hu : X.A.units + 65 < cLine) (ho : PE X o td) (hi : PE X i ty) (hs : NoSl i) : PE X (.Subscript o i pos) (tTGet X.K td ty) := by
  refine ⟨fun pins s σ H Q I h => ?_⟩
  refine subD_of PySem.F.slot_dict_getitem.lookup hs (thn (ho.run pins s σ H _ I h) fun u s1 ⟨x, H1, I1, rx, q1⟩ => thn (hi.run pins s1 σ H1 _ I1 q1) fun iv s2 ⟨y, H2, I2, ry, a, v, ex, g, q2⟩ => ?_)
  subst ex
  obtain rfl : u = Value.ref a := rx
  obtain ⟨xs, b, k, n, p, hH, rfl, hk, hn, hp, rv, hks⟩ := g
  cases ry
  obtain ⟨hd, hm, hl⟩ := t_dictOf I2 hw hH hks
  refine ⟨hd.typeIs, wpAny_getItem_heap (knd := nestedKind X.prog X.w) (by show (X.A.in1).units + 8 < cLine; simp only [Around.in1_units]; omega) (nk_is I2 hk hn) hd hp ⟨v, H2, I2.tok _, rv, q2⟩⟩
end
end R

namespace R
open PySem PySem.Spec PySem.W PyProof.Rows L2
variable [W0]
section
variable {X : Cx} {K : PySem.W.Frag} {F : Hp}
theorem tr_keys : ∀ {zs : List (NestedKey × Addr × Value)} {kvs : List (PyData × PyData)}, TR K F zs kvs → DpAll K F (zs.map fun x => V.ref x.2.1) (kvs.map (·.1))
  | _, _, .nil => .nil
  | _, _, .cons a t => .cons a.1.2 (tr_keys t)
theorem refs_vals : ∀ zs : List (NestedKey × Addr × Value), Vals (zs.map fun x => V.ref x.2.1) (zs.map fun x => Value.ref x.2.1)
  | [] => .nil
  | z :: zs => .cons rfl (refs_vals zs)
def rSortT (K : PySem.W.Frag) : List V → Hp → VK → Prop := fun ws H Q => ∃ (a : Addr) (zs : List (NestedKey × Addr × Value)) (F : Hp) (kvs : List (PyData × PyData)), ws = [.ref a] ∧ Same F H ∧ H a = some (.ext (TPhi W0.w a zs)) ∧ TR K F zs kvs ∧ sortOk (kvs.map (·.1)) = true ∧
  ∀ l us, H l = none → DpAll K F us (sortD (kvs.map (·.1))) → Q (.ref l) (upd H l (.lst us))
theorem call_sortT (hc : X.calm = true) (hu : X.A.units + 65 < cLine) : CallR X (.builtin "sorted") (rSortT X.K) := by
  intro pins s σ H ws us Q I r h
  obtain ⟨a, zs, F, kvs, rfl, hF, hH, hr, hs, q⟩ := h
  obtain ⟨u, rfl, rx⟩ := vals1 r
  cases rx
  obtain ⟨z1, z2, z3, z4⟩ := sortOk_of hs
  obtain ⟨⟨⟨h1, h2⟩, o, es, ep, ho, hex, hdat, hes, hnd⟩, _⟩ : TPhi W0.w a zs s.heap ∧ _ := I.hok a _ hH
  have raw : s.heap.DictRaw a es ep := ⟨o, ho, hex, hdat⟩
  have hsz : es.size = zs.length := by rw [← Array.length_toList, hes, List.length_map]
  refine Calls.call_function_entry kind_sorted plain_sorted entry_sorted (args_sorted1 _) ?_
  unfold Builtin.«sorted»
  refine wpAny_bind (m := checkCount "sorted" 1 1 _) (wpAny_pure ?_)
  refine wpAny_bind (PySem.W.kdu_collect (A := X.A.in1) (KdlSrc.rawDict h1) (I.ok.hd hc) raw (by rw [hsz]; exact h2) fun h' tk acc hk hacc => ?_)
  have hacc' : acc.toList = zs.map fun x => Value.ref x.2.1 := by
    apply List.ext_getElem?
    intro i
    by_cases hi : i < es.size
    · have hi2 : i < acc.toList.length := by rw [Array.length_toList, hacc.1]; exact hi
      obtain ⟨_, e⟩ := hacc.2 i _ (by rw [← Array.getElem?_toList]; exact List.getElem?_eq_getElem hi2)
      rw [List.getElem?_eq_getElem hi2, e, List.getElem?_map]
      have e2 : es.toList[i]? = some es[i] := by rw [Array.getElem?_toList]; exact Array.getElem?_eq_getElem hi
      rw [hes, List.getElem?_map] at e2
      obtain ⟨x, hx, e3⟩ := Option.map_eq_some_iff.mp e2
      rw [hx, ← e3]
      rfl
    · have hi2 : ¬ i < acc.toList.length := by rw [Array.length_toList, hacc.1]; exact hi
      rw [List.getElem?_eq_none (by omega), List.getElem?_eq_none (by rw [List.length_map, ← hsz]; omega)]
  have I1 : Inv X pins σ H { s with heap := h', toks := tk } := I.kept hk
  obtain ⟨bs, e1, e2, e3⟩ := each_pairs (tr_keys hr) (refs_vals zs)
  rw [← hacc'] at e3
  have hbl : bs.length = kvs.length := by
    have e := congrArg List.length e2
    rw [List.length_map, List.length_map] at e
    exact e
  have hal : acc.toList.length = bs.length := e3.length
  have hlen : acc.toList.length ≤ sizeLine := by
    rw [hal, hbl]
    rw [List.length_map] at z1
    exact z1
  refine wpAny_bind (wpAny_newList ?_ hlen)
  have hoL : (h'.push (seqObj "list" acc.toList.toArray 0)).get? h'.objs.size = some (seqObj "list" acc.toList.toArray 0) := Heap.get?_push_size _ rfl
  show wpAny _ _ _ _ _ { s with heap := h'.push (seqObj "list" acc.toList.toArray 0), toks := tk }
  have kp : ∀ b o, h'.get? b = some o → (sortingHeap (h'.push (seqObj "list" acc.toList.toArray 0)) h'.objs.size acc.toList).get? b = some o := fun b o e => sortingHeap_old (Nat.ne_of_lt (Heap.lt_size e)) (Heap.get?_push_of_some _ e)
  have er : EachIs (fun v (b : V × PyData) => ∃ as, Reads (sortingHeap (h'.push (seqObj "list" acc.toList.toArray 0)) h'.objs.size acc.toList) v b.2 as) acc.toList bs := e3.mono fun v b ⟨g1, g2⟩ => by
    obtain ⟨as, rd⟩ := Dp.reads I1 b.2 b.1 v (dp_mono hF _ _ g2) g1
    exact ⟨as, PyProof.Rows.Reads.keeps kp rd⟩
  refine wpAny_bind (wpAny_holding (wpAny_call_entry slot_list_sort ⟨_, hoL, rfl⟩ entry_list_sort
    (list_sort_vals (κ := dataKind (sortingHeap (h'.push (seqObj "list" acc.toList.toArray 0)) h'.objs.size acc.toList) (bs.map fun b => b.2)) (s := { s with heap := h'.push (seqObj "list" acc.toList.toArray 0), toks := tk }) hoL
      (SortsAt.data (s := { s with heap := sortingHeap (h'.push (seqObj "list" acc.toList.toArray 0)) h'.objs.size acc.toList, toks := tk }) (each_map (R := fun v d => ∃ as, Reads (sortingHeap (h'.push (seqObj "list" acc.toList.toArray 0)) h'.objs.size acc.toList) v d as) (fun b : V × PyData => b.2) er) (by rw [e2]; exact z2) (by rw [e2]; exact z3) (bound_map fun b hb => ?_)) hlen ⟨_, rfl, ?_⟩)
    (args_list_sort _)))
  · have := z4 b.2 (by rw [← e2]; exact List.mem_map.mpr ⟨b, hb, rfl⟩)
    simp only [Around.in1_units] at *
    omega
  · have eo := sortVals_data false e3 er (by rw [e2]; exact z2)
    obtain ⟨g1, g2⟩ := pairs_each eo
    have em : (bs.mergeSort (PySem.W.dataLe false fun b : V × PyData => b.2)).map (·.2) = sortD (kvs.map (·.1)) := by
      unfold sortD
      rw [← e2]
      exact List.map_mergeSort fun _ _ _ _ => rfl
    rw [em] at g2
    obtain ⟨c, hc⟩ := sortedHeap_at (h := h'.push (seqObj "list" acc.toList.toArray 0)) (vs := acc.toList) (out := (sortVals (dataKind (sortingHeap (h'.push (seqObj "list" acc.toList.toArray 0)) h'.objs.size acc.toList) (bs.map fun b => b.2)) false acc.toList acc.toList).toArray) hoL
    have hl2 : ((bs.mergeSort (PySem.W.dataLe false fun b : V × PyData => b.2)).map (·.1)).length ≤ sizeLine := by rw [List.length_map, List.length_mergeSort, ← hal]; exact hlen
    refine wpAny_pure ⟨_, rfl, .ref h'.objs.size, _, I1.laid (t' := tk) (fun b u e => ?_) (Nat.le_refl _) (show ObjOk X.prog X.w _ _ _ (.lst _) from ⟨hl2, _, c, g1, hc⟩), rfl, q _ _ (I1.hok.fresh (Nat.le_refl _)) g2⟩
    have hb : b < h'.objs.size := Heap.lt_size e
    rw [PyProof.Rows.sortedHeap_old (Nat.ne_of_lt hb) (by rw [size_push']; exact Nat.lt_succ_of_lt hb)]
    exact Heap.get?_push_of_some _ e
/-! ### the interpreter's dicts -/
theorem tr_look {K : PySem.W.Frag} {F : Hp} {k v : PyData} {n : NestedKey} (hk : nkD k = some n) : ∀ {xs : List (NestedKey × Addr × Value)} {kvs : List (PyData × PyData)}, TR K F xs kvs → lookT kvs k = some v → ∃ p u, atKey xs n = some p ∧ RelV u p.2 ∧ Dp K F u v
  | _, _, .nil, h => by cases h
  | x :: xs, q :: kvs, .cons a t, h => by
    unfold lookT at h
    unfold atKey
    by_cases e : nkD q.1 = nkD k
    · rw [if_pos e] at h
      cases h
      obtain ⟨u, r1, r2⟩ := a.2
      have e2 : x.1 = n := Option.some.inj ((a.1.1.symm.trans e).trans hk)
      exact ⟨x.2, u, by rw [List.find?_cons_of_pos (by simpa using e2)]; rfl, r1, r2⟩
    · rw [if_neg e] at h
      obtain ⟨p, u, h1, h2⟩ := tr_look hk t h
      have e2 : ¬ x.1 = n := fun z => e (by rw [a.1.1, hk, z])
      refine ⟨p, u, ?_, h2⟩
      rw [List.find?_cons_of_neg (by simpa using e2)]
      exact h1
theorem look_any : ∀ {kvs : List (PyData × PyData)} {k : PyData}, (lookT kvs k).isSome = kvs.any fun q => decide (nkD q.1 = nkD k)
  | [], _ => rfl
  | q :: kvs, k => by
    unfold lookT
    rw [List.any_cons]
    by_cases e : nkD q.1 = nkD k
    · rw [if_pos e, decide_eq_true e]; rfl
    · rw [if_neg e, decide_eq_false e, look_any]; rfl
theorem tr_val {K : PySem.W.Frag} {F : Hp} {n : NestedKey} {p : Addr × Value} : ∀ {xs : List (NestedKey × Addr × Value)} {kvs : List (PyData × PyData)}, TR K F xs kvs → atKey xs n = some p → ∃ w, RelV w p.2
  | _, _, .nil, h => by cases h
  | x :: xs, q :: kvs, .cons a t, h => by
    unfold atKey at h
    by_cases e : x.1 = n
    · rw [List.find?_cons_of_pos (by simpa using e)] at h
      cases h
      obtain ⟨w, h1, _⟩ := a.2
      exact ⟨w, h1⟩
    · rw [List.find?_cons_of_neg (by simpa using e)] at h
      exact tr_val t h
theorem tr_look_key {K : PySem.W.Frag} {F : Hp} {k v : PyData} : ∀ {xs : List (NestedKey × Addr × Value)} {kvs : List (PyData × PyData)}, TR K F xs kvs → lookT kvs k = some v → ∃ n, nkD k = some n
  | _, _, .nil, h => by cases h
  | x :: xs, q :: kvs, .cons a t, h => by
    unfold lookT at h
    by_cases e : nkD q.1 = nkD k
    · exact ⟨_, e.symm.trans a.1.1⟩
    · rw [if_neg e] at h
      exact tr_look_key t h
theorem tr_all {K : PySem.W.Frag} {F H : Hp} (hF : Same F H) : ∀ {xs : List (NestedKey × Addr × Value)} {kvs : List (PyData × PyData)}, TR K F xs kvs → ∀ x ∈ xs, ∃ q, nkD q = some x.1 ∧ Dp K H (.ref x.2.1) q
  | _, _, .nil, _, h => by cases h
  | _, _, .cons a t, x, h => by
    rcases List.mem_cons.mp h with rfl | h
    · exact ⟨_, a.1.1, dp_mono hF _ _ a.1.2⟩
    · exact tr_all hF t x h
/-- is y in the dict -/
def rNinT (K : PySem.W.Frag) : R2 := fun x y H Q => ∃ (a : Addr) (zs : List (NestedKey × Addr × Value)) (b : Addr) (k : PyData) (n : NestedKey), y = .ref a ∧ H a = some (.ext (TPhi W0.w a zs)) ∧ x = .ref b ∧ Dp K H (.ref b) k ∧ nkD k = some n ∧ (∀ z ∈ zs, ∃ q, nkD q = some z.1 ∧ Dp K H (.ref z.2.1) q) ∧ Q (.bl (!(atKey zs n).isSome)) H
theorem op_ninT (hw : X.w = W0.w) (hu : X.A.units + 65 < cLine) : OpR X (compareOp .NotIn) (rNinT X.K) := by
  intro pins s σ H x y v u Q I rx ry h
  obtain ⟨a, zs, b, k, n, rfl, hH, rfl, hk, hn, hks, q⟩ := h
  cases rx
  cases ry
  obtain ⟨hd, hm, hl⟩ := t_dictOf I hw hH hks
  exact wpAny_notIn_heap (knd := nestedKind X.prog X.w) (by show (X.A.in1).units + 8 < cLine; simp only [Around.in1_units]; omega) (nk_is I hk hn) hm hd ⟨.bl _, H, I.tok _, rfl, q⟩
theorem o_ninT : Op2 X .m .ninT (rNinT X.K) := by
  intro F ρ cs H v1 v2 x1 x2 x Q ok r1 r2 h k
  simp only [primF] at h
  split at h
  · rename_i y kvs e
    cases e
    split at h
    · rename_i hs
      cases h
      obtain ⟨n, hn⟩ := Option.isSome_iff_exists.mp hs
      obtain ⟨a, zs, rfl, hH, tr⟩ := r2.tdict ok
      obtain ⟨z, i, rfl, _⟩ := nkD_of hn
      have hd := r1.dp ok
      obtain ⟨b, ws, rfl, _⟩ := r1.tup ok
      refine ⟨a, zs, b, _, n, rfl, hH, rfl, hd, hn, tr_all ok.sub tr, ?_⟩
      have e : (atKey zs n).isSome = (lookT kvs (.tuple [.str z, .int i])).isSome := by rw [look_any, tr_any tr, hn]
      rw [e]
      exact give_bl ok (by decide) k
    · cases h
  · cases h
theorem o_dictT : OpA X .n .dictT (rDictT X.K) := by
  intro F ρ cs H vs xs x Q ok r h k
  simp only [primF] at h
  have go : ∀ {v : V} {xs : List PyData} {p : Addr} {ws : List V}, v = .ref p → (SqL X.K H p ws ∨ ∃ o, H p = some (.frz o (.tup ws)) ∧ o.dict = none) → DpAll X.K F ws xs → dictD xs = .ok x → rDictT X.K [v] H Q := fun {v xs p ws} ev hs ha h => by
    subst ev
    unfold dictD at h
    split at h
    · rename_i ps hp
      split at h
      · rename_i hl
        cases h
        refine ⟨p, _, F, ps, rfl, ok.sub, ⟨ws, hs, ha⟩, hp, hl, fun d zs hd tr => ?_⟩
        refine k _ _ _ (Fwd.own ok _ hd) ?_
        exact ⟨d, zs, rfl, upd_same, tr, ok.sub.free hd, fun z => ok.at z hd, hd⟩
      · cases h
    · cases h
  split at h
  · obtain ⟨v, rfl, r1⟩ := relXs1 r
    obtain ⟨p, ws, ev, hs, ha⟩ := r1.lst ok
    exact go ev (.inl hs) ha h
  · obtain ⟨v, rfl, r1⟩ := relXs1 r
    rcases r1 with ⟨a, o, vs, ev, hF, hd, ha⟩ | r1
    · exact go ev (.inr ⟨o, ok.sub _ _ hF, hd⟩) ha h
    · exact r1.elim
  · cases h
theorem o_sortT : OpA X .n .sortT (rSortT X.K) := by
  intro F ρ cs H vs xs x Q ok r h k
  simp only [primF] at h
  split at h
  · split at h
    · rename_i hs
      cases h
      obtain ⟨v, rfl, r1⟩ := relXs1 r
      obtain ⟨a, zs, rfl, hH, tr⟩ := r1.tdict ok
      exact ⟨a, zs, F, _, rfl, ok.sub, hH, tr, hs, fun l us hl hz => give_lst ok hz rfl k l hl⟩
    · cases h
  · cases h
/-! ### tuple(xs), kept with its object -/
def rTupP (K : PySem.W.Frag) : List V → Hp → VK → Prop := fun ws H Q => ∃ p ys, ws = [.ref p] ∧ SqL K H p ys ∧ ∀ l o, H l = none → o.dict = none → Q (.ref l) (upd H l (.frz o (.tup ys)))
theorem call_tupP : CallR X (.type "tuple") (rTupP X.K) := by
  intro pins s σ H xs us Q I r h
  obtain ⟨p, ys, rfl, hq, q⟩ := h
  obtain ⟨u, rfl, rx⟩ := vals1 r
  cases rx
  obtain ⟨its, r', pl, hz⟩ := I.list hq
  have hlen := r'.length
  refine call_tuple_list pl.isList (fun h' kp => ?_) (by simp only [List.size_toArray] <;> omega)
  have I1 : Inv X pins σ H { s with heap := h' } := I.kept (t' := s.toks) kp
  have I2 : Inv X pins σ (upd H h'.objs.size (.frz { cls := .type "tuple", data := .seq its.toArray } (.tup ys))) { s with heap := h'.push { cls := .type "tuple", data := .seq its.toArray } } :=
    I1.laid (t' := s.toks) (fun b o e => Heap.get?_push_of_some _ e) (Nat.le_refl _) ⟨Heap.get?_push_size _ rfl, show ObjOk X.prog X.w _ _ _ (.tup ys) from ⟨hz, its, r', IsTup.new _ _⟩⟩
  exact ⟨.ref h'.objs.size, _, I2, rfl, q _ _ (I1.hok.fresh (Nat.le_refl _)) rfl⟩
theorem o_tupP : OpA X .m .tupleP (rTupP X.K) := by
  intro F ρ cs H vs xs x Q ok r h k
  simp only [primF] at h
  split at h
  · cases h
    obtain ⟨v, rfl, r1⟩ := relXs1 r
    obtain ⟨p, ws, rfl, hs, ha⟩ := r1.lst ok
    refine ⟨p, ws, rfl, hs, fun l o hl hd => ?_⟩
    refine k _ _ _ (Fwd.fresh ok _ hl) ?_
    exact ⟨l, o, ws, rfl, upd_same, hd, dpAll_mono (same_upd (ok.sub.free hl)) _ _ ha⟩
  · cases h
/-! ### d.get(k, x) -/
/-- the value is a dict with tuple keys -/
def tyT (x : V) (H : Hp) : Prop := ∃ a zs, x = .ref a ∧ H a = some (.ext (TPhi W0.w a zs))
theorem tyT_is {pins : List (Addr × Obj)} {σ : L2.St} {H : Hp} {s : Shared} {x : V} {v : Value} (I : Inv X pins σ H s) (r : RelV x v) (ty : tyT x H) :
    s.TypeIs v "dict" ∧ ∀ a, v = .ref a → ∃ ob, s.heap.get? a = some ob ∧ ob.dict = none := by
  obtain ⟨a, zs, rfl, hH⟩ := ty
  cases r
  obtain ⟨⟨_, o, es, ep, ho, hex, _⟩, _⟩ : TPhi W0.w a zs s.heap ∧ _ := I.hok a _ hH
  exact ⟨⟨o, ho, hex.1⟩, fun b e => by cases e; exact ⟨o, ho, hex.2.1⟩⟩
def tDM (r : V → List V → Hp → VK → Prop) (to : TE) (t : TA) : TE := fun σ H Q => to σ H fun x H1 => tyT x H1 ∧ t σ H1 fun xs H2 => r x xs H2 Q
theorem pe_dm {o e : Expr} {es : List Expr} {to : TE} {t : TA} {name : Str} {apos cpos : Pos} {id : String} {r : V → List V → Hp → VK → Prop} (pa : PlainAttrs "dict") (slot : Slot "dict" name id) (hty : typeOf (.builtin id) = pure (.type "method_descriptor")) (hm : MtR X id r) (ho : PE X o to) (ha : PA X (e :: es) t)
    (hbase : attributeBase o name X.env (eval o X.env) = eval o X.env)
    (hfew : ((backTo cpos (starEach (e :: es) X.env)).all (fun x => !x.1) && (backToKw cpos (keywordEach [] X.env)).all (fun x => x.1.isSome)
      && decide ((e :: es).length + ([] : List Keyword).length + (if ([] : List Keyword).isEmpty then 0 else 1) < 30)) = true)
    (hline : (apos.endLine == cpos.line) = true) (hs : starEach (e :: es) X.env = (false, eval e X.env) :: starEach es X.env) (hplain : (backTo cpos (starEach es X.env)).any (·.1) = false) :
    PE X (.Call (.Attribute o name apos) (e :: es) [] cpos) (tDM r to t) := by
  refine ⟨fun pins s σ H Q I h => ?_⟩
  refine wpAny_Call_method_late hbase hfew hline rfl (thn (ho.run pins s σ H _ I h) fun v s1 ⟨x, H1, I1, r1, ty, q1⟩ => ?_)
  obtain ⟨h1, h2⟩ := tyT_is I1 r1 ty
  refine ⟨"dict", id, pa, slot, hty, h1, h2, ?_⟩
  have hA := ha.run cpos pins s1 σ H1 _ I1 q1
  rw [hs] at hA ⊢
  refine Calls.callWith_builtin (by show (false || (backTo cpos (starEach es X.env)).any (·.1)) = false; rw [hplain] <;> rfl) (Calls.evalArgs_plain ?_)
  exact thn hA fun us s2 ⟨vs, H2, I2, r2, q2⟩ => hm pins s2 σ H2 x vs v us Q I2 r1 r2 q2
def rGetT (K : PySem.W.Frag) : V → List V → Hp → VK → Prop := fun x xs H Q => ∃ (a : Addr) (zs : List (NestedKey × Addr × Value)) (b : Addr) (k : PyData) (n : NestedKey) (y : V), x = .ref a ∧ xs = [.ref b, y] ∧ H a = some (.ext (TPhi W0.w a zs)) ∧ Dp K H (.ref b) k ∧ nkD k = some n ∧ (∀ z ∈ zs, ∃ q, nkD q = some z.1 ∧ Dp K H (.ref z.2.1) q) ∧
  (∀ p, atKey zs n = some p → ∃ v, RelV v p.2 ∧ Q v H) ∧ (atKey zs n = none → Q y H)
theorem mt_getT (hw : X.w = W0.w) (hu : X.A.units + 65 < cLine) : MtR X "dict.get" (rGetT X.K) := by
  intro pins s σ H x xs v us Q I rx rxs h
  obtain ⟨a, zs, b, k, n, y, rfl, rfl, hH, hk, hn, hks, q1, q2⟩ := h
  cases rx
  obtain ⟨u1, u2, rfl, ru1, ru2⟩ := rxs.two
  cases ru1
  obtain ⟨hd, hm, hl⟩ := t_dictOf I hw hH hks
  refine call_meetsIn F.slot_dict_get hd.typeIs F.entry_dict_get (F.args_dict_get_3 _ _ _) (meetsH_dict_get_default (knd := nestedKind X.prog X.w) (d := a) (a := b) hm u2) ⟨by show (X.A.in1).units + 8 < cLine; simp only [Around.in1_units]; omega, n, zs, nk_is I hk hn, hd, ?_⟩
  cases e : atKey zs n with
  | some p =>
    obtain ⟨v, rv, q⟩ := q1 p e
    exact ⟨v, H, I.tok _, rv, q⟩
  | none => exact ⟨y, H, I.tok _, ru2, q2 e⟩
def rSetD (K : PySem.W.Frag) : V → List V → Hp → VK → Prop := fun x xs H Q => ∃ (a : Addr) (zs : List (NestedKey × Addr × Value)) (b : Addr) (k : PyData) (n : NestedKey) (y : V), x = .ref a ∧ xs = [.ref b, y] ∧ H a = some (.ext (TPhi W0.w a zs)) ∧ zs.length + 1 ≤ sizeLine ∧ Dp K H (.ref b) k ∧ nkD k = some n ∧ (∀ z ∈ zs, ∃ q, nkD q = some z.1 ∧ Dp K H (.ref z.2.1) q) ∧
  (∀ p, atKey zs n = some p → ∃ w, RelV w p.2) ∧ ((atKey zs n).isSome = true → ∀ v, Q v H) ∧ (atKey zs n = none → ∀ u, RelV y u → Q y (upd H a (.ext (TPhi W0.w a (storedH zs n b u)))))
theorem t_write {pins : List (Addr × Obj)} {σ : L2.St} {H : Hp} {s : Shared} (I : Inv X pins σ H s) (hw : X.w = W0.w) {a b : Addr} {zs : List (NestedKey × Addr × Value)} {n : NestedKey} {u : Value} {h' : Heap} {tk : Nat} (hH : H a = some (.ext (TPhi W0.w a zs))) (hz : zs.length + 1 ≤ sizeLine) (hm : (a == sysModules) = false)
    (hd : h'.DictOfH (nestedKind X.prog X.w) a (storedH zs n b u)) (hs : Heap.SameBut a s.heap h') : Inv X pins σ (upd H a (.ext (TPhi W0.w a (storedH zs n b u)))) { s with heap := h', toks := tk } := by
  obtain ⟨o, es, ep, ho, hex, hdat, hes, _, hnd⟩ := hd
  have hl : (storedH zs n b u).length ≤ sizeLine := by have := storedH_length zs n b u; omega
  refine d_write I (by rw [hH]; exact True.intro) hs ⟨o, ho⟩ ⟨⟨⟨hm, hl⟩, o, es, ep, ho, hex, hdat, by rw [hes, ← hw]; rfl, hnd⟩, ⟨o, ho⟩, ?_⟩
  intro h1 h2 p1 hsame
  obtain ⟨p0, o, es, ep, ho, r⟩ := p1
  exact ⟨p0, o, es, ep, hsame o ho, r⟩
theorem mt_setD (hw : X.w = W0.w) (hu : X.A.units + 65 < cLine) : MtR X "dict.setdefault" (rSetD X.K) := by
  intro pins s σ H x xs v us Q I rx rxs h
  obtain ⟨a, zs, b, k, n, y, rfl, rfl, hH, hz, hk, hn, hks, q0, q1, q2⟩ := h
  cases rx
  obtain ⟨u1, u2, rfl, ru1, ru2⟩ := rxs.two
  cases ru1
  obtain ⟨hd, hm, hl⟩ := t_dictOf I hw hH hks
  refine call_setdefault_heap (knd := nestedKind X.prog X.w) (by show (X.A.in1).units + 8 < cLine; simp only [Around.in1_units]; omega) (nk_is I hk hn) hm hd (fun p e => ?_) (fun e h' hd' hs => ?_) hl
  · obtain ⟨w, rw⟩ := q0 p e
    exact ⟨w, H, I.tok _, rw, q1 (by rw [e]; rfl) w⟩
  · exact ⟨y, _, t_write I hw hH hz hm hd' hs, ru2, q2 e u2 ru2⟩
def rSetT (K : PySem.W.Frag) : V → V → V → Hp → (Hp → Prop) → Prop := fun o i v H Q => ∃ (a : Addr) (zs : List (NestedKey × Addr × Value)) (b : Addr) (k : PyData) (n : NestedKey), o = .ref a ∧ i = .ref b ∧ H a = some (.ext (TPhi W0.w a zs)) ∧ zs.length + 1 ≤ sizeLine ∧ Dp K H (.ref b) k ∧ nkD k = some n ∧ (∀ z ∈ zs, ∃ q, nkD q = some z.1 ∧ Dp K H (.ref z.2.1) q) ∧
  ∀ u, RelV v u → Q (upd H a (.ext (TPhi W0.w a (storedH zs n b u))))
theorem set_t (hw : X.w = W0.w) (hu : X.A.units + 65 < cLine) : PSet X (rSetT X.K) := by
  intro pins s σ H o i v ov iv u Q I ro ri rv h
  obtain ⟨a, zs, b, k, n, rfl, rfl, hH, hz, hk, hn, hks, q⟩ := h
  cases ro
  cases ri
  obtain ⟨hd, hm, hl⟩ := t_dictOf I hw hH hks
  exact wpAny_setItem_heap (knd := nestedKind X.prog X.w) (by show (X.A.in1).units + 8 < cLine; simp only [Around.in1_units]; omega) (nk_is I hk hn) hd (fun h' hd' hs => ⟨_, t_write I hw hH hz hm hd' hs, q u rv⟩) hl
theorem relXs3 {F : Hp} {ρ : List Addr} {H : Hp} {vs : List V} {x1 x2 x3 : MV} (r : RelXs .x X.K F ρ H vs [x1, x2, x3]) : ∃ v1 v2 v3, vs = [v1, v2, v3] ∧ RelX X.K F ρ H v1 x1 ∧ RelX X.K F ρ H v2 x2 ∧ RelX X.K F ρ H v3 x3 := by
  cases r with
  | cons a t =>
    cases t with
    | cons b t =>
      cases t with
      | cons c t => cases t; exact ⟨_, _, _, rfl, a, b, c⟩
end
end R

namespace R
open PySem PySem.Spec PySem.W PyProof.Rows L2
theorem strLe_total (a b : Str) : (strLe a b || strLe b a) = true := by
  unfold strLe
  rw [Bool.or_eq_true, decide_eq_true_eq, decide_eq_true_eq]
  exact List.le_total _ _
theorem strLe_trans (a b c : Str) (h : strLe a b = true) (g : strLe b c = true) : strLe a c = true := by
  unfold strLe at *
  rw [decide_eq_true_eq] at *
  exact List.le_trans h g
theorem strLe_anti {a b : Str} (h : strLe a b = true) (g : strLe b a = true) : a = b := by
  unfold strLe at *
  rw [decide_eq_true_eq] at *
  exact PySem.W.str_of_cps (List.le_antisymm h g)
theorem lt_no {a b : List Nat} (h : ltCps b a = false) : a ≤ b := by
  rw [ltCps_eq, decide_eq_false_iff_not] at h
  exact List.not_lt.mp h
theorem rising_pair : ∀ (l : List Str) (p : Str), risingS p l = true → (p :: l).Pairwise fun a b => strLe a b = true
  | [], p, _ => List.pairwise_singleton _ _
  | x :: r, p, h => by
    have h : (!ltCps x.cps.toList p.cps.toList && risingS x r) = true := h
    rw [Bool.and_eq_true, Bool.not_eq_true'] at h
    have ih := rising_pair r x h.2
    have h1 : strLe p x = true := by
      unfold strLe
      rw [decide_eq_true_eq]
      exact lt_no h.1
    refine List.pairwise_cons.mpr ⟨fun y hy => ?_, ih⟩
    rcases List.mem_cons.mp hy with rfl | hy
    · exact h1
    · exact strLe_trans _ _ _ h1 (List.rel_of_pairwise_cons ih hy)
theorem sorted_pair {l : List Str} (h : sortedS l = true) : l.Pairwise fun a b => strLe a b = true := by
  cases l with
  | nil => exact List.Pairwise.nil
  | cons x r => exact rising_pair r x h
theorem sortS_pair (l : List Str) : (sortS l).Pairwise fun a b => strLe a b = true := List.pairwise_mergeSort strLe_trans strLe_total l
theorem sortS_perm (l : List Str) : (sortS l).Perm l := List.mergeSort_perm l _
theorem sort_one {l m : List Str} (h : l.Perm m) (hl : l.Pairwise fun a b => strLe a b = true) (hm : m.Pairwise fun a b => strLe a b = true) : l = m :=
  List.Perm.eq_of_pairwise (fun a b _ _ h1 h2 => strLe_anti h1 h2) hl hm h
variable [W0]
section
variable {X : Cx} {K : PySem.W.Frag} {F : Hp}
theorem kr_len {ks : List (Key × V)} {kvs : List (Key × PyData)} (r : KR K F ks kvs) : ks.length = kvs.length := Paired.length r
theorem kr_look : ∀ {ks : List (Key × V)} {kvs : List (Key × PyData)} {k : Key}, KR K F ks kvs → (valV ks k = none ∧ lookK kvs k = none) ∨ ∃ v d, valV ks k = some v ∧ lookK kvs k = some d ∧ Dp K F v d
  | _, _, k, .nil => .inl ⟨rfl, rfl⟩
  | p :: ps, q :: qs, k, .cons a t => by
    obtain ⟨qk, qv⟩ := q
    simp only [lookK]
    by_cases e : qk = k
    · rw [if_pos e]
      exact .inr ⟨p.2, qv, valV_pos (a.1.trans e), rfl, a.2⟩
    · rw [if_neg e, valV_neg (fun z => e (a.1.symm.trans z))]
      exact kr_look t
theorem kr_any : ∀ {ks : List (Key × V)} {kvs : List (Key × PyData)} {k : Key}, KR K F ks kvs → (ks.any fun q => decide (q.1 = k)) = kvs.any fun q => decide (q.1 = k)
  | _, _, k, .nil => rfl
  | p :: ps, q :: qs, k, .cons a t => by rw [List.any_cons, List.any_cons, a.1, kr_any t]
theorem kr_app : ∀ {ks : List (Key × V)} {kvs : List (Key × PyData)} {ls : List (Key × V)} {lvs : List (Key × PyData)}, KR K F ks kvs → KR K F ls lvs → KR K F (ks ++ ls) (kvs ++ lvs)
  | _, _, _, _, .nil, q => q
  | _, _, _, _, .cons a t, q => .cons a (kr_app t q)
theorem kr_map {k : Key} {v : V} {d : PyData} (hd : Dp K F v d) : ∀ {ks : List (Key × V)} {kvs : List (Key × PyData)}, KR K F ks kvs → KR K F (ks.map fun q => if q.1 = k then (q.1, v) else q) (kvs.map fun q => if q.1 = k then (q.1, d) else q)
  | _, _, .nil => .nil
  | p :: ps, q :: qs, .cons a t => by
    refine .cons ?_ (kr_map hd t)
    by_cases e : p.1 = k
    · simp only [if_pos e, if_pos (a.1.symm.trans e)]
      exact ⟨a.1, hd⟩
    · simp only [if_neg e, if_neg (fun z => e (a.1.trans z))]
      exact a
theorem kr_put {ks : List (Key × V)} {kvs : List (Key × PyData)} {k : Key} {v : V} {d : PyData} (r : KR K F ks kvs) (hd : Dp K F v d) : KR K F (putK ks k v) (putD kvs k d) := by
  unfold putK putD
  rw [kr_any r]
  split
  · exact kr_map hd r
  · exact kr_app r (.cons ⟨rfl, hd⟩ .nil)
theorem kr_merge : ∀ {ps : List (Key × V)} {dps : List (Key × PyData)} {ks : List (Key × V)} {kvs : List (Key × PyData)}, KR K F ps dps → KR K F ks kvs → KR K F (L2.mergeK ks ps) (mergeD kvs dps)
  | _, _, _, _, .nil, r => r
  | p :: ps, q :: qs, ks, kvs, .cons a t, r => by
    have e : KR K F (putK ks p.1 p.2) (putD kvs q.1 q.2) := by
      have := kr_put (k := p.1) r a.2
      rwa [← a.1]
    exact kr_merge (ps := ps) (dps := qs) t e
theorem putD_len (kvs : List (Key × PyData)) (k : Key) (v : PyData) : (putD kvs k v).length ≤ kvs.length + 1 := by
  unfold putD
  split
  · rw [List.length_map]; omega
  · rw [List.length_append, List.length_cons, List.length_nil]; omega
theorem key_dp {v : V} {y : PyData} {k : Key} (r : Dp K F v y) (h : keyD y = some k) : v = kV k := by
  cases y with
  | int i => cases h; cases r; rfl
  | str i => cases h; cases r; rfl
  | _ => cases h
theorem key_x {H : Hp} {ρ : List Addr} {v : V} {y : PyData} {k : Key} (r : RelX K F ρ H v (.d y)) (h : keyD y = some k) : v = kV k := by
  cases y with
  | int i => cases h; exact r.int
  | str i => cases h; exact r.str
  | _ => cases h
/-! ### dict(xs) -/
theorem prs_k : ∀ {xs : List PyData} {vs : List V} {dps : List (Key × PyData)}, DpAll K F vs xs → prsK xs = some dps →
    ∃ (ps : List Addr) (kvs : List (Key × V)), vs = ps.map V.ref ∧ Paired (fun p kv => SqT K F p [kV kv.1, kv.2]) ps kvs ∧ KR K F kvs dps
  | [], _, _, d, h => by
    cases d
    cases h
    exact ⟨[], [], rfl, .nil, .nil⟩
  | x :: xs, _, _, d, h => by
    cases d with
    | @cons vx _ vxs _ d1 d2 =>
      simp only [prsK] at h
      obtain ⟨p, hp, h⟩ := Option.bind_eq_some_iff.mp h
      obtain ⟨dps', h2, rfl⟩ := Option.map_eq_some_iff.mp h
      obtain ⟨ps, kvs, e1, e2, e3⟩ := prs_k d2 h2
      unfold prK at hp
      split at hp
      · rename_i k d
        obtain ⟨n, hn, rfl⟩ := Option.map_eq_some_iff.mp hp
        cases d1 with
        | @tup a ws _ hs ha =>
          cases ha with
          | cons k1 t =>
            cases t with
            | cons k2 t =>
              cases t
              have ek := key_dp k1 hn
              subst ek
              exact ⟨a :: ps, (n, _) :: kvs, by rw [List.map_cons, e1], .cons hs e2, .cons ⟨rfl, k2⟩ e3⟩
      · cases hp
def rDictK (K : PySem.W.Frag) : List V → Hp → VK → Prop := fun xs H Q => ∃ (a : Addr) (ps : List Addr) (kvs : List (Key × V)), xs = [.ref a] ∧ SqL K H a (ps.map V.ref) ∧ Paired (fun p kv => SqT K H p [kV kv.1, kv.2]) ps kvs ∧
    ∀ p, H p = none → Q (.ref p) (upd H p (.dK (L2.mergeK [] kvs)))
theorem o_dictK : OpA X .n .dictK (rDictK X.K) := by
  intro F ρ cs H vs xs x Q ok r h k
  simp only [primF] at h
  split at h
  · obtain ⟨v, rfl, r1⟩ := relXs1 r
    obtain ⟨p, ws, rfl, hs, ha⟩ := r1.lst ok
    unfold dictKD at h
    split at h
    · rename_i dps hp
      split at h
      · cases h
        obtain ⟨ps, kvs, rfl, e2, e3⟩ := prs_k ha hp
        refine ⟨p, ps, kvs, rfl, hs, Paired.mapP e2 fun _ _ z => sqT_mono ok.sub z, fun q hq => ?_⟩
        refine k _ _ _ (Fwd.own ok _ hq) ?_
        exact ⟨q, _, rfl, upd_same, kr_merge e3 .nil, ok.sub.free hq, fun z => ok.at z hq, hq⟩
      · cases h
    · cases h
  · cases h
/-! ### sorted(d) -/
theorem tx_keys : ∀ {kvs : List (Key × PyData)} {ks : List Str}, txK kvs = some ks → kvs.map (·.1) = ks.map Sum.inr
  | [], _, h => by cases h; rfl
  | q :: r, _, h => by
    obtain ⟨k, v⟩ := q
    unfold txK at h
    cases k with
    | inl _ => cases h
    | inr z =>
      obtain ⟨ls, h1, rfl⟩ := Option.map_eq_some_iff.mp h
      rw [List.map_cons, List.map_cons, tx_keys h1]
theorem kr_keys : ∀ {ks : List (Key × V)} {kvs : List (Key × PyData)}, KR K F ks kvs → ks.map (·.1) = kvs.map (·.1)
  | _, _, .nil => rfl
  | _, _, .cons a t => by rw [List.map_cons, List.map_cons, a.1, kr_keys t]
def rSortK : List V → Hp → VK → Prop := fun xs H Q => ∃ (a : Addr) (kvs : List (Key × V)) (ks : List Str), xs = [.ref a] ∧ Rd H a (.dK kvs) ∧ kvs.map (·.1) = ks.map Sum.inr ∧ ks.length < 64 ∧
    ∀ ys p, ys.Perm ks → sortedS ys = true → H p = none → Q (.ref p) (upd H p (.lst (ys.map V.str)))
theorem dp_strs (ys : List Str) : DpAll K F (ys.map V.str) (ys.map PyData.str) := by
  induction ys with
  | nil => exact .nil
  | cons y ys ih => exact .cons (.str y) ih
theorem o_sortK : OpA X .n .sortK rSortK := by
  intro F ρ cs H vs xs x Q ok r h k
  simp only [primF] at h
  split at h
  · split at h
    · rename_i ks hk
      split at h
      · rename_i h64
        cases h
        obtain ⟨v, rfl, r1⟩ := relXs1 r
        obtain ⟨a, zs, rfl, hH, kr⟩ := r1.kdict ok
        refine ⟨a, zs, ks, rfl, .inl hH, (kr_keys kr).trans (tx_keys hk), h64, fun ys p hp hs hn => ?_⟩
        have e : ys = sortS ks := sort_one (hp.trans (sortS_perm ks).symm) (sorted_pair hs) (sortS_pair ks)
        subst e
        exact give_lst ok (dp_strs _) rfl k p hn
      · cases h
    · cases h
  · cases h
/-! ### y not in d -/
def rNinK : R2 := fun x y H Q => ∃ (a : Addr) (kvs : List (Key × V)) (k : Key), y = .ref a ∧ H a = some (.dK kvs) ∧ x = kV k ∧ Q (.bl (!(valV kvs k).isSome)) H
theorem op_ninK (hu : X.A.units + 65 < cLine) : OpR X (compareOp .NotIn) rNinK := by
  intro pins s σ H x y v u Q I rx ry h
  obtain ⟨a, kvs, k, rfl, hH, rfl, q⟩ := h
  cases ry
  exact d_notIn (by first | omega | (simp only [Around.in1_units]; omega)) I (DGet.k hH) rx fun s' I' => ⟨.bl (!(valV kvs k).isSome), H, I', rfl, q⟩
theorem o_ninK : Op2 X .m .ninK rNinK := by
  intro F ρ cs H v1 v2 x1 x2 x Q ok r1 r2 h k
  simp only [primF] at h
  split at h
  · rename_i y kvs e
    cases e
    split at h
    · rename_i kk hk
      cases h
      obtain ⟨a, zs, rfl, hH, kr⟩ := r2.kdict ok
      refine ⟨a, zs, kk, rfl, hH, key_x r1 hk, ?_⟩
      have e : (valV zs kk).isSome = (lookK kvs kk).isSome := by
        rcases kr_look (k := kk) kr with ⟨h1, h2⟩ | ⟨v, d, h1, h2, _⟩
        · rw [h1, h2]; rfl
        · rw [h1, h2]; rfl
      rw [e]
      exact give_bl ok (by decide) k
    · cases h
  · cases h
/-! ### sum(xs) -/
theorem ints_rel : ∀ {xs : List PyData} {vs : List V} {ns : List Int}, DpAll K F vs xs → intsD xs = some ns → vs = ns.map V.int
  | [], _, _, r, h => by
    cases h
    cases r
    rfl
  | x :: xs, _, _, r, h => by
    cases x with
    | int b =>
      simp only [intsD, Option.map_eq_some_iff] at h
      obtain ⟨cs, h1, rfl⟩ := h
      cases r with
      | cons a t =>
        cases a
        rw [ints_rel t h1]
        rfl
    | _ => cases h
theorem o_sum1 : OpA X .m .sum1 (rSum X.K) := by
  intro F ρ cs H vs xs x Q ok r h k
  simp only [primF] at h
  split at h
  · split at h
    · rename_i ns hb
      cases h
      obtain ⟨v, rfl, r1⟩ := relXs1 r
      obtain ⟨p, ws, rfl, hs, ha⟩ := r1.lst ok
      rw [ints_rel ha hb] at hs
      exact ⟨p, ns, rfl, hs, give_int ok (by decide) k⟩
    · cases h
  · cases h
end
end R

namespace R
open PySem PySem.Spec PyProof.Rows L2
section
variable {P : Program} {w : World} {A : Around} {E : Value → Shared → Prop} {s : Shared}
theorem strs_get : ∀ {vs : List Value} {ks : List Str}, StrsAre vs ks → ∀ (i : Nat) (v : Value), vs[i]? = some v → ∀ hi : i < ks.length, ∃ t, v = .str ks[i] t
  | _, _, .nil, i, v, h, hi => by simp at h
  | _, _, .cons x t r, 0, v, h, hi => by simp at h; exact ⟨t, h.symm⟩
  | _, _, .cons x t r, i + 1, v, h, hi => by
    obtain ⟨t2, e⟩ := strs_get r i v (by simpa using h) (by simpa using hi)
    exact ⟨t2, by simpa using e⟩
theorem set_update_strs {I : Addr} {fp wr : List Addr} {G : Array GenState → Array GenState → Prop} {n : Nat} {Pv : Nat → Value → Prop} {St : Nat → Shared → Prop} {R : Result → Shared → Prop}
    (W : WalksS P w A.in1 I fp wr G n Pv St) (S : Addr) (hSf : S ∉ fp) (ks : List Str) (hn : n = ks.length) (hb : ks.length + 1 < 4000) (hnd : ks.Nodup) (hval : ∀ i v, Pv i v → ∃ k t, ks[i]? = some k ∧ v = .str k t) :
    ∀ (k i : Nat) (s : Shared), n - i = k → i ≤ n → St i s → s.heap.SetOf (strKind P w) S (fun x => decide (x ∈ ks.take i)) i →
      (∀ s', Moved (S :: wr) G s s' → s'.heap.SetOf (strKind P w) S (fun x => decide (x ∈ ks)) n → R (.ok (.ret .none)) s') →
      codeAny (model P w) A (.builtin "set.update.loop" ⟨[.ref S, .ref I], []⟩) R s := by
  have hSw : S ∉ wr := fun h => hSf (W.sub _ h)
  have hsub : ∀ b ∈ wr, b ∈ S :: wr := fun b hb => List.mem_cons_of_mem _ hb
  have at' : ∀ {h h' : Heap} {T : Str → Bool} {c : Nat}, h.SetOf (strKind P w) S T c → (∀ o, h.get? S = some o → h'.get? S = some o) → h'.SetOf (strKind P w) S T c := fun {h h' T c} x kp => by
    obtain ⟨o, es, ep, t, ho, r⟩ := x
    exact ⟨o, es, ep, t, kp o ho, r⟩
  intro k
  induction k with
  | zero =>
    intro i s hk' hi hst hS hR
    have hin : i = n := by omega
    subst hin
    refine codeAny_builtin F.entry_set_update_loop ?_
    rw [Around.under_plainId F.plain_set_update_loop _]
    show wpAny _ A.in1 (pyNext (.ref I) >>= _) _ _ s
    refine wpAny_bind (W.done s _ _ hst fun s' hm => ?_)
    show wpAny _ A.in1 (ret Value.none) _ _ s'
    have e : ks.take i = ks := List.take_of_length_le (by omega)
    rw [e] at hS
    exact wpAny_pure (hR s' (hm.mono hsub) (at' hS fun o e => hm.heap S o hSw e))
  | succ k ih =>
    intro i s hk' hi hst hS hR
    have hlt : i < n := by omega
    refine codeAny_builtin F.entry_set_update_loop ?_
    rw [Around.under_plainId F.plain_set_update_loop _]
    show wpAny _ A.in1 (pyNext (.ref I) >>= _) _ _ s
    refine wpAny_bind (W.item i s _ _ hlt hst fun v s' hP hst' hm => ?_)
    obtain ⟨z, t, hz, rfl⟩ := hval i v hP
    have hS' : s'.heap.SetOf (strKind P w) S (fun x => decide (x ∈ ks.take i)) i := at' hS fun o e => hm.heap S o hSw e
    have hzn : z ∉ ks.take i := fun q => by
      obtain ⟨j, hj, e⟩ := List.getElem_of_mem q
      rw [List.length_take] at hj
      have e1 : ks[j]? = some z := by
        rw [List.getElem_take] at e
        rw [List.getElem?_eq_getElem (by omega), e]
      have hji : j < i := by omega
      have h1 := (List.getElem?_eq_some_iff.mp e1).2
      have h2 := (List.getElem?_eq_some_iff.mp hz).2
      have := (List.getElem_inj hnd).mp (h1.trans h2.symm)
      omega
    show wpAny _ A.in1 (holding [Value.str z t] (setAdd S (.str z t)) >>= _) _ _ s'
    refine wpAny_bind (wpAny_holding ?_)
    unfold setAdd
    refine wpAny_holding ?_
    refine wpAny_bind ((strKind P w).pyHash (k := z) (strKind_is _ _ _ _) ?_)
    refine wpAny_setAddHashed_of (knd := strKind P w) (s := { s' with toks := s'.toks + 1 }) (strKind_is _ _ _ _) rfl hS' (by unfold scanBound; omega) fun h' hsb hS2 => ?_
    have hS3 : h'.SetOf (strKind P w) S (fun x => decide (x ∈ ks.take (i + 1))) (i + 1) := by
      refine SetOf_congr hS2 (fun x => ?_) ?_
      · rw [List.take_add_one, hz]
        simp [List.mem_append]
      · simp [hzn]
    refine wpAny_pure ⟨plainId_quiet F.plain_set_update_loop _, ih (i + 1) _ (by omega) hlt (W.frame _ s' _ _ hst' (Nat.le_succ _) fun b hb o e => ?_) hS3 fun s'' hm'' hS'' => ?_⟩
    · rw [hsb.2 b (fun h : b = S => hSf (by rw [← h]; exact hb))]; exact e
    · refine hR s'' (Moved.trans W.gtrans ((hm.mono hsub).then_heap (Nat.le_succ _) fun b o hb e => ?_) hm'') hS''
      rw [hsb.2 b (fun h : b = S => hb (by rw [h]; exact List.mem_cons_self))]; exact e
theorem call_set_tupN {l : Addr} {items : Array Value} (ks : List Str) {Q : Value → Shared → Prop} (hh : A.handled = none) (hl : s.heap.IsTuple l items) (hit : StrsAre items.toList ks) (hb : ks.length + 1 < 4000) (hnd : ks.Nodup)
    (h : ∀ (h' : Heap) (tk : Nat), h'.SetOf (strKind P w) s.heap.objs.size (fun x => decide (x ∈ ks)) ks.length → (∀ b o, s.heap.get? b = some o → h'.get? b = some o) → Q (.ref s.heap.objs.size) { s with heap := h', toks := tk }) :
    wpAny (model P w) A (call (.type "set") [.ref l]) Q E s := by
  have hisz : items.size = ks.length := by
    have q := StrsAre.len_eq hit
    rw [Array.length_toList] at q
    exact q
  obtain ⟨c, tl, hmro⟩ := F.called_set.mro
  have hmade := F.called_set.made
  have hsub := F.called_set.sub
  refine wpAny_call (codeAny_of_tree ?_)
  show wpAny _ _ (callAny (.type "set") _) _ _ _
  refine wpAny_pure ⟨Code.quiet_builtin _ (by decide +kernel), codeAny_builtin F.entry_type_call ?_⟩
  rw [Around.under_plain (weight_type_call_type "set" [.ref l] []) rfl]
  have h1 := F.called_set.notType
  have h2 := F.called_set.canCreate
  have hct := F.typeCall_set_1 (.ref l)
  repeat (any_goals (first | assumption | wp_step))
  refine codeAny_mono (code_set_led1 (.ref l) (E := E) (Q₁ := fun obj s₁ => obj = .ref s.heap.objs.size ∧ s₁ = { s with heap := s.heap.push { cls := .type "set", dict := none, data := .set #[] 0 (.fresh 0 0 (!w.params.followText "set-order")) } }) ⟨rfl, rfl⟩) fun r s₁ hr => ?_
  cases r with
  | error e => exact hr
  | ok fl =>
    cases fl with
    | ret obj =>
      obtain ⟨rfl, rfl⟩ := hr
      have hS : (s.heap.push { cls := .type "set", dict := none, data := .set #[] 0 (.fresh 0 0 (!w.params.followText "set-order")) }).get? s.heap.objs.size = some { cls := .type "set", dict := none, data := .set #[] 0 (.fresh 0 0 (!w.params.followText "set-order")) } := Heap.get?_push_size _ rfl
      have hT : Shared.TypeIs { s with heap := s.heap.push { cls := .type "set", dict := none, data := .set #[] 0 (.fresh 0 0 (!w.params.followText "set-order")) } } (.ref s.heap.objs.size) "set" := ⟨_, hS, rfl⟩
      have hli := F.called_set.init.lookup
      have hbi := F.called_set.init.bind (.ref s.heap.objs.size)
      repeat (any_goals (first | assumption | wp_step))
      refine codeAny_mono (codeAny_call_builtin (R := wants (fun r s₂ => r = .none ∧ ∃ h' tk, s₂ = { s with heap := h', toks := tk } ∧ h'.SetOf (strKind P w) s.heap.objs.size (fun x => decide (x ∈ ks)) ks.length ∧
          (∀ b o, s.heap.get? b = some o → h'.get? b = some o)) E) F.called_set.init.plain F.entry_set_init (check_set_init_1 hT ?_)) fun r₂ s₂ hr₂ => ?_
      · obtain ⟨ol, hol, hcl, nl, hdl⟩ := hl
        obtain ⟨ocls, odict, odata, oslots⟩ := ol
        simp only at hcl hdl
        subst hcl; subst hdl
        have hol' : (s.heap.push { cls := .type "set", dict := none, data := .set #[] 0 (.fresh 0 0 (!w.params.followText "set-order")) }).get? l = some { cls := .type "tuple", dict := odict, data := .seq items nl, slots := oslots } := Heap.get?_push_of_some _ hol
        have hsls := F.sub_tuple_set
        have hslf := F.sub_tuple_frozenset
        have hne : (Value.type "tuple" == Value.type "dict") = false := by decide
        have hl1 : (s.heap.push { cls := .type "set", dict := none, data := .set #[] 0 (.fresh 0 0 (!w.params.followText "set-order")) }).IsTuple l items := ⟨_, hol', rfl, nl, rfl⟩
        unfold Builtin.«set.__init__» noKeywords Builtin.Frozenset.updateFrom
        generalize hPI : pyIter = PI
        wp_walk
        subst hPI
        refine wpAny_pyIter_tuple hl1 ?_
        refine wpAny_bind (wpAny_runValue ?_)
        have hlS : l < s.heap.objs.size := Heap.lt_size hol
        have hh3 : A.in1.in1.in1.handled = none := by simp [hh]
        have hneI : l ≠ (s.heap.push { cls := .type "set", dict := none, data := .set #[] 0 (.fresh 0 0 (!w.params.followText "set-order")) }).objs.size := by
          rw [Heap.size_push]; exact Nat.ne_of_lt (Nat.lt_succ_of_lt hlS)
        have hSf : s.heap.objs.size ∉ [(s.heap.push { cls := .type "set", dict := none, data := .set #[] 0 (.fresh 0 0 (!w.params.followText "set-order")) }).objs.size, l] := by
          rw [Heap.size_push]; simp only [List.mem_cons, List.mem_singleton, List.not_mem_nil, or_false, not_or]
          exact ⟨Nat.ne_of_lt (Nat.lt_succ_self _), Nat.ne_of_gt hlS⟩
        have hval : ∀ (i : Nat) (v : Value), items[i]? = some v → ∃ k t, ks[i]? = some k ∧ v = .str k t := fun i v hv => by
          have hi : i < ks.length := by rw [← hisz]; exact (Array.getElem?_eq_some_iff.mp hv).1
          obtain ⟨t, e⟩ := strs_get hit i v (by rw [Array.getElem?_toList]; exact hv) hi
          exact ⟨ks[i], t, List.getElem?_eq_getElem hi, e⟩
        refine set_update_strs ((Walks.tuple hh3 _ l hneI items).toS) s.heap.objs.size
          hSf ks hisz hb hnd hval (items.size - 0) 0 _ (by omega) (Nat.zero_le _)
          ⟨⟨_, Heap.get?_push_size _ rfl, rfl, rfl⟩, (hl1.push _)⟩ ?hS0 ?hR
        case hS0 =>
          have hget : ((s.heap.push { cls := .type "set", dict := none, data := .set #[] 0 (.fresh 0 0 (!w.params.followText "set-order")) }).push { cls := .type "tuple_iterator", data := .fields #[.ref l, .int 0 0] }).get? s.heap.objs.size
              = some { cls := .type "set", dict := none, data := .set #[] 0 (.fresh 0 0 (!w.params.followText "set-order")) } := Heap.get?_push_of_some _ hS
          exact SetOf_congr ((setObjOf_fresh (knd := strKind P w) (!w.params.followText "set-order")).setOf hget (by unfold scanBound; omega)) (fun x => by simp) rfl
        case hR =>
          intro s' hm hS'
          obtain ⟨h', g2, d', tk', os'⟩ := s'
          have eg : g2 = s.gens := hm.gens
          have ed : d' = s.drawn := hm.drawn
          have eo : os' = s.os := hm.os
          subst eg; subst ed; subst eo
          show wpAny _ _ _ _ _ _
          refine wpAny_pure ?_
          show wpAny _ _ (ret Value.none) _ _ _
          rw [hisz] at hS'
          refine wpAny_pure ⟨rfl, h', tk', rfl, hS', fun b o e => ?_⟩
          have hb0 : b < s.heap.objs.size := Heap.lt_size e
          have hb1 : b ≠ s.heap.objs.size := Nat.ne_of_lt hb0
          have hb2 : b ≠ (s.heap.push { cls := .type "set", dict := none, data := .set #[] 0 (.fresh 0 0 (!w.params.followText "set-order")) }).objs.size := by
            rw [Heap.size_push]; exact Nat.ne_of_lt (Nat.lt_succ_of_lt hb0)
          exact hm.heap b o (by simp only [List.mem_cons, List.mem_singleton, List.not_mem_nil, or_false, not_or]; exact ⟨hb1, hb2⟩) (Heap.get?_push_of_some _ (Heap.get?_push_of_some _ e))
      · cases r₂ with
        | error e => exact hr₂
        | ok fl₂ =>
          cases fl₂ with
          | ret r =>
            obtain ⟨rfl, h', tk, rfl, hS', hk'⟩ := hr₂
            repeat (any_goals (first | assumption | wp_step))
            exact h _ _ hS' hk'
          | _ => exact hr₂.elim
    | _ => exact hr.elim
end
end R

namespace R
open PySem PySem.Spec PyProof.Rows L2
variable [W0]
/-! ### what stands still -/
structure Gam where
  N : List Str
  sc : Scope
  top : Bool
  fns : List (Option Str)
  bi : List Str
  gls : List Str
  kws : List KForm
/-- no exception is wished for -/
def spR (K : PySem.W.Frag) (cl : List MV → Cells → Res (MV × Cells)) : Sp := fun vs H Q _ => ∃ F ρ cs xs x cs', OkC K F ρ cs H ∧ RelXs .m K F ρ H vs xs ∧ cl xs cs = .ok (x, cs') ∧
  ∀ F' ρ' H' v, Fwd K F ρ H F' ρ' cs' H' → RelM K F' ρ' v x → Q v H'
structure Good (Γ : Gam) (C : Cxt) (n : Nat) (X : Cx) : Prop where
  wd : X.w = W0.w
  calm : X.calm = true
  N : X.N = Γ.N
  nd : X.N.Nodup
  kind : X.env.scope.kind = .function
  names : X.env.scope.names = Γ.sc.names
  skind : Γ.sc.kind = .function
  top : Γ.top = true → ∀ x, X.fn x = true
  room : Room n X.A
  bi : ∀ x ∈ Γ.bi, X.mg x = none
  gl : ∀ (i : Nat) (x : Str) (y : PyData), Γ.gls[i]? = some x → C.gl.v[i]? = some (.d y) → ∃ w u, X.mg x = some u ∧ RelV w u ∧ ∀ F, Dp X.K F w y
  gd : ∀ (i : Nat) (x : Str) (kvs : List (Key × PyData)), Γ.gls[i]? = some x → C.gl.v[i]? = some (.k kvs) → ∃ d, X.mg x = some (.ref d) ∧ ∀ z y, lookS kvs z = some y → ∃ v0, KDct X.K X.w d z v0 ∧ ∀ F, Dp X.K F v0 y
  kws : C.gl.kw = Γ.kws
  kw : ∀ (j : Nat) (fo : KForm), Γ.kws[j]? = some fo → ∃ f fd ps g gV, X.mg fo.x = some (.ref f) ∧ PySem.W.keepIn X.K (.ref f) = true ∧ FnOk X.prog X.w X.K X.mg X.base CX0 n f fd ps (spR X.K (C.cl fo.f)) ∧ KBn X.K fd ps fo.n fo.ks g gV ∧
    ∀ (F : Hp) (ρ : List Addr) (H : Hp) (vs zs : List V) (xs ys ws : List MV), RelXs .m X.K F ρ H vs xs → RelXs .m X.K F ρ H zs ys → arF xs ys fo.ar = some ws → RelXs .m X.K F ρ H (gV vs zs) ws
  fn : ∀ (i : Nat) (x : Str), Γ.fns[i]? = some (some x) → ∃ f fd ps, X.mg x = some (.ref f) ∧ PySem.W.keepIn X.K (.ref f) = true ∧ FnOk X.prog X.w X.K X.mg X.base CX0 n f fd ps (spR X.K (C.cl i)) ∧ Binds X.K fd ps []
def kindB (Γ : Gam) (x : Str) (k : NameKind) : Bool := decide (Γ.sc.names.lookup x = some k)
def plainName (x : Str) : Bool := !(x == ("__debug__" : Str)) && !(x == ("__classdict__" : Str)) && !(decide (x = "__name__"))
def visB (Γ : Gam) (i : Nat) (x : Str) : Bool := decide (Γ.N[i]? = some x) && plainName x && (kindB Γ x .local || kindB Γ x .cell || kindB Γ x .free)
def locB (Γ : Gam) (i : Nat) (x : Str) : Bool := decide (Γ.N[i]? = some x) && (kindB Γ x .local || (kindB Γ x .cell && Γ.top))
def glB (Γ : Gam) (x : Str) : Bool := plainName x && kindB Γ x .globalImplicit
def biB (Γ : Gam) (x : Str) : Bool := glB Γ x && decide (x ∈ Γ.bi)
section
variable {X : Cx} {Γ : Gam} {C : Cxt} {n : Nat}
theorem Good.kindOf (G : Good Γ C n X) {x : Str} {k : NameKind} (h : kindB Γ x k = true) : X.env.scope.names.lookup x = some k := by
  rw [G.names]; exact of_decide_eq_true h
theorem plain_of {x : Str} (h : plainName x = true) : (x == ("__debug__" : Str)) = false ∧ (x == ("__classdict__" : Str)) = false ∧ x ≠ "__name__" := by
  unfold plainName at h
  simp only [Bool.and_eq_true, Bool.not_eq_true', decide_eq_false_iff_not] at h
  exact ⟨h.1.1, h.1.2, h.2⟩
theorem Good.vis (G : Good Γ C n X) {i : Nat} {x : Str} {pos : Pos} (h : visB Γ i x = true) : PE X (.Name x pos) (tVar i) := by
  unfold visB at h
  simp only [Bool.and_eq_true, Bool.or_eq_true, decide_eq_true_eq] at h
  obtain ⟨⟨h1, h2⟩, h3⟩ := h
  obtain ⟨p1, p2, _⟩ := plain_of h2
  refine pe_var (by rw [G.N]; exact h1) ?_ p1 p2
  rcases h3 with (h3 | h3) | h3
  · exact .inl (G.kindOf h3)
  · exact .inr (.inl (G.kindOf h3))
  · exact .inr (.inr (G.kindOf h3))
theorem Good.loc (G : Good Γ C n X) {i : Nat} {x : Str} (h : locB Γ i x = true) : X.N[i]? = some x ∧ Loc X.env.scope x ∧ (X.fn x = true ∨ X.env.scope.names.lookup x = some .local) := by
  unfold locB at h
  simp only [Bool.and_eq_true, Bool.or_eq_true, decide_eq_true_eq] at h
  obtain ⟨h1, h3⟩ := h
  refine ⟨by rw [G.N]; exact h1, ?_⟩
  rcases h3 with h3 | ⟨h3, h4⟩
  · exact ⟨.inl (G.kindOf h3), .inr (G.kindOf h3)⟩
  · exact ⟨.inr (G.kindOf h3), .inl (G.top h4 x)⟩
theorem Good.glob (G : Good Γ C n X) {x : Str} (h : glB Γ x = true) : Gl X x ∧ (x == ("__debug__" : Str)) = false ∧ x ≠ "__name__" := by
  unfold glB at h
  rw [Bool.and_eq_true] at h
  obtain ⟨p1, _, p3⟩ := plain_of h.1
  exact ⟨G.kindOf h.2, p1, p3⟩
theorem Good.blt (G : Good Γ C n X) {x : Str} (h : biB Γ x = true) : Gl X x ∧ X.mg x = none ∧ (x == ("__debug__" : Str)) = false ∧ x ≠ "__name__" := by
  unfold biB at h
  rw [Bool.and_eq_true, decide_eq_true_eq] at h
  obtain ⟨a, b, c⟩ := G.glob h.1
  exact ⟨a, G.bi x h.2, b, c⟩
end
/-! ### syntax that the rules ask about -/
def nS : Expr → Bool
  | .Starred _ _ => false
  | _ => true
theorem star_cons {e : Expr} {es : List Expr} {env : PySem.Env} (h : nS e = true) : starEach (e :: es) env = (false, eval e env) :: starEach es env := by
  cases e <;> first
    | rfl
    | exact absurd (show false = true from h) Bool.false_ne_true
theorem star_none {env : PySem.Env} (pos : Pos) : ∀ {es : List Expr}, es.all nS = true → (backTo pos (starEach es env)).any (·.1) = false
  | [], _ => rfl
  | e :: es, h => by
    rw [List.all_cons, Bool.and_eq_true] at h
    rw [star_cons h.1]
    have ih := star_none (env := env) pos h.2
    unfold backTo at ih ⊢
    rw [List.map_cons, List.any_cons, ih]
    rfl
/-- a plain index -/
def plIx : Expr → Bool
  | .Slice _ _ _ _ => false
  | _ => true
theorem plIx_of {e : Expr} (h : plIx e = true) : PlainIx e := by
  intro o i
  cases e <;> first
    | rfl
    | exact absurd (show false = true from h) Bool.false_ne_true
def noMk (o : CO) : Expr → Bool
  | .Set _ _ _ => match o with
    | .isin => false
    | .notin => false
    | _ => true
  | _ => true
theorem noMk_of {o : CO} {e : Expr} (h : noMk o e = true) : behindInMarks (coOp o) e = false := by
  cases e with
  | Set a b c =>
    cases o <;> first
      | exact absurd (show false = true from h) Bool.false_ne_true
      | (simp [behindInMarks, coOp])
  | _ => rfl
def tyS : TY → String
  | .int => "int" | .str => "str" | .bool => "bool" | .list => "list" | .tuple => "tuple" | .dict => "dict"
/-- the built-ins' names -/
def bName : Prim → Option String
  | .len => some "len" | .listOf => some "list" | .tupleOf => some "tuple" | .abs => some "abs" | .max2 => some "max" | .max4 => some "max" | .sorted1 => some "sorted" | .min2 => some "min" | .int1 => some "int" | .all1 => some "all" | .dictT => some "dict" | .sortT => some "sorted" | .tupleP => some "tuple" | .dictK => some "dict" | .sortK => some "sorted" | .sum1 => some "sum"
  | _ => none
def tysB (Γ : Gam) : List TY → List Expr → Bool
  | [], [] => true
  | t :: ts, .Name x _ :: es => decide (x = (Str.ofString (tyS t))) && biB Γ x && tysB Γ ts es
  | _, _ => false
def isiMany (Γ : Gam) (ts : List TY) (e : Expr) : Option (List Expr) := match e with
  | .Call (.Name x _) [a, .Tuple es _ _] [] _ => if (decide (x = "isinstance") && biB Γ x && tysB Γ ts es && es.all nS && decide (ts.length ≤ 10)) = true then some [a] else none
  | _ => none
def isiOne (Γ : Gam) (t : TY) (e : Expr) : Option (List Expr) := match e with
  | .Call (.Name x _) [a, .Name y _] [] _ => if (decide (x = "isinstance") && biB Γ x && decide (y = (Str.ofString (tyS t))) && biB Γ y) = true then some [a] else none
  | _ => none
/-- the parts of an expression that is written as p's -/
def partsP (Γ : Gam) (p : Prim) (e : Expr) : Option (List Expr) :=
  match p with
  | .add => match e with
    | .BinOp a .Add b _ => some [a, b]
    | _ => none
  | .sub => match e with
    | .BinOp a .Sub b _ => some [a, b]
    | _ => none
  | .mul => match e with
    | .BinOp a .Mult b _ => some [a, b]
    | _ => none
  | .fdiv => match e with
    | .BinOp a .FloorDiv b _ => some [a, b]
    | _ => none
  | .mod => match e with
    | .BinOp a .Mod b _ => some [a, b]
    | _ => none
  | .pow => match e with
    | .BinOp a .Pow b _ => some [a, b]
    | _ => none
  | .neg => match e with
    | .UnaryOp .USub a _ => some [a]
    | _ => none
  | .cmp o => match e with
    | .Compare a [op] [b] _ => if (decide (op = coOp o) && noMk o b) = true then some [a, b] else none
    | _ => none
  | .dn => match e with
    | .Name x p => some [.Name x p]
    | _ => none
  | .getT => match e with
    | .Call (.Attribute (.Name x q) m ap) [u, v] [] cp => if (decide (m = "get") && (ap.endLine == cp.line) && nS u && nS v) = true then some [.Name x q, u, v] else none
    | _ => none
  | .lenSet => match e with
    | .Call (.Name x _) [.Call (.Name y _) [a] [] _] [] _ => if (decide (x = "len") && decide (y = "set") && biB Γ x && biB Γ y && nS a) = true then some [a] else none
    | _ => none
  | .getK => match e with
    | .Call (.Attribute (.Name x q) m ap) [u, v] [] cp => if (decide (m = "get") && (ap.endLine == cp.line) && nS u && nS v) = true then some [.Name x q, u, v] else none
    | _ => none
  | .ninK => match e with
    | .Compare a [op] [b] _ => if (decide (op = coOp .notin) && noMk .notin b) = true then some [a, b] else none
    | _ => none
  | .ninT => match e with
    | .Compare a [op] [b] _ => if (decide (op = coOp .notin) && noMk .notin b) = true then some [a, b] else none
    | _ => none
  | .idx => match e with
    | .Subscript a b _ => if plIx b = true then some [a, b] else none
    | _ => none
  | .rep => match e with
    | .BinOp a .Mult b _ => some [a, b]
    | _ => none
  | .count => match e with
    | .Call (.Attribute (.Name x q) m ap) [v] [] cp => if (decide (m = "count") && (ap.endLine == cp.line) && nS v) = true then some [.Name x q, v] else none
    | _ => none
  | .tup => match e with
    | .Tuple es _ _ => some es
    | _ => none
  | .lst => match e with
    | .List es _ => some es
    | _ => none
  | .isi ts => match ts with
    | [t] => isiOne Γ t e
    | _ => isiMany Γ ts e
  | .sl11 => match e with
    | .Subscript a (.Slice (some l) (some h) none _) _ => some [a, l, h]
    | _ => none
  | .sl10 => match e with
    | .Subscript a (.Slice (some l) none none _) _ => some [a, l]
    | _ => none
  | .sl01 => match e with
    | .Subscript a (.Slice none (some h) none _) _ => some [a, h]
    | _ => none
  | .rev => match e with
    | .Subscript a (.Slice none none (some (.UnaryOp .USub (.Constant (.int 1) _ _) _)) _) _ => some [a]
    | _ => none
  | p => match bName p with
    | some s => match e with
      | .Call (.Name x _) (a :: as) [] _ => if (decide (x = Str.ofString s) && biB Γ x) = true then some (a :: as) else none
      | _ => none
    | none => none
end R

namespace R
open PySem PySem.Spec PyProof.Rows L2
variable [W0]
def fgP : Prim → Fg
  | .add => .n | .lst => .n | .listOf => .n | .sl11 => .n | .sl10 => .n | .sl01 => .n | .rev => .n | .sorted1 => .n | .sortT => .n | .dictT => .n | .sortK => .n | .dictK => .n | .rep => .n
  | _ => .m
def fg : E → Fg
  | .own _ => .x
  | .prim p _ => fgP p
  | .comp _ _ _ _ _ => .n
  | .dcomp _ _ _ _ _ _ => .n
  | .disp _ _ => .n
  | _ => .m
def cleanE (c : E) : Bool := decide (fg c ≠ .x)
def cleanEs : Es → Bool
  | .nil => true
  | .cons c cs => cleanE c && cleanEs cs
def PEl (X : Cx) (C : Cxt) : Es → List Expr → Prop
  | .nil, [] => True
  | .cons c cs, e :: es => PE X e (tG X.K C (fg c) c) ∧ nS e = true ∧ PEl X C cs es
  | _, _ => False
section
variable {X : Cx} {C : Cxt}
theorem PEl.all : ∀ {cs : Es} {es : List Expr}, PEl X C cs es → es.all nS = true
  | .nil, [], _ => rfl
  | .cons c cs, e :: es, ⟨_, h, t⟩ => by rw [List.all_cons, h, PEl.all t]; rfl
  | .nil, _ :: _, h => h.elim
  | .cons _ _, [], h => h.elim
theorem PEl.ax : ∀ {cs : Es} {es : List Expr}, PEl X C cs es → PA X es (tAr X.K C .x cs)
  | .nil, [], _ => pa_wk pa_nil fun σ H Q ⟨F, ρ, cs, env, xs, cs', h1, h2, h3, k⟩ => by
    simp only [evEs] at h3
    cases h3
    exact k F ρ H [] (Fwd.refl h1) .nil
  | .cons c cs, e :: es, ⟨h, hn, t⟩ => pa_wk (pa_cons (tG_x h) (PEl.ax t) (star_cons hn)) fun σ H Q ⟨F, ρ, cs0, env, xs, cs', h1, h2, h3, k⟩ => by
    simp only [evEs] at h3
    obtain ⟨⟨x1, c1⟩, e1, h3⟩ := Res.of_bind h3
    obtain ⟨⟨ys, c2⟩, e2, h3⟩ := Res.of_bind h3
    cases h3
    refine ⟨F, ρ, cs0, env, x1, c1, h1, h2, e1, fun F1 ρ1 H1 v1 w1 r1 => ⟨F1, ρ1, c1, env, ys, _, w1.ok, w1.okV h2, e2, fun F2 ρ2 H2 vs w2 r2 => ?_⟩⟩
    exact k F2 ρ2 H2 _ (w1.trans w2) (.cons (w2.relX r1) r2)
  | .nil, _ :: _, h => h.elim
  | .cons _ _, [], h => h.elim
theorem PEl.am : ∀ {cs : Es} {es : List Expr}, cleanEs cs = true → PEl X C cs es → PA X es (tAr X.K C .m cs)
  | .nil, [], _, _ => pa_wk pa_nil fun σ H Q ⟨F, ρ, cs, env, xs, cs', h1, h2, h3, k⟩ => by
    simp only [evEs] at h3
    cases h3
    exact k F ρ H [] (Fwd.refl h1) .nil
  | .cons c cs, e :: es, hc, ⟨h, hn, t⟩ => pa_wk (pa_cons (tG_m h (by simp only [cleanEs, Bool.and_eq_true] at hc; exact of_decide_eq_true hc.1)) (PEl.am (by simp only [cleanEs, Bool.and_eq_true] at hc; exact hc.2) t) (star_cons hn)) fun σ H Q ⟨F, ρ, cs0, env, xs, cs', h1, h2, h3, k⟩ => by
    simp only [evEs] at h3
    obtain ⟨⟨x1, c1⟩, e1, h3⟩ := Res.of_bind h3
    obtain ⟨⟨ys, c2⟩, e2, h3⟩ := Res.of_bind h3
    cases h3
    refine ⟨F, ρ, cs0, env, x1, c1, h1, h2, e1, fun F1 ρ1 H1 v1 w1 r1 => ⟨F1, ρ1, c1, env, ys, _, w1.ok, w1.okV h2, e2, fun F2 ρ2 H2 vs w2 r2 => ?_⟩⟩
    exact k F2 ρ2 H2 _ (w1.trans w2) (.cons (w2.relM r1) r2)
  | .nil, _ :: _, _, h => h.elim
  | .cons _ _, [], _, h => h.elim
theorem PEl.two {cs : Es} {a b : Expr} (h : PEl X C cs [a, b]) : ∃ ca cb, cs = .cons ca (.cons cb .nil) ∧ PE X a (tG X.K C .x ca) ∧ PE X b (tG X.K C .x cb) := by
  cases cs with
  | nil => exact h.elim
  | cons ca cs =>
    obtain ⟨h1, _, h⟩ := h
    cases cs with
    | nil => exact h.elim
    | cons cb cs =>
      obtain ⟨h2, _, h⟩ := h
      cases cs with
      | nil => exact ⟨ca, cb, rfl, tG_x h1, tG_x h2⟩
      | cons _ _ => exact h.elim
theorem PEl.one {cs : Es} {a : Expr} (h : PEl X C cs [a]) : ∃ ca, cs = .cons ca .nil ∧ PE X a (tG X.K C .x ca) := by
  cases cs with
  | nil => exact h.elim
  | cons ca cs =>
    obtain ⟨h1, _, h⟩ := h
    cases cs with
    | nil => exact ⟨ca, rfl, tG_x h1⟩
    | cons _ _ => exact h.elim
theorem PEl.three {cs : Es} {a b c : Expr} (h : PEl X C cs [a, b, c]) : ∃ ca cb cc, cs = .cons ca (.cons cb (.cons cc .nil)) ∧ PE X a (tG X.K C .x ca) ∧ PE X b (tG X.K C .x cb) ∧ PE X c (tG X.K C .x cc) := by
  cases cs with
  | nil => exact h.elim
  | cons ca cs =>
    obtain ⟨h1, _, h⟩ := h
    obtain ⟨cb, cc, rfl, h2, h3⟩ := PEl.two h
    exact ⟨ca, cb, cc, rfl, tG_x h1, h2, h3⟩
end
/-! ### slices -/
section
variable {X : Cx} {C : Cxt} {ca cl ch : E}
theorem cutD_rel {K : PySem.W.Frag} {F : Hp} {vs : List V} {xs : List PyData} (h : DpAll K F vs xs) (lo hi : Option Int) : DpAll K F (cutV vs lo hi) (cutD xs lo hi) := by
  unfold cutV cutD
  rw [dpAll_len h]
  exact dpAll_take _ (dpAll_drop _ h)
abbrev rSl (K : PySem.W.Frag) : V → Option Int → Option Int → Hp → VK → Prop := fun x lo hi H Q => (fun x lo hi H Q => rSlL K x lo hi H Q ∨ rSlA K x lo hi H Q) x lo hi H Q ∨ rSlS x lo hi H Q
theorem sl_any : SlR X (rSl X.K) := SlR.or (SlR.or sl_list sl_tupA) sl_str
theorem o_sl {F : Hp} {ρ : List Addr} {cs : Cells} {H : Hp} {v : V} {x : PyData} {y : MV} {Q : VK} {lo hi : Option Int} (ok : OkC X.K F ρ cs H) (r : RelX X.K F ρ H v (.d x)) (h : sl3 x lo hi = .ok y)
    (k : ∀ F' H' v, Fwd X.K F ρ H F' ρ cs H' → RelG .n X.K F' ρ H H' v y → Q v H') : rSl X.K v lo hi H Q := by
  unfold sl3 at h
  split at h
  · cases h
    obtain ⟨p, vs, rfl, hs, ha⟩ := r.lst ok
    exact .inl (.inl ⟨p, vs, rfl, hs, give_lst ok (cutD_rel ha _ _) rfl k⟩)
  · rename_i xs
    cases h
    have hd := r.dtup
    obtain ⟨p, vs, rfl, hs, ha, _⟩ := r.tup ok
    refine .inl (.inr ⟨p, vs, rfl, hs, fun e => ?_, fun _ => give_tup ok (cutD_rel ha _ _) (by decide) k⟩)
    have e2 : cutD xs lo hi = xs := by
      unfold cutD
      rw [dpAll_len ha] at e
      rw [e.1, e.2]
      simp
    rw [e2] at k
    exact give (x := .d (.tuple xs)) ok hd (.inr rfl) (by decide) k
  · split at h
    · rename_i hz
      cases h
      exact .inr ⟨_, r.str, of_decide_eq_true hz, give_str ok (by decide) k⟩
    · cases h
  · cases h
theorem slice11 {σ : L2.St} {H : Hp} {Q : VK} (h : tG X.K C .n (.prim .sl11 (.cons ca (.cons cl (.cons ch .nil)))) σ H Q) : tSl (rSl X.K) (tG X.K C .x ca) (tPart (tG X.K C .x cl)) (tPart (tG X.K C .x ch)) σ H Q := by
  obtain ⟨F, ρ, cs, env, x, cs', h1, h2, h3, k⟩ := h
  obtain ⟨xs, h4, h5⟩ := evPrim h3
  simp only [evEs] at h4
  obtain ⟨⟨x1, c1⟩, e1, h4⟩ := Res.of_bind h4
  obtain ⟨⟨ys, c2⟩, h4', h4⟩ := Res.of_bind h4
  obtain ⟨⟨x2, c3⟩, e2, h4'⟩ := Res.of_bind h4'
  obtain ⟨⟨zs, c4⟩, h4'', h4'⟩ := Res.of_bind h4'
  obtain ⟨⟨x3, c5⟩, e3, h4''⟩ := Res.of_bind h4''
  cases h4''
  cases h4'
  cases h4
  simp only [primF] at h5
  split at h5
  · rename_i d a b e
    cases e
    refine ⟨F, ρ, cs, env, _, c1, h1, h2, e1, fun F1 ρ1 H1 v1 w1 r1 => ⟨F1, ρ1, c1, env, _, c3, w1.ok, w1.okV h2, e2, fun F2 ρ2 H2 v2 w2 r2 => ⟨_, r2.int, F2, ρ2, c3, env, _, _, w2.ok, (w1.trans w2).okV h2, e3, fun F3 ρ3 H3 v3 w3 r3 => ⟨_, r3.int, ?_⟩⟩⟩⟩
    have w := (w1.trans w2).trans w3
    exact o_sl w.ok (w3.relX (w2.relX r1)) h5 fun F' H' v w' r' => k F' ρ3 H' v (w.trans w') (r'.back fun a => w.dom)
  · cases h5
theorem slice10 {σ : L2.St} {H : Hp} {Q : VK} (h : tG X.K C .n (.prim .sl10 (.cons ca (.cons cl .nil))) σ H Q) : tSl (rSl X.K) (tG X.K C .x ca) (tPart (tG X.K C .x cl)) tNoPart σ H Q := by
  obtain ⟨F, ρ, cs, env, x, cs', h1, h2, h3, k⟩ := h
  obtain ⟨xs, h4, h5⟩ := evPrim h3
  obtain ⟨x1, c1, x2, e1, e2, rfl⟩ := evEs2 h4
  simp only [primF] at h5
  split at h5
  · rename_i d a e
    cases e
    refine ⟨F, ρ, cs, env, _, c1, h1, h2, e1, fun F1 ρ1 H1 v1 w1 r1 => ⟨F1, ρ1, c1, env, _, _, w1.ok, w1.okV h2, e2, fun F2 ρ2 H2 v2 w2 r2 => ⟨_, r2.int, ?_⟩⟩⟩
    have w := w1.trans w2
    exact o_sl w.ok (w2.relX r1) h5 fun F' H' v w' r' => k F' ρ2 H' v (w.trans w') (r'.back fun a => w.dom)
  · cases h5
theorem slice01 {σ : L2.St} {H : Hp} {Q : VK} (h : tG X.K C .n (.prim .sl01 (.cons ca (.cons cl .nil))) σ H Q) : tSl (rSl X.K) (tG X.K C .x ca) tNoPart (tPart (tG X.K C .x cl)) σ H Q := by
  obtain ⟨F, ρ, cs, env, x, cs', h1, h2, h3, k⟩ := h
  obtain ⟨xs, h4, h5⟩ := evPrim h3
  obtain ⟨x1, c1, x2, e1, e2, rfl⟩ := evEs2 h4
  simp only [primF] at h5
  split at h5
  · rename_i d a e
    cases e
    refine ⟨F, ρ, cs, env, _, c1, h1, h2, e1, fun F1 ρ1 H1 v1 w1 r1 => ⟨F1, ρ1, c1, env, _, _, w1.ok, w1.okV h2, e2, fun F2 ρ2 H2 v2 w2 r2 => ⟨_, r2.int, ?_⟩⟩⟩
    have w := w1.trans w2
    exact o_sl w.ok (w2.relX r1) h5 fun F' H' v w' r' => k F' ρ2 H' v (w.trans w') (r'.back fun a => w.dom)
  · cases h5
theorem revL {σ : L2.St} {H : Hp} {Q : VK} (h : tG X.K C .n (.prim .rev (.cons ca .nil)) σ H Q) : tRevA X.K (tG X.K C .x ca) σ H Q := by
  obtain ⟨F, ρ, cs, env, x, cs', h1, h2, h3, k⟩ := h
  obtain ⟨xs, h4, h5⟩ := evPrim h3
  obtain ⟨x1, e1, rfl⟩ := evEs1 h4
  simp only [primF] at h5
  split at h5
  · rename_i d e
    cases e
    cases h5
    refine ⟨F, ρ, cs, env, _, _, h1, h2, e1, fun F1 ρ1 H1 v1 w r1 => ?_⟩
    obtain ⟨p, vs, rfl, hs, ha⟩ := r1.lst w.ok
    exact ⟨p, vs, rfl, .inl ⟨hs, give_lst w.ok (dpAll_rev ha) rfl fun F' H' v w' r' => k F' ρ1 H' v (w.trans w') (r'.back fun a => w.dom)⟩⟩
  · rename_i d e
    cases e
    split at h5
    · cases h5
      refine ⟨F, ρ, cs, env, _, _, h1, h2, e1, fun F1 ρ1 H1 v1 w r1 => ?_⟩
      obtain ⟨p, vs, rfl, hs, ha, _⟩ := r1.tup w.ok
      exact ⟨p, vs, rfl, .inr ⟨hs, give_tup w.ok (dpAll_rev ha) (by decide) fun F' H' v w' r' => k F' ρ1 H' v (w.trans w') (r'.back fun a => w.dom)⟩⟩
    · cases h5
  · cases h5
/-! ### isinstance -/
def tyNm : PyData → String
  | .none => "NoneType" | .bool _ => "bool" | .int _ => "int" | .str _ => "str" | .list _ => "list" | .tuple _ => "tuple" | .dict _ => "dict"
theorem tyx {F : Hp} {ρ : List Addr} {cs : Cells} {H : Hp} {v : V} {x : PyData} (ok : OkC X.K F ρ cs H) (r : RelX X.K F ρ H v (.d x)) : TyX X.K H v (.type (tyNm x)) := by
  cases x with
  | none => rw [r.non]; exact .base .non
  | bool b => rw [r.bl]; exact .base (.bl b)
  | int b => rw [r.int]; exact .base (.int b)
  | str b => rw [r.str]; exact .base (.str b)
  | list xs =>
    obtain ⟨p, vs, rfl, hs, ha⟩ := r.lst ok
    rcases hs with (h | ⟨o, h⟩) | ⟨o, its, n, h1, h2, _⟩
    · exact .base (.lst h)
    · exact .base (.frz h)
    · exact .kList h1 h2
  | tuple xs =>
    obtain ⟨p, vs, rfl, hs, ha, _⟩ := r.tup ok
    rcases hs with (h | ⟨o, h⟩) | ⟨o, its, n, h1, h2, _⟩
    · exact .base (.tup h)
    · exact .fTuple h
    · exact .kTuple h1 h2
  | dict _ => cases r.dp ok
theorem kit1 {K : PySem.W.Frag} (t : TY) (x : PyData) (hx : ∀ y, x ≠ .dict y) : PySem.W.kitOne K (.type (tyNm x)) (.type (tyS t)) = some (tyHas t x) := by
  have go : ∀ y, tyNm x = tyNm y → tyHas t x = tyHas t y → PySem.W.kitOne K (.type (tyNm y)) (.type (tyS t)) = some (tyHas t y) → PySem.W.kitOne K (.type (tyNm x)) (.type (tyS t)) = some (tyHas t x) := fun y e1 e2 e3 => by rw [e1, e2]; exact e3
  cases x with
  | none => cases t <;> exact kit_ty (by decide +kernel)
  | bool b => exact go (.bool true) rfl (by cases t <;> rfl) (by cases t <;> exact kit_ty (by decide +kernel))
  | int b => exact go (.int 0) rfl (by cases t <;> rfl) (by cases t <;> exact kit_ty (by decide +kernel))
  | str b => exact go (.str "") rfl (by cases t <;> rfl) (by cases t <;> exact kit_ty (by decide +kernel))
  | list b => exact go (.list []) rfl (by cases t <;> rfl) (by cases t <;> exact kit_ty (by decide +kernel))
  | tuple b => exact go (.tuple []) rfl (by cases t <;> rfl) (by cases t <;> exact kit_ty (by decide +kernel))
  | dict b => exact absurd rfl (hx b)
end
end R

namespace R
open PySem PySem.Spec PyProof.Rows L2
variable [W0]
section
variable {X : Cx} {C : Cxt} {Γ : Gam} {n : Nat}
theorem boot_ty (t : TY) : bootBuiltins (Str.ofString (tyS t)) = some (.type (tyS t)) := by cases t <;> decide +kernel
theorem kitAny1 {K : PySem.W.Frag} (x : PyData) (hx : ∀ y, x ≠ .dict y) : ∀ ts : List TY, PySem.W.kitAny K (.type (tyNm x)) (ts.map fun t => Value.type (tyS t)) = some (isiD ts x)
  | [] => rfl
  | t :: ts => by
    have h := kit1 (K := K) t x hx
    have ih := kitAny1 (K := K) x hx ts
    have e : isiD (t :: ts) x = (tyHas t x || isiD ts x) := rfl
    rw [e]
    cases q : tyHas t x with
    | true => rw [q] at h; exact kitAny_cons h (fun z => by cases z) (fun _ => rfl)
    | false => rw [q] at h; exact kitAny_cons h (fun _ => by rw [ih]; rfl) (fun z => by cases z)
def tTys (ts : List TY) : TA := fun _ H Q => Q (ts.map fun t => V.ty (tyS t)) H
theorem pe_ty (G : Good Γ C n X) {x : Str} {pos : Pos} (t : TY) (hx : x = Str.ofString (tyS t)) (hb : biB Γ x = true) : PE X (.Name x pos) (tC (.ty (tyS t))) := by
  obtain ⟨h1, h2, h3, h4⟩ := G.blt hb
  exact pe_bltn h1 h2 (by rw [hx]; exact boot_ty t) rfl h4 h3
theorem pa_tys (G : Good Γ C n X) : ∀ {ts : List TY} {es : List Expr}, tysB Γ ts es = true → es.all nS = true → PA X es (tTys ts)
  | [], [], _, _ => pa_wk pa_nil fun _ _ _ h => h
  | t :: ts, e :: es, h, hn => by
    cases e with
    | Name x pos =>
      have h : (decide (x = (Str.ofString (tyS t))) && biB Γ x && tysB Γ ts es) = true := h
      simp only [Bool.and_eq_true, decide_eq_true_eq] at h
      rw [List.all_cons, Bool.and_eq_true] at hn
      exact pa_wk (pa_cons (pe_ty G t h.1.1 h.1.2) (pa_tys G h.2 hn.2) (star_cons hn.1)) fun _ _ _ h => h
    | _ => exact absurd (show false = true from h) Bool.false_ne_true
  | [], _ :: _, h, _ => absurd (show false = true from h) Bool.false_ne_true
  | _ :: _, [], h, _ => absurd (show false = true from h) Bool.false_ne_true
theorem clsV_all : ∀ ts : List TY, Paired ClsV (ts.map fun t => V.ty (tyS t)) (ts.map fun t => Value.type (tyS t))
  | [] => .nil
  | t :: ts => .cons (.ty _) (clsV_all ts)
theorem isi1 (t : TY) {ca : E} {σ : L2.St} {H : Hp} {Q : VK} (h : tG X.K C .m (.prim (.isi [t]) (.cons ca .nil)) σ H Q) : tCB (rIsi X.K) (tCons (tG X.K C .x ca) (tCons (tC (.ty (tyS t))) tNil)) σ H Q := by
  obtain ⟨F, ρ, cs, env, x, cs', h1, h2, h3, k⟩ := h
  obtain ⟨xs, h4, h5⟩ := evPrim h3
  obtain ⟨x1, e1, rfl⟩ := evEs1 h4
  simp only [primF] at h5
  split at h5
  · rename_i d e
    cases e
    cases h5
    refine ⟨F, ρ, cs, env, _, _, h1, h2, e1, fun F1 ρ1 H1 v1 w r1 => ?_⟩
    have hx : ∀ y, d ≠ .dict y := fun y z => by subst z; cases r1.dp w.ok
    have hk := kit1 (K := X.K) t d hx
    have e2 : isiD [t] d = tyHas t d := by simp [isiD]
    refine ⟨v1, _, _, _, tyHas t d, rfl, .ty _, tyx w.ok r1, hk, ?_⟩
    rw [← e2]
    exact give_bl w.ok (g := .m) (by decide) fun F' H' v w' r' => k F' ρ1 H' v (w.trans w') (r'.back fun a => w.dom)
  · cases h5
theorem isiT (ts : List TY) (hl : ts.length ≤ 10) {ca : E} {σ : L2.St} {H : Hp} {Q : VK} (h : tG X.K C .m (.prim (.isi ts) (.cons ca .nil)) σ H Q) : tCB (rIsiT X.K) (tCons (tG X.K C .x ca) (tCons (tTup (tTys ts)) tNil)) σ H Q := by
  obtain ⟨F, ρ, cs, env, x, cs', h1, h2, h3, k⟩ := h
  obtain ⟨xs, h4, h5⟩ := evPrim h3
  obtain ⟨x1, e1, rfl⟩ := evEs1 h4
  simp only [primF] at h5
  split at h5
  · rename_i d e
    cases e
    cases h5
    refine ⟨F, ρ, cs, env, _, _, h1, h2, e1, fun F1 ρ1 H1 v1 w r1 => ⟨?_, fun p hp => ?_⟩⟩
    · rw [List.length_map]; exact Nat.le_trans hl (by decide)
    have w2 := Fwd.fresh w.ok (.tup (ts.map fun t => V.ty (tyS t))) hp
    have r2 := w2.relX r1
    have hx : ∀ y, d ≠ .dict y := fun y z => by subst z; cases r1.dp w.ok
    refine ⟨v1, p, _, _, _, isiD ts d, rfl, upd_same, clsV_all ts, tyx w2.ok r2, kitAny1 d hx ts, ?_⟩
    have w3 := w.trans w2
    exact give_bl w2.ok (g := .m) (by decide) fun F' H' v w' r' => k F' ρ1 H' v (w3.trans w') (r'.back fun a => w3.dom)
  · cases h5
/-! ### l.count(x) -/
def rCountD (K : PySem.W.Frag) : V → List V → Hp → VK → Prop := fun x xs H Q => ∃ (a : Addr) (y : V) (d : PyData) (ds : List PyData), x = V.ref a ∧ xs = [y] ∧ Dp K H (V.ref a) (.list ds) ∧ Dp K H y d ∧
  SeqAt.shaped (.list ds) = true ∧ SeqAt.shaped d = true ∧ Q (.int (ds.countP fun z => PyData.eqv z d : Nat)) H
theorem mt_countD (hu : X.A.units + 65 < cLine) : MtR X "list.count" (rCountD X.K) := by
  intro pins s σ H x xs v us Q I rx rxs h
  obtain ⟨a, y, d, ds, rfl, rfl, hl, hy, sl, sd, q⟩ := h
  cases rx
  cases rxs with
  | cons ry rt =>
    rename_i uy ut
    cases rt
    obtain ⟨bs, r1⟩ := Dp.reads I d y uy hy ry
    have hxs : PyData.canLayAll0 ds = true := SeqAt.canLay_of_shaped sl
    have hroom : X.A.units + 1 + min (PyData.depthAll ds) d.depth < cLine := room_in_shaped sd hu
    cases hl with
    | lst hs ha =>
      obtain ⟨its, rv, ⟨⟨cls, dd, data, sls⟩, n, ho, hc, hdn, hdt⟩, hlen⟩ := I.list hs
      simp only at hc hdt
      subst hc hdt
      obtain ⟨as, h4⟩ := Dp.readsAll I ds _ its ha rv
      have hmap : its.map (SeqAt.readOf s.heap) = ds := SeqAt.readsAll_map ds its as hxs h4
      have hcnt : (its.toArray.toList.countP fun u => PyData.eqv (SeqAt.readOf s.heap u) d) = ds.countP fun z => PyData.eqv z d := by
        rw [← hmap, List.countP_map]
        rfl
      refine call_meets PySem.F.slot_list_count ⟨_, ho, rfl⟩ PySem.F.entry_list_count (PySem.F.args_list_count_2 _ _)
        (SeqAt.list_countAt a its.toArray n dd sls uy (fun u => PyData.eqv (SeqAt.readOf s.heap u) d)) ⟨ho, SeqAt.items_eqAt (vs := its.toArray) (show ReadsAll s.heap its.toArray.toList ds as from h4) r1 hxs (SeqAt.canLay_of_shaped sd) hroom, ?_⟩
      rw [hcnt]
      exact ⟨.int (ds.countP fun z => PyData.eqv z d : Nat), H, I.tok _, ⟨_, rfl⟩, q⟩
theorem bools_rel {K : PySem.W.Frag} {F : Hp} : ∀ {xs : List PyData} {vs : List V} {bs : List Bool}, DpAll K F vs xs → boolsD xs = some bs → vs = bs.map V.bl
  | [], _, _, r, h => by
    cases h
    cases r
    rfl
  | x :: xs, _, _, r, h => by
    cases x with
    | bool b =>
      simp only [boolsD, Option.map_eq_some_iff] at h
      obtain ⟨cs, h1, rfl⟩ := h
      cases r with
      | cons a t =>
        cases a
        rw [bools_rel t h1]
        rfl
    | _ => cases h
theorem o_all1 : OpA X .m .all1 (rAll X.K) := by
  intro F ρ cs H vs xs x Q ok r h k
  simp only [primF] at h
  split at h
  · split at h
    · rename_i bs hb
      cases h
      obtain ⟨v, rfl, r1⟩ := relXs1 r
      obtain ⟨p, ws, rfl, hs, ha⟩ := r1.lst ok
      rw [bools_rel ha hb] at hs
      exact ⟨p, bs, rfl, hs, give_bl ok (by decide) k⟩
    · cases h
  · cases h
theorem cntL {ca cb : E} {σ : L2.St} {H : Hp} {Q : VK} (h : tG X.K C .m (.prim .count (.cons ca (.cons cb .nil))) σ H Q) : tBM X.K "list" (rCountD X.K) (tG X.K C .x ca) (tCons (tG X.K C .x cb) tNil) σ H Q := by
  obtain ⟨F, ρ, cs, env, x, cs', h1, h2, h3, k⟩ := h
  obtain ⟨xs, h4, h5⟩ := evPrim h3
  obtain ⟨x1, c1, x2, e1, e2, rfl⟩ := evEs2 h4
  simp only [primF] at h5
  split at h5
  · rename_i ds d e
    cases e
    split at h5
    · rename_i hc
      cases h5
      rw [Bool.and_eq_true] at hc
      refine ⟨F, ρ, cs, env, _, c1, h1, h2, e1, fun F1 ρ1 H1 v1 w1 r1 => ⟨?_, F1, ρ1, c1, env, _, _, w1.ok, w1.okV h2, e2, fun F2 ρ2 H2 v2 w2 r2 => ?_⟩⟩
      · obtain ⟨p, vs, rfl, hs, ha⟩ := RelX.lst w1.ok r1
        exact .inl ⟨rfl, vs, hs⟩
      · have w := w1.trans w2
        have r1' := w2.relX r1
        obtain ⟨p, vs, rfl, hs, ha⟩ := r1'.lst w.ok
        exact ⟨p, v2, d, ds, rfl, rfl, r1'.dp w.ok, RelX.dp w.ok r2, hc.1, hc.2, give_int w.ok (g := .m) (by decide) fun F' H' v w' r' => k F' ρ2 H' v (w.trans w') (r'.back fun a => w.dom)⟩
    · cases h5
  · cases h5
/-- the same expression, its tuple as data -/
theorem dnL {ca : E} {σ : L2.St} {H : Hp} {Q : VK} (h : tG X.K C .m (.prim .dn (.cons ca .nil)) σ H Q) : tG X.K C .x ca σ H Q := by
  obtain ⟨F, ρ, cs, env, x, cs', h1, h2, h3, k⟩ := h
  obtain ⟨xs, h4, h5⟩ := evPrim h3
  obtain ⟨x1, e1, rfl⟩ := evEs1 h4
  simp only [primF] at h5
  split at h5
  · rename_i d e
    cases e
    cases h5
    refine ⟨F, ρ, cs, env, _, _, h1, h2, e1, fun F1 ρ1 H1 v1 w r1 => ?_⟩
    rcases r1 with ⟨a, o, vs, rfl, hF, _, ha⟩ | r1
    · exact k F1 ρ1 H1 _ w (Dp.tup (.inl (.inr ⟨o, hF⟩)) ha)
    · exact r1.elim
  · cases h5
theorem getL {ca cb cc : E} {σ : L2.St} {H : Hp} {Q : VK} (hb : fg cb ≠ .x) (hc : fg cc ≠ .x) (h : tG X.K C .m (.prim .getT (.cons ca (.cons cb (.cons cc .nil)))) σ H Q) : tDM (rGetT X.K) (tG X.K C .x ca) (tCons (tG X.K C .m cb) (tCons (tG X.K C .m cc) tNil)) σ H Q := by
  obtain ⟨F, ρ, cs, env, x, cs', h1, h2, h3, k⟩ := h
  obtain ⟨xs, h4, h5⟩ := evPrim h3
  simp only [evEs] at h4
  obtain ⟨⟨x1, c1⟩, e1, h4⟩ := Res.of_bind h4
  obtain ⟨⟨ys, c2⟩, h4', h4⟩ := Res.of_bind h4
  obtain ⟨⟨x2, c3⟩, e2, h4'⟩ := Res.of_bind h4'
  obtain ⟨⟨zs, c4⟩, h4'', h4'⟩ := Res.of_bind h4'
  obtain ⟨⟨x3, c5⟩, e3, h4''⟩ := Res.of_bind h4''
  cases h4''
  cases h4'
  cases h4
  simp only [primF] at h5
  split at h5
  · rename_i kvs kd d e
    cases e
    split at h5
    · rename_i hk
      cases h5
      obtain ⟨n, hn⟩ := Option.isSome_iff_exists.mp hk
      refine ⟨F, ρ, cs, env, _, c1, h1, h2, e1, fun F1 ρ1 H1 v1 w1 r1 => ⟨?_, F1, ρ1, c1, env, _, c3, w1.ok, w1.okV h2, e2, fun F2 ρ2 H2 v2 w2 r2 => ⟨F2, ρ2, c3, env, _, _, w2.ok, (w1.trans w2).okV h2, e3, fun F3 ρ3 H3 v3 w3 r3 => ?_⟩⟩⟩
      · obtain ⟨a, zs, rfl, hH, _⟩ := RelX.tdict w1.ok r1
        exact ⟨a, zs, rfl, hH⟩
      · have w := (w1.trans w2).trans w3
        have r1 := (w2.trans w3).relX r1
        obtain ⟨a, zs, rfl, hH, tr⟩ := r1.tdict w.ok
        have r2 : Dp X.K F3 v2 kd := w3.relM (x := .d kd) r2
        have r3 : Dp X.K F3 v3 d := r3
        obtain ⟨z, j, rfl, _⟩ := nkD_of hn
        cases r2 with
        | @tup b ws _ hq ha =>
          have r2 : Dp X.K F3 (.ref b) (.tuple [.str z, .int j]) := .tup hq ha
          have e : (atKey zs n).isSome = (lookT kvs (.tuple [.str z, .int j])).isSome := by rw [look_any, tr_any tr, hn]
          refine ⟨a, zs, b, _, n, v3, rfl, rfl, hH, dp_mono w.ok.sub _ _ r2, hn, tr_all w.ok.sub tr, fun p hp => ?_, fun hp => ?_⟩
          · rw [hp] at e
            obtain ⟨u, hu⟩ := Option.isSome_iff_exists.mp e.symm
            obtain ⟨q, y, g1, g2, g3⟩ := tr_look hn tr hu
            rw [hp] at g1
            cases g1
            refine ⟨y, g2, k F3 ρ3 H3 y w ?_⟩
            rw [hu]
            exact g3
          · rw [hp] at e
            have hu : lookT kvs (.tuple [.str z, .int j]) = none := by
              cases q : lookT kvs (.tuple [.str z, .int j]) with
              | none => rfl
              | some _ => rw [q] at e; cases e
            refine k F3 ρ3 H3 v3 w ?_
            rw [hu]
            exact r3
    · cases h5
  · cases h5
theorem strs_rel : ∀ {xs : List PyData} {vs : List V} {ks : List Str}, DpAll X.K F vs xs → strsD xs = some ks → vs = ks.map V.str
  | [], _, _, r, h => by
    cases h
    cases r
    rfl
  | x :: xs, _, _, r, h => by
    cases x with
    | str b =>
      simp only [strsD, Option.map_eq_some_iff] at h
      obtain ⟨cs, h1, rfl⟩ := h
      cases r with
      | cons a t =>
        cases a
        rw [strs_rel t h1]
        rfl
    | _ => cases h
/-- len(set(xs)), xs a tuple of texts, each another -/
def tLenSetN (K : PySem.W.Frag) (ta : TE) : TE := fun σ H Q => ta σ H fun x H1 => ∃ (l : Addr) (ks : List Str), x = .ref l ∧ SqT K H1 l (ks.map V.str) ∧ ks.length ≤ 60 ∧ ks.Nodup ∧ Q (.int ks.length) H1
theorem pe_lenSetN {a : Expr} {ta : TE} {p p2 q pos : Pos} (hc : X.calm = true) (hg : Gl X "len") (hm : X.mg "len" = none) (hg2 : Gl X "set") (hm2 : X.mg "set" = none) (ha : PE X a ta)
    (na : starEach [a] X.env = (false, eval a X.env) :: starEach [] X.env) : PE X (.Call (.Name "len" p) [.Call (.Name "set" p2) [a] [] q] [] pos) (tLenSetN X.K ta) := by
  refine ⟨fun pins s σ H Q I h => ?_⟩
  refine PyProof.Rows.Call_ (ld_blt I hg hm boot_len ?_)
  refine PyProof.Rows.callWith_builtin1 (PyProof.Rows.args_cons ?_ rfl) rfl rfl
  refine PyProof.Rows.Call_ (ld_blt I hg2 hm2 boot_set ?_)
  refine PyProof.Rows.callWith_type1 (PyProof.Rows.args_cons (thn (ha.run pins s σ H _ I h) fun v s1 ⟨x, H1, I1, r1, q1⟩ => PyProof.Rows.args_nil ?_) na) na rfl
  obtain ⟨l, ks, rfl, hq, h1, hnd, q1⟩ := q1
  cases r1
  obtain ⟨its, r, pl, hz⟩ := I1.tuple hq
  refine call_set_tupN ks (I1.ok.hd hc) pl (by simpa using strsAre_of r) (by omega) hnd fun h' tk hS hk => ?_
  refine PyProof.Rows.args_nil ?_
  obtain ⟨o, es, ep, t, ho, hex, hd, _, _, _, hf, hn⟩ := hS
  have I2 : Inv X pins σ H1 { s1 with heap := h', toks := tk } := I1.kept hk
  exact call_len_set ho hex hd hf (by rw [hn] <;> omega) ⟨.int ks.length, H1, I2.tok _, ⟨_, by rw [hn]⟩, q1⟩
theorem lenSetL {ca : E} {σ : L2.St} {H : Hp} {Q : VK} (h : tG X.K C .m (.prim .lenSet (.cons ca .nil)) σ H Q) : tLenSetN X.K (tG X.K C .x ca) σ H Q := by
  obtain ⟨F, ρ, cs, env, x, cs', h1, h2, h3, k⟩ := h
  obtain ⟨xs, h4, h5⟩ := evPrim h3
  obtain ⟨x1, e1, rfl⟩ := evEs1 h4
  simp only [primF] at h5
  split at h5
  · rename_i d e
    cases e
    split at h5
    · rename_i ks hk
      split at h5
      · rename_i hz
        cases h5
        refine ⟨F, ρ, cs, env, _, _, h1, h2, e1, fun F1 ρ1 H1 v1 w r1 => ?_⟩
        obtain ⟨p, vs, rfl, hs, ha, _⟩ := r1.tup w.ok
        rw [strs_rel ha hk] at hs
        exact ⟨p, ks, rfl, hs, hz.1, hz.2, give_int w.ok (g := .m) (by decide) fun F' H' v w' r' => k F' ρ1 H' v (w.trans w') (r'.back fun a => w.dom)⟩
      · cases h5
    · cases h5
  · cases h5
theorem getLK {ca cb cc : E} {σ : L2.St} {H : Hp} {Q : VK} (hb : fg cb ≠ .x) (hc : fg cc ≠ .x) (h : tG X.K C .m (.prim .getK (.cons ca (.cons cb (.cons cc .nil)))) σ H Q) : tDGet2 (tG X.K C .x ca) (tG X.K C .m cb) (tG X.K C .m cc) σ H Q := by
  obtain ⟨F, ρ, cs, env, x, cs', h1, h2, h3, k⟩ := h
  obtain ⟨xs, h4, h5⟩ := evPrim h3
  simp only [evEs] at h4
  obtain ⟨⟨x1, c1⟩, e1, h4⟩ := Res.of_bind h4
  obtain ⟨⟨ys, c2⟩, h4', h4⟩ := Res.of_bind h4
  obtain ⟨⟨x2, c3⟩, e2, h4'⟩ := Res.of_bind h4'
  obtain ⟨⟨zs, c4⟩, h4'', h4'⟩ := Res.of_bind h4'
  obtain ⟨⟨x3, c5⟩, e3, h4''⟩ := Res.of_bind h4''
  cases h4''
  cases h4'
  cases h4
  simp only [primF] at h5
  split at h5
  · rename_i kvs kd d e
    cases e
    split at h5
    · rename_i kk hk
      cases h5
      refine ⟨F, ρ, cs, env, _, c1, h1, h2, e1, fun F1 ρ1 H1 v1 w1 r1 => ?_⟩
      obtain ⟨a, zs, rfl, hH0, _⟩ := RelX.kdict w1.ok r1
      refine ⟨a, rfl, .inl ⟨zs, .inl hH0⟩, F1, ρ1, c1, env, _, c3, w1.ok, w1.okV h2, e2, fun F2 ρ2 H2 v2 w2 r2 => ⟨F2, ρ2, c3, env, _, _, w2.ok, (w1.trans w2).okV h2, e3, fun F3 ρ3 H3 v3 w3 r3 => ?_⟩⟩
      have w := (w1.trans w2).trans w3
      have r1 := (w2.trans w3).relX r1
      obtain ⟨a2, zs2, ea, hH, kr⟩ := r1.kdict w.ok
      cases ea
      have r2 : Dp X.K F3 v2 kd := w3.relM (x := .d kd) r2
      have r3 : Dp X.K F3 v3 d := r3
      have ek := key_dp r2 hk
      refine ⟨_, .inl ⟨zs2, kk, .inl hH, ek, rfl⟩, ?_⟩
      rcases kr_look (k := kk) kr with ⟨g1, g2⟩ | ⟨v, y, g1, g2, g3⟩
      · rw [g1]
        refine k F3 ρ3 H3 v3 w ?_
        rw [g2]
        exact r3
      · rw [g1]
        refine k F3 ρ3 H3 v w ?_
        rw [g2]
        exact g3
    · cases h5
  · cases h5
theorem pe_blt (G : Good Γ C n X) {p : Prim} {g : Fg} {id s : String} {r : List V → Hp → VK → Prop} {e : Expr} {as : List Expr} {ces : Es} (hc : CallR X (.builtin id) r) (ho : OpA X g p r) (hb : bootBuiltins (Str.ofString s) = some (.builtin id)) (hn : bName p = some s)
    (hp : (match e with | .Call (.Name x _) (a :: as) [] _ => if (decide (x = Str.ofString s) && biB Γ x) = true then some (a :: as) else none | _ => none) = some as) (hl : PEl X C ces as) : PE X e (tG X.K C g (.prim p ces)) := by
  split at hp
  · rename_i x px a as' pos
    split at hp
    · rename_i hx
      cases hp
      simp only [Bool.and_eq_true, decide_eq_true_eq] at hx
      obtain ⟨h1, h2, h3, h4⟩ := G.blt hx.2
      have hs := hl.all
      rw [List.all_cons, Bool.and_eq_true] at hs
      exact pe_wk (pe_callB hc h1 h2 (by rw [hx.1]; exact hb) hl.ax h4 h3 (star_cons hs.1) (star_none _ hs.2)) fun _ _ _ h => lots ho h
    · cases hp
  · cases hp
theorem pe_tyc (G : Good Γ C n X) {p : Prim} {g : Fg} {id s : String} {r : List V → Hp → VK → Prop} {e : Expr} {as : List Expr} {ces : Es} (hc : CallR X (.type id) r) (ho : OpA X g p r) (hb : bootBuiltins (Str.ofString s) = some (.type id)) (hn : bName p = some s)
    (hp : (match e with | .Call (.Name x _) (a :: as) [] _ => if (decide (x = Str.ofString s) && biB Γ x) = true then some (a :: as) else none | _ => none) = some as) (hl : PEl X C ces as) : PE X e (tG X.K C g (.prim p ces)) := by
  split at hp
  · rename_i x px a as' pos
    split at hp
    · rename_i hx
      cases hp
      simp only [Bool.and_eq_true, decide_eq_true_eq] at hx
      obtain ⟨h1, h2, h3, h4⟩ := G.blt hx.2
      have hs := hl.all
      rw [List.all_cons, Bool.and_eq_true] at hs
      exact pe_wk (pe_callTy hc h1 h2 (by rw [hx.1]; exact hb) hl.ax h4 h3 (star_cons hs.1) (star_none _ hs.2)) fun _ _ _ h => lots ho h
    · cases hp
  · cases hp
/-- which primitives want data for good -/
def needM : Prim → Bool
  | .getK => true
  | .getT => true
  | .tup => true
  | .lst => true
  | _ => false
theorem pe_prim (G : Good Γ C n X) {p : Prim} {e : Expr} {as : List Expr} {ces : Es} (hp : partsP Γ p e = some as) (hl : PEl X C ces as) (hm : needM p = true → cleanEs ces = true) : PE X e (tG X.K C (fgP p) (.prim p ces)) := by
  have hun := G.room.un
  cases p with
  | add =>
    simp only [partsP] at hp
    split at hp
    · cases hp
      obtain ⟨ca, cb, rfl, ha, hb⟩ := hl.two
      exact pe_wk (pe_op (OpR.or op_add (OpR.or op_catS (OpR.or op_add_str op_catA))) ha hb) fun _ _ _ h => two o_add h
    · cases hp
  | sub =>
    simp only [partsP] at hp
    split at hp
    · cases hp
      obtain ⟨ca, cb, rfl, ha, hb⟩ := hl.two
      exact pe_wk (pe_op op_sub ha hb) fun _ _ _ h => two o_sub h
    · cases hp
  | mul =>
    simp only [partsP] at hp
    split at hp
    · cases hp
      obtain ⟨ca, cb, rfl, ha, hb⟩ := hl.two
      exact pe_wk (pe_op op_mul ha hb) fun _ _ _ h => two o_mul h
    · cases hp
  | rep =>
    simp only [partsP] at hp
    split at hp
    · cases hp
      obtain ⟨ca, cb, rfl, ha, hb⟩ := hl.two
      exact pe_wk (pe_op op_repS ha hb) fun _ _ _ h => two o_rep h
    · cases hp
  | count =>
    simp only [partsP] at hp
    split at hp
    · split at hp
      · rename_i hx
        cases hp
        simp only [Bool.and_eq_true, decide_eq_true_eq] at hx
        obtain ⟨⟨rfl, hx2⟩, hx3⟩ := hx
        obtain ⟨ca, cb, rfl, ha, hb⟩ := hl.two
        refine pe_wk (pe_bm PySem.F.plainAttrs_list PySem.F.slot_list_count PySem.F.type_list_count (mt_countD (by omega)) ha (pa_cons hb pa_nil (star_cons hx3)) rfl ?_ hx2 (star_cons hx3) rfl) fun _ _ _ h => cntL h
        rw [star_cons hx3]
        rfl
      · cases hp
    · cases hp
  | fdiv =>
    simp only [partsP] at hp
    split at hp
    · cases hp
      obtain ⟨ca, cb, rfl, ha, hb⟩ := hl.two
      exact pe_wk (pe_op op_fdivW ha hb) fun _ _ _ h => two o_fdiv h
    · cases hp
  | mod =>
    simp only [partsP] at hp
    split at hp
    · cases hp
      obtain ⟨ca, cb, rfl, ha, hb⟩ := hl.two
      exact pe_wk (pe_op op_mod ha hb) fun _ _ _ h => two o_mod h
    · cases hp
  | pow =>
    simp only [partsP] at hp
    split at hp
    · cases hp
      obtain ⟨ca, cb, rfl, ha, hb⟩ := hl.two
      exact pe_wk (pe_op op_pow ha hb) fun _ _ _ h => two o_pow h
    · cases hp
  | neg =>
    simp only [partsP] at hp
    split at hp
    · cases hp
      obtain ⟨ca, rfl, ha⟩ := hl.one
      exact pe_wk (pe_un un_neg ha) fun _ _ _ h => one o_neg h
    · cases hp
  | cmp o =>
    simp only [partsP] at hp
    split at hp
    · split at hp
      · rename_i hx
        cases hp
        simp only [Bool.and_eq_true, decide_eq_true_eq] at hx
        obtain ⟨rfl, hx⟩ := hx
        obtain ⟨ca, cb, rfl, ha, hb⟩ := hl.two
        exact pe_wk (pe_cmpR (opr_co G.room o) ha hb (noMk_of hx)) fun _ _ _ h => two (o_cmp o) h
      · cases hp
    · cases hp
  | idx =>
    simp only [partsP] at hp
    split at hp
    · split at hp
      · rename_i hx
        cases hp
        obtain ⟨ca, cb, rfl, ha, hb⟩ := hl.two
        exact pe_wk (pe_ix (IxR.or ix_list (IxR.or ix_tup ix_str)) ha hb (plIx_of hx)) fun _ _ _ h => two o_idx h
      · cases hp
    · cases hp
  | tup =>
    simp only [partsP] at hp
    split at hp
    · cases hp
      exact pe_wk (pe_tup (hl.am (hm rfl))) fun _ _ _ h => d_tup h
    · cases hp
  | lst =>
    simp only [partsP] at hp
    split at hp
    · cases hp
      exact pe_wk (pe_lst (hl.am (hm rfl))) fun _ _ _ h => d_lst h
    · cases hp
  | ninT =>
    simp only [partsP] at hp
    split at hp
    · split at hp
      · rename_i hx
        cases hp
        simp only [Bool.and_eq_true, decide_eq_true_eq] at hx
        obtain ⟨rfl, hx⟩ := hx
        obtain ⟨ca, cb, rfl, ha, hb⟩ := hl.two
        exact pe_wk (pe_cmpR (op_ninT G.wd (by omega)) ha hb (noMk_of hx)) fun _ _ _ h => two o_ninT h
      · cases hp
    · cases hp
  | tupleP => exact pe_tyc G call_tupP o_tupP (boot_ty .tuple) rfl hp hl
  | dn =>
    simp only [partsP] at hp
    split at hp
    · cases hp
      obtain ⟨ca, rfl, ha⟩ := hl.one
      exact pe_wk ha fun _ _ _ h => dnL h
    · cases hp
  | getT =>
    simp only [partsP] at hp
    split at hp
    · split at hp
      · rename_i hx
        cases hp
        simp only [Bool.and_eq_true, decide_eq_true_eq] at hx
        obtain ⟨⟨⟨rfl, hx2⟩, hx3⟩, hx4⟩ := hx
        have hcl := hm rfl
        cases ces with
        | nil => exact hl.elim
        | cons ca ces =>
          obtain ⟨ha, _, hl⟩ := hl
          cases ces with
          | nil => exact hl.elim
          | cons cb ces =>
            obtain ⟨hb, _, hl⟩ := hl
            cases ces with
            | nil => exact hl.elim
            | cons cc ces =>
              obtain ⟨hc, _, hl⟩ := hl
              cases ces with
              | cons _ _ => exact hl.elim
              | nil =>
                simp only [cleanEs, cleanE, Bool.and_eq_true, decide_eq_true_eq] at hcl
                refine pe_wk (pe_dm PySem.F.plainAttrs_dict PySem.F.slot_dict_get PySem.F.type_dict_get (mt_getT G.wd (by omega)) (tG_x ha) (pa_cons (tG_m hb hcl.2.1) (pa_cons (tG_m hc hcl.2.2.1) pa_nil (star_cons hx4)) (star_cons hx3)) rfl ?_ hx2 (star_cons hx3) (by rw [star_cons hx4]; rfl)) fun _ _ _ h => getL hcl.2.1 hcl.2.2.1 h
                rw [star_cons hx3, star_cons hx4]
                rfl
      · cases hp
    · cases hp
  | getK =>
    simp only [partsP] at hp
    split at hp
    · split at hp
      · rename_i hx
        cases hp
        simp only [Bool.and_eq_true, decide_eq_true_eq] at hx
        obtain ⟨⟨⟨rfl, hx2⟩, hx3⟩, hx4⟩ := hx
        have hcl := hm rfl
        cases ces with
        | nil => exact hl.elim
        | cons ca ces =>
          obtain ⟨ha, _, hl⟩ := hl
          cases ces with
          | nil => exact hl.elim
          | cons cb ces =>
            obtain ⟨hb, _, hl⟩ := hl
            cases ces with
            | nil => exact hl.elim
            | cons cc ces =>
              obtain ⟨hc, _, hl⟩ := hl
              cases ces with
              | cons _ _ => exact hl.elim
              | nil =>
                simp only [cleanEs, cleanE, Bool.and_eq_true, decide_eq_true_eq] at hcl
                refine pe_wk (pe_dget2 (by omega) (tG_x ha) (tG_m hb hcl.2.1) (tG_m hc hcl.2.2.1) ⟨rfl, ?_, hx2, ?_⟩) fun _ _ _ h => getLK hcl.2.1 hcl.2.2.1 h
                · rw [star_cons hx3, star_cons hx4]
                  rfl
                · rw [star_cons hx3, star_cons hx4]
                  rfl
      · cases hp
    · cases hp
  | ninK =>
    simp only [partsP] at hp
    split at hp
    · split at hp
      · rename_i hx
        cases hp
        simp only [Bool.and_eq_true, decide_eq_true_eq] at hx
        obtain ⟨rfl, hx⟩ := hx
        obtain ⟨ca, cb, rfl, ha, hb⟩ := hl.two
        exact pe_wk (pe_cmpR (op_ninK (by omega)) ha hb (noMk_of hx)) fun _ _ _ h => two o_ninK h
      · cases hp
    · cases hp
  | dictK => exact pe_tyc G (call_dictP G.calm) o_dictK (boot_ty .dict) rfl hp hl
  | sortK => exact pe_blt G (call_sortedD G.calm) o_sortK PyProof.Rows.boot_sorted rfl hp hl
  | sum1 => exact pe_blt G (cr_sum G.calm) o_sum1 PyProof.Rows.boot_sum rfl hp hl
  | lenSet =>
    simp only [partsP] at hp
    split at hp
    · split at hp
      · rename_i hx
        cases hp
        simp only [Bool.and_eq_true, decide_eq_true_eq] at hx
        obtain ⟨⟨⟨⟨rfl, rfl⟩, h1⟩, h2⟩, h3⟩ := hx
        obtain ⟨a1, a2, _, _⟩ := G.blt h1
        obtain ⟨b1, b2, _, _⟩ := G.blt h2
        obtain ⟨ca, rfl, ha⟩ := hl.one
        exact pe_wk (pe_lenSetN G.calm a1 a2 b1 b2 ha (star_cons h3)) fun _ _ _ h => lenSetL h
      · cases hp
    · cases hp
  | dictT => exact pe_tyc G (call_dictT G.calm G.wd (by omega)) o_dictT (boot_ty .dict) rfl hp hl
  | sortT => exact pe_blt G (call_sortT G.calm (by omega)) o_sortT PyProof.Rows.boot_sorted rfl hp hl
  | all1 => exact pe_blt G (cr_all G.calm) o_all1 PyProof.Rows.boot_all rfl hp hl
  | len => exact pe_blt G call_len o_len PySem.boot_len rfl hp hl
  | listOf => exact pe_tyc G call_list_of o_listOf (boot_ty .list) rfl hp hl
  | tupleOf => exact pe_tyc G call_tuple_of o_tupleOf (boot_ty .tuple) rfl hp hl
  | abs => exact pe_blt G call_abs o_abs PyProof.Rows.boot_abs rfl hp hl
  | max2 => exact pe_blt G (call_max2 G.calm) o_max2 PyProof.Rows.boot_max rfl hp hl
  | min2 => exact pe_blt G (call_min2 G.calm) o_min2 PyProof.Rows.boot_min rfl hp hl
  | sorted1 => exact pe_blt G (call_sorted1 (by have := G.room.un; omega)) o_sorted1 PyProof.Rows.boot_sorted rfl hp hl
  | max4 => exact pe_blt G (call_max4 G.calm) o_max4 PyProof.Rows.boot_max rfl hp hl
  | int1 => exact pe_tyc G call_int1 o_int1 (boot_ty .int) rfl hp hl
  | isi ts =>
    have many : isiMany Γ ts e = some as → PE X e (tG X.K C .m (.prim (.isi ts) ces)) := fun hp => by
      unfold isiMany at hp
      split at hp
      · split at hp
        · rename_i hx
          cases hp
          simp only [Bool.and_eq_true, decide_eq_true_eq] at hx
          obtain ⟨⟨⟨⟨rfl, hb⟩, ht⟩, hns⟩, hlen⟩ := hx
          obtain ⟨h1, h2, h3, h4⟩ := G.blt hb
          obtain ⟨ca, rfl, ha⟩ := hl.one
          have hs := hl.all
          rw [List.all_cons, Bool.and_eq_true] at hs
          exact pe_wk (pe_callB call_isiT h1 h2 PyProof.Rows.boot_isinstance (pa_cons ha (pa_cons (pe_tup (pa_tys G ht hns)) pa_nil rfl) (star_cons hs.1)) h4 h3 (star_cons hs.1) rfl) fun _ _ _ h => isiT ts hlen h
        · cases hp
      · cases hp
    simp only [partsP] at hp
    split at hp
    · unfold isiOne at hp
      split at hp
      · split at hp
        · rename_i hx
          cases hp
          simp only [Bool.and_eq_true, decide_eq_true_eq] at hx
          obtain ⟨⟨⟨rfl, hb⟩, hy⟩, hb2⟩ := hx
          obtain ⟨h1, h2, h3, h4⟩ := G.blt hb
          obtain ⟨ca, rfl, ha⟩ := hl.one
          have hs := hl.all
          rw [List.all_cons, Bool.and_eq_true] at hs
          exact pe_wk (pe_callB call_isi h1 h2 PyProof.Rows.boot_isinstance (pa_cons ha (pa_cons (pe_ty G _ hy hb2) pa_nil rfl) (star_cons hs.1)) h4 h3 (star_cons hs.1) rfl) fun _ _ _ h => isi1 _ h
        · cases hp
      · cases hp
    · exact many hp
  | sl11 =>
    simp only [partsP] at hp
    split at hp
    · cases hp
      obtain ⟨ca, cb, cc, rfl, ha, hb, hc⟩ := hl.three
      exact pe_wk (pe_slice sl_any ha (po_some hb) (po_some hc)) fun _ _ _ h => slice11 h
    · cases hp
  | sl10 =>
    simp only [partsP] at hp
    split at hp
    · cases hp
      obtain ⟨ca, cb, rfl, ha, hb⟩ := hl.two
      exact pe_wk (pe_slice sl_any ha (po_some hb) po_none) fun _ _ _ h => slice10 h
    · cases hp
  | sl01 =>
    simp only [partsP] at hp
    split at hp
    · cases hp
      obtain ⟨ca, cb, rfl, ha, hb⟩ := hl.two
      exact pe_wk (pe_slice sl_any ha po_none (po_some hb)) fun _ _ _ h => slice01 h
    · cases hp
  | rev =>
    simp only [partsP] at hp
    split at hp
    · cases hp
      obtain ⟨ca, rfl, ha⟩ := hl.one
      exact pe_wk (pe_revA ha) fun _ _ _ h => revL h
    · cases hp
end
end R

namespace R
open PySem PySem.Spec PyProof.Rows L2
variable [W0]
/-! ### the check -/
def konB : Kon → Const → Bool
  | .non, .none => true
  | .bl a, .bool b => decide (a = b)
  | .int a, .int b => decide (a = b)
  | .str a, .str b => decide (a = b)
  | _, _ => false
def boolTail (op : BoolOp) (y : Expr) (rest : List Expr) (pos : Pos) : Expr :=
  match rest with
  | [] => y
  | z :: zs => .BoolOp op (y :: z :: zs) pos
def notSet : Expr → Bool
  | .Set _ _ _ => false
  | _ => true
def tgsB (Γ : Gam) : List Nat → List Expr → Bool
  | [], [] => true
  | i :: is, .Name x _ :: es => locB Γ i x && tgsB Γ is es
  | _, _ => false
def chkTG (Γ : Gam) (t : TG) (e : Expr) : Bool :=
  match t with
  | .n i => match e with
    | .Name x _ => locB Γ i x
    | _ => false
  | .t is => match e with
    | .Tuple es _ _ => tgsB Γ is es
    | _ => false
def Gam.inner (Γ : Gam) (scope : Scope) : Gam := { Γ with sc := relS scope Γ.sc, top := false }
def isTup : Expr → Bool
  | .Tuple _ _ _ => true
  | _ => false
def notIf : Expr → Bool
  | .IfExp _ _ _ _ => false
  | _ => true
def oneB : List Expr → Bool
  | [] => true
  | [_] => true
  | _ => false
def dctB : List (Str × Kon) → List (Option Expr) → List Expr → Bool
  | [], [], [] => true
  | p :: r, some (.Constant (.str z) _ _) :: ks, .Constant d _ _ :: vs => decide (z = p.1) && konB p.2 d && dctB r ks vs
  | _, _, _ => false
def tgIn (t : TG) (vs : List Nat) : Bool :=
  match t with
  | .n i => decide (i ∈ vs)
  | .t is => decide (∀ i ∈ is, i ∈ vs)
mutual
def chkE : E → Gam → Expr → Bool
  | .var i, Γ, e => match e with
    | .Name x _ => visB Γ i x
    | _ => false
  | .own i, Γ, e => match e with
    | .Name x _ => visB Γ i x
    | _ => false
  | .k c, _, e => match e with
    | .Constant d _ _ => konB c d
    | _ => false
  | .glob g, Γ, e => match e with
    | .Name x _ => glB Γ x && decide (Γ.gls[g]? = some x)
    | _ => false
  | .prim p es, Γ, e => match partsP Γ p e with
    | some as => chkEs es Γ as && (!needM p || cleanEs es)
    | none => false
  | .and a b, Γ, e => match e with
    | .BoolOp .And (x :: y :: rest) pos => chkE a Γ x && chkE b Γ (boolTail .And y rest pos) && cleanE a && cleanE b && notIf x && notIf (boolTail .And y rest pos)
    | _ => false
  | .or a b, Γ, e => match e with
    | .BoolOp .Or (x :: y :: rest) pos => chkE a Γ x && chkE b Γ (boolTail .Or y rest pos) && cleanE a && cleanE b && notIf x && notIf (boolTail .Or y rest pos)
    | _ => false
  | .not a, Γ, e => match e with
    | .UnaryOp .Not x _ => chkE a Γ x && notIf x
    | _ => false
  | .ite t a b, Γ, e => match e with
    | .IfExp t' a' b' _ => chkE t Γ t' && chkE a Γ a' && chkE b Γ b' && cleanE a && cleanE b && notIf t'
    | _ => false
  | .chain o o' a b c, Γ, e => match e with
    | .Compare x [op, op'] [y, z] _ => decide (op = coOp o) && decide (op' = coOp o') && noMk o' z && chkE a Γ x && chkE b Γ y && chkE c Γ z
    | _ => false
  | .call f es, Γ, e => match e with
    | .Call (.Name x _) (a :: as) [] _ => glB Γ x && decide (Γ.fns[f]? = some (some x)) && chkEs es Γ (a :: as) && cleanEs es
    | _ => false
  | .dct kvs, _, e => match e with
    | .Dict ks vs _ => dctB kvs ks vs && decide (kvs.map (·.1)).Nodup && decide (0 < kvs.length ∧ kvs.length ≤ 15)
    | _ => false
  | .dix a i, Γ, e => match e with
    | .Subscript x y _ => plIx y && chkE a Γ x && chkE i Γ y
    | _ => false
  | .gdk g a, Γ, e => match e with
    | .Subscript (.Name x _) y _ => glB Γ x && decide (Γ.gls[g]? = some x) && plIx y && chkE a Γ y
    | _ => false
  | .callK j es kes, Γ, e => match e with
    | .Call (.Name x _) as kws _ => match Γ.kws[j]? with
      | some fo => glB Γ x && decide (x = fo.x) && decide (as.length = fo.n) && decide (kws.map (·.arg) = fo.ks.map some) && chkEs es Γ as && cleanEs es && chkEs kes Γ (kws.map (·.value)) && cleanEs kes
      | none => false
    | _ => false
  | .cidx a i, Γ, e => match e with
    | .Subscript x y _ => plIx y && chkE a Γ x && chkE i Γ y
    | _ => false
  | .comp vs tg src cnd elt, Γ, e => match e with
    | .ListComp e [⟨t, it, ifs, 0⟩] scope _ => blkC Γ.N Γ.sc scope vs && chkSR src Γ t it && notSet it && chkTG (Γ.inner scope) tg t && chkEs cnd (Γ.inner scope) ifs && oneB ifs && ifs.all (fun e => notIf e) && tgIn tg (vs.map (·.2)) && chkE elt (Γ.inner scope) e && cleanE elt
    | _ => false
  | .dcomp vs tg src cnd ke ve, Γ, e => match e with
    | .DictComp k v [⟨t, it, ifs, 0⟩] scope _ => blkC Γ.N Γ.sc scope vs && chkSR src Γ t it && notSet it && chkTG (Γ.inner scope) tg t && chkEs cnd (Γ.inner scope) ifs && oneB ifs && ifs.all (fun e => notIf e) && tgIn tg (vs.map (·.2)) && chkE ke (Γ.inner scope) k && cleanE ke && chkE ve (Γ.inner scope) v && cleanE ve
    | _ => false
  | .disp ke ve, Γ, e => match e with
    | .Dict [some k] [v] _ => chkE ke Γ k && cleanE ke && chkE ve Γ v && cleanE ve
    | _ => false
def chkEs : Es → Gam → List Expr → Bool
  | .nil, _, es => match es with
    | [] => true
    | _ => false
  | .cons c cs, Γ, es => match es with
    | e :: es => chkE c Γ e && nS e && chkEs cs Γ es
    | [] => false
def chkSR : SR → Gam → Expr → Expr → Bool
  | .seq c, Γ, _, e => chkE c Γ e
  | .rng a, Γ, _, e => match e with
    | .Call (.Name x _) [y] [] _ => decide (x = "range") && biB Γ x && nS y && chkE a Γ y
    | _ => false
  | .rng2 a b, Γ, _, e => match e with
    | .Call (.Name x _) [y, z] [] _ => decide (x = "range") && biB Γ x && nS y && nS z && chkE a Γ y && chkE b Γ z
    | _ => false
  | .enum a, Γ, t, e => match e with
    | .Call (.Name x _) [y] [] _ => decide (x = "enumerate") && biB Γ x && nS y && isTup t && chkE a Γ y
    | _ => false
  | .zip a b, Γ, t, e => match e with
    | .Call (.Name x _) [y, z] [] _ => decide (x = "zip") && biB Γ x && nS y && nS z && isTup t && chkE a Γ y && chkE b Γ z
    | _ => false
end
/-! ### tests -/
section
variable {X : Cx} {C : Cxt} {Γ : Gam} {n : Nat}
theorem truV_of {K : PySem.W.Frag} {F H : Hp} {ρ : List Addr} {cs : Cells} {v : V} {x : MV} {b : Bool} (r : RelX K F ρ H v x) (h : truth x = .ok b) : TruV K v H b := by
  cases x with
  | d y =>
    cases y with
    | bool c => cases h; rw [r.bl]; rfl
    | int c => cases h; rw [r.int]; rfl
    | none => cases h; rw [r.non]; rfl
    | _ => cases h
  | _ => cases h
theorem pt_of {e : Expr} {c : E} (h : PE X e (tG X.K C .x c)) (he : ∀ whole, isTrue e X.env whole = (do let v ← whole; standAt e.pos; holding [v] (truthy v))) : PT X e (tTst X.K C c) :=
  pt_wk (pt_truth h he) fun σ H Q ⟨F, ρ, cs, env, x, cs', b, h1, h2, h3, h4, k⟩ => ⟨F, ρ, cs, env, x, cs', h1, h2, h3, fun F' ρ' H' v w r => ⟨b, truV_of (cs := cs') r h4, k F' ρ' H' w⟩⟩
/-- a test by its value's truth -/
def plT : Expr → Bool
  | .UnaryOp .Not _ _ => false
  | .BoolOp _ _ _ => false
  | .IfExp _ _ _ _ => false
  | .Compare _ _ _ _ => false
  | _ => true
theorem plT_of {e : Expr} {env : PySem.Env} (h : plT e = true) : ∀ whole, isTrue e env whole = (do let v ← whole; standAt e.pos; holding [v] (truthy v)) := by
  intro whole
  cases e with
  | UnaryOp op a p => cases op <;> first
    | exact absurd (show false = true from h) Bool.false_ne_true
    | rfl
  | BoolOp _ _ _ => exact absurd (show false = true from h) Bool.false_ne_true
  | IfExp _ _ _ _ => exact absurd (show false = true from h) Bool.false_ne_true
  | Compare _ _ _ _ => exact absurd (show false = true from h) Bool.false_ne_true
  | _ => rfl
def isBO : Expr → Bool
  | .BoolOp _ _ _ => true
  | _ => false
/-- all that is shown of an expression -/
structure OkE (X : Cx) (C : Cxt) (c : E) (e : Expr) : Prop where
  pe : PE X e (tG X.K C (fg c) c)
  pt : notIf e = true → PT X e (tTst X.K C c)
  pw : isBO e = true → PW X e (tTst X.K C c)
theorem OkE.plain {c : E} {e : Expr} (h : PE X e (tG X.K C (fg c) c)) (hp : plT e = true) : OkE X C c e := by
  refine ⟨h, fun _ => pt_of (tG_x h) (plT_of hp), fun z => ?_⟩
  cases e <;> first
    | exact absurd (show false = true from z) Bool.false_ne_true
    | exact absurd (show false = true from hp) Bool.false_ne_true
theorem truth_bool {x : MV} {b : Bool} (h : truth x = .ok b) (hb : ∃ c, x = .d (.bool c)) : x = .d (.bool b) := by
  obtain ⟨c, rfl⟩ := hb
  cases h
  rfl
theorem cmp_bool {o : CO} {xs : List MV} {x : MV} (h : primF (.cmp o) xs = .ok x) : ∃ c, x = .d (.bool c) := by
  simp only [primF] at h
  split at h
  · obtain ⟨c, h1, h2⟩ := Res.of_bind h
    cases h2
    exact ⟨c, rfl⟩
  · cases h
/-- a test that is a comparison -/
theorem pt_cmpE (G : Good Γ C n X) {o : CO} {ca cb : E} {a b : Expr} {pos : Pos} (ha : PE X a (tG X.K C .x ca)) (hb : PE X b (tG X.K C .x cb)) (hm : noMk o b = true) : PT X (.Compare a [coOp o] [b] pos) (tTst X.K C (.prim (.cmp o) (.cons ca (.cons cb .nil)))) :=
  pt_wk (pt_cmpR (opr_co G.room o) ha hb (noMk_of hm)) fun σ H Q ⟨F, ρ, cs, env, x, cs', b, h1, h2, h3, h4, k⟩ => by
    refine two (X := X) (g := .m) (o_cmp o) ⟨F, ρ, cs, env, x, cs', h1, h2, h3, fun F' ρ' H' v w r => ?_⟩
    obtain ⟨xs, _, h5⟩ := evPrim h3
    have e := truth_bool h4 (cmp_bool h5)
    subst e
    have r : Dp X.K F' v (.bool b) := r
    cases r
    exact ⟨b, rfl, k F' ρ' H' w⟩
theorem nin_bool {xs : List MV} {x : MV} (h : primF .ninT xs = .ok x) : ∃ c, x = .d (.bool c) := by
  simp only [primF] at h
  split at h
  · split at h
    · cases h
      exact ⟨_, rfl⟩
    · cases h
  · cases h
theorem pt_ninE (G : Good Γ C n X) {ca cb : E} {a b : Expr} {pos : Pos} (ha : PE X a (tG X.K C .x ca)) (hb : PE X b (tG X.K C .x cb)) (hm : noMk .notin b = true) : PT X (.Compare a [coOp .notin] [b] pos) (tTst X.K C (.prim .ninT (.cons ca (.cons cb .nil)))) :=
  pt_wk (pt_cmpR (op_ninT G.wd (by have := G.room.un; omega)) ha hb (noMk_of hm)) fun σ H Q ⟨F, ρ, cs, env, x, cs', b, h1, h2, h3, h4, k⟩ => by
    refine two (X := X) (g := .m) o_ninT ⟨F, ρ, cs, env, x, cs', h1, h2, h3, fun F' ρ' H' v w r => ?_⟩
    obtain ⟨xs, _, h5⟩ := evPrim h3
    have e := truth_bool h4 (nin_bool h5)
    subst e
    have r : Dp X.K F' v (.bool b) := r
    cases r
    exact ⟨b, rfl, k F' ρ' H' w⟩
theorem ninK_bool {xs : List MV} {x : MV} (h : primF .ninK xs = .ok x) : ∃ c, x = .d (.bool c) := by
  simp only [primF] at h
  split at h
  · split at h
    · cases h
      exact ⟨_, rfl⟩
    · cases h
  · cases h
theorem pt_ninKE (G : Good Γ C n X) {ca cb : E} {a b : Expr} {pos : Pos} (ha : PE X a (tG X.K C .x ca)) (hb : PE X b (tG X.K C .x cb)) (hm : noMk .notin b = true) : PT X (.Compare a [coOp .notin] [b] pos) (tTst X.K C (.prim .ninK (.cons ca (.cons cb .nil)))) :=
  pt_wk (pt_cmpR (op_ninK (by have := G.room.un; omega)) ha hb (noMk_of hm)) fun σ H Q ⟨F, ρ, cs, env, x, cs', b, h1, h2, h3, h4, k⟩ => by
    refine two (X := X) (g := .m) o_ninK ⟨F, ρ, cs, env, x, cs', h1, h2, h3, fun F' ρ' H' v w r => ?_⟩
    obtain ⟨xs, _, h5⟩ := evPrim h3
    have e := truth_bool h4 (ninK_bool h5)
    subst e
    have r : Dp X.K F' v (.bool b) := r
    cases r
    exact ⟨b, rfl, k F' ρ' H' w⟩
end
end R

namespace R
open PySem PySem.Spec PyProof.Rows L2
variable [W0]
/-! ### what is walked -/
def ItOk (g : Bool) (K : PySem.W.Frag) (F1 : Hp) (ρ1 : List Addr) (H1 : Hp) (J : It) (xs : List PyData) : Prop :=
  ∀ F2 ρ2 cs2 H2, OkC K F2 ρ2 cs2 H2 → Same F1 F2 → (g = true → ∀ a o, H1 a = some o → a ∉ ρ1 → H2 a = some o) → ∀ i : Nat,
    (xs[i]? = none → J.stop i H2) ∧ ∀ x, xs[i]? = some x → J.go i H2 ∧ ∀ v H3, J.yld i H2 v H3 → ∃ F3, Fwd K F2 ρ2 H2 F3 ρ2 cs2 H3 ∧ Dp K F3 v x
def tI (K : PySem.W.Frag) (C : Cxt) (g : Bool) (src : SR) : TI := fun σ H R => ∃ F ρ cs env xs cs', OkC K F ρ cs H ∧ OkV K F ρ env σ H ∧ evSR C src env cs = .ok (xs, cs') ∧
  ∀ F' ρ' H' J, Fwd K F ρ H F' ρ' cs' H' → ItOk g K F' ρ' H' J xs → R J H'
def cleanSR : SR → Bool
  | .seq e => cleanE e
  | .rng _ => true
  | .rng2 _ _ => true
  | .zip a b => cleanE a && cleanE b
  | .enum a => cleanE a
section
variable {X : Cx} {C : Cxt} {Γ : Gam} {n : Nat}
theorem pi_wk {tg e : Expr} {t t' : TI} (h : PI X tg e t) (w : ∀ σ H R, t' σ H R → t σ H R) : PI X tg e t' := ⟨fun pins s σ H R I q => h.run pins s σ H R I (w σ H R q)⟩
def iSeq (K : PySem.W.Frag) (tl : TE) : TI := fun σ H R => tl σ H fun x H1 => (∃ a, x = .ref a ∧ (∃ xs, SqL K H1 a xs) ∧ R (Itl K a) H1) ∨ (∃ a, x = .ref a ∧ (∃ xs, SqT K H1 a xs) ∧ R (Itt K a) H1) ∨ ∃ z, x = .str z ∧ R (Its z) H1
theorem pi_seq {tg l : Expr} {tl : TE} (hl : PE X l tl) : PI X tg l (iSeq X.K tl) := by
  refine ⟨fun pins s σ H R I h => ?_⟩
  refine thn (hl.run pins s σ H _ I h) fun v s1 ⟨x, H1, I1, r1, q1⟩ => ?_
  rcases q1 with ⟨a, e, ⟨xs, hq⟩, q⟩ | ⟨a, e, ⟨xs, hq⟩, q⟩ | ⟨z, ex, q⟩
  · subst e
    cases r1
    obtain ⟨its, rv, p, hz⟩ := I1.list hq
    refine wpAny_pyIter_list p.isList ?_
    refine ⟨s1.heap.objs.size, [s1.heap.objs.size], _, _, H1, rfl, I1.kept (t' := s1.toks) fun b o e => Heap.get?_push_of_some _ e, turn_list a _, ⟨_, Heap.get?_push_size _ rfl, rfl, rfl⟩, fun b hb => ?_, q⟩
    have e : b = s1.heap.objs.size := by simpa using hb
    subst e
    exact I1.fpOk (Nat.le_refl _) (I1.hok.fresh (Nat.le_refl _))
  · subst e
    cases r1
    obtain ⟨its, rv, p, hz⟩ := I1.tuple hq
    refine wpAny_pyIter_tuple (show s1.heap.IsTuple a its.toArray from p) ?_
    refine ⟨s1.heap.objs.size, [s1.heap.objs.size], _, _, H1, rfl, I1.kept (t' := s1.toks) fun b o e => Heap.get?_push_of_some _ e, turn_tuple a _, ⟨_, Heap.get?_push_size _ rfl, rfl, rfl⟩, fun b hb => ?_, q⟩
    have e : b = s1.heap.objs.size := by simpa using hb
    subst e
    exact I1.fpOk (Nat.le_refl _) (I1.hok.fresh (Nat.le_refl _))
  · subst ex
    obtain ⟨t, rfl⟩ := r1
    cases ha : z.cps.all (· < 128)
    · exact wpAny_pyIter_wide ha (pi_one (tk := s1.toks) I1 _ (turn_str _ z t "str_iterator" (.inr rfl)) ⟨_, Heap.get?_push_size _ rfl, rfl, rfl⟩ q)
    · exact wpAny_pyIter_ascii ha (pi_one (tk := s1.toks) I1 _ (turn_str _ z t "str_ascii_iterator" (.inl rfl)) ⟨_, Heap.get?_push_size _ rfl, rfl, rfl⟩ q)
variable {K : PySem.W.Frag} {F F1 H H1 : Hp} {ρ ρ1 : List Addr} {cs cs1 : Cells} {g : Bool}
/-- the source's list, live -/
theorem live_lst {v : V} {xs : List PyData} (ok : OkC K F1 ρ1 cs1 H1) (r : RelX K F1 ρ1 H1 v (.d (.list xs))) (hg : g = true ∨ RelM K F1 ρ1 v (.d (.list xs))) : ∃ a vs, v = .ref a ∧ SqL K H1 a vs ∧ DpAll K F1 vs xs ∧
    ∀ F2 ρ2 cs2 H2, OkC K F2 ρ2 cs2 H2 → Same F1 F2 → (g = true → ∀ a o, H1 a = some o → a ∉ ρ1 → H2 a = some o) → SqL K H2 a vs := by
  have frz : RelM K F1 ρ1 v (.d (.list xs)) → ∃ a vs, v = .ref a ∧ SqL K H1 a vs ∧ DpAll K F1 vs xs ∧
    ∀ F2 ρ2 cs2 H2, OkC K F2 ρ2 cs2 H2 → Same F1 F2 → (g = true → ∀ a o, H1 a = some o → a ∉ ρ1 → H2 a = some o) → SqL K H2 a vs := fun r => by
    have r : Dp K F1 v (.list xs) := r
    cases r with
    | lst hs ha => exact ⟨_, _, rfl, sqL_mono ok.sub hs, ha, fun F2 ρ2 cs2 H2 o2 s _ => sqL_mono (s.trans o2.sub) hs⟩
  rcases r with r | r
  · exact frz r
  · rcases hg with hg | hg
    · obtain ⟨p, vs, e, f, q, n⟩ := r
      exact ⟨p, vs, e, SqL.of f, q, fun F2 ρ2 cs2 H2 o2 s k => SqL.of (k hg p _ f n)⟩
    · exact frz hg
theorem live_tup {v : V} {xs : List PyData} (ok : OkC K F1 ρ1 cs1 H1) (r : RelX K F1 ρ1 H1 v (.d (.tuple xs))) : ∃ a vs, v = .ref a ∧ SqT K H1 a vs ∧ DpAll K F1 vs xs ∧
    ∀ F2 ρ2 cs2 H2, OkC K F2 ρ2 cs2 H2 → Same F1 F2 → SqT K H2 a vs := by
  have r := r.dtup
  cases r with
  | tup hs ha => exact ⟨_, _, rfl, sqT_mono ok.sub hs, ha, fun F2 ρ2 cs2 H2 o2 s => sqT_mono (s.trans o2.sub) hs⟩
theorem none_len {α β : Type} {xs : List α} {ys : List β} (h : xs.length = ys.length) {i : Nat} (e : ys[i]? = none) : xs.length ≤ i := by
  rw [h]; exact List.getElem?_eq_none_iff.mp e
theorem it_list {a : Addr} {vs : List V} {xs : List PyData} (ha : DpAll K F1 vs xs) (hl : ∀ F2 ρ2 cs2 H2, OkC K F2 ρ2 cs2 H2 → Same F1 F2 → (g = true → ∀ a o, H1 a = some o → a ∉ ρ1 → H2 a = some o) → SqL K H2 a vs) : ItOk g K F1 ρ1 H1 (Itl K a) xs := by
  intro F2 ρ2 cs2 H2 ok s k i
  have h := hl F2 ρ2 cs2 H2 ok s k
  refine ⟨fun e => ⟨vs, h, none_len (dpAll_len ha) e⟩, fun x e => ?_⟩
  obtain ⟨v, h1, h2⟩ := dpAll_get ha e
  refine ⟨⟨vs, v, h, h1⟩, fun w H3 y => ?_⟩
  obtain ⟨rfl, y⟩ := y
  have e2 := y vs h
  rw [h1] at e2
  cases e2
  exact ⟨F2, Fwd.refl ok, dp_mono s _ _ h2⟩
theorem it_tup {a : Addr} {vs : List V} {xs : List PyData} (ha : DpAll K F1 vs xs) (hl : ∀ F2 ρ2 cs2 H2, OkC K F2 ρ2 cs2 H2 → Same F1 F2 → SqT K H2 a vs) : ItOk g K F1 ρ1 H1 (Itt K a) xs := by
  intro F2 ρ2 cs2 H2 ok s k i
  have h := hl F2 ρ2 cs2 H2 ok s
  refine ⟨fun e => ⟨vs, h, none_len (dpAll_len ha) e⟩, fun x e => ?_⟩
  obtain ⟨v, h1, h2⟩ := dpAll_get ha e
  refine ⟨⟨vs, v, h, h1⟩, fun w H3 y => ?_⟩
  obtain ⟨rfl, y⟩ := y
  have e2 := y vs h
  rw [h1] at e2
  cases e2
  exact ⟨F2, Fwd.refl ok, dp_mono s _ _ h2⟩
theorem it_str {z : Str} : ItOk g K F1 ρ1 H1 (Its z) (z.cps.toList.map fun c => PyData.str ⟨#[c]⟩) := by
  intro F2 ρ2 cs2 H2 ok s k i
  refine ⟨fun e => ?_, fun x e => ?_⟩
  · rw [List.getElem?_map] at e
    have : z.cps.toList[i]? = none := by
      cases q : z.cps.toList[i]? with
      | none => rfl
      | some c => rw [q] at e; cases e
    have := List.getElem?_eq_none_iff.mp this
    show z.cps.size ≤ i
    simpa using this
  · rw [List.getElem?_map] at e
    cases q : z.cps.toList[i]? with
    | none => rw [q] at e; cases e
    | some c =>
      rw [q] at e
      cases e
      have hi : i < z.cps.toList.length := (List.getElem?_eq_some_iff.mp q).1
      refine ⟨show i < z.cps.size by simpa using hi, fun v H3 y => ?_⟩
      obtain ⟨rfl, c', h1, rfl⟩ := y
      have e2 : z.cps.toList[i]? = some c' := by simpa using h1
      rw [q] at e2
      cases e2
      exact ⟨F2, Fwd.refl ok, .str _⟩
theorem rngL_len : ∀ (lo : Int) (n : Nat), (rngL lo n).length = n
  | _, 0 => rfl
  | lo, n + 1 => by simp only [rngL, List.length_cons, rngL_len (lo + 1) n]
theorem rngL_get : ∀ (n : Nat) (lo : Int) (i : Nat), i < n → (rngL lo n)[i]? = some (.int (lo + i))
  | 0, _, _, h => absurd h (Nat.not_lt_zero _)
  | n + 1, lo, 0, _ => by simp [rngL]
  | n + 1, lo, i + 1, h => by
    simp only [rngL, List.getElem?_cons_succ]
    rw [rngL_get n (lo + 1) i (by omega)]
    congr 2
    omega
theorem it_rng {lo : Int} {m : Nat} : ItOk g K F1 ρ1 H1 (Itr lo m) (rngL lo m) := by
  intro F2 ρ2 cs2 H2 ok s k i
  refine ⟨fun e => ?_, fun x e => ?_⟩
  · have := List.getElem?_eq_none_iff.mp e
    rw [rngL_len] at this
    exact this
  · have hi := (List.getElem?_eq_some_iff.mp e).1
    rw [rngL_len] at hi
    rw [rngL_get m lo i hi] at e
    cases e
    refine ⟨hi, fun v H3 y => ?_⟩
    obtain ⟨rfl, rfl⟩ := y
    exact ⟨F2, Fwd.refl ok, .int _⟩
theorem zipL_get : ∀ (xs ys : List PyData) (i : Nat), (zipL xs ys)[i]? = (match xs[i]?, ys[i]? with | some x, some y => some (.tuple [x, y]) | _, _ => none)
  | [], _, i => by simp [zipL]
  | _ :: _, [], i => by
    cases i with
    | zero => simp [zipL]
    | succ i =>
      simp only [zipL, List.getElem?_nil, List.getElem?_cons_succ]
      split <;> first | rfl | (rename_i h; cases h)
  | x :: xs, y :: ys, 0 => by simp [zipL]
  | x :: xs, y :: ys, i + 1 => by
    simp only [zipL, List.getElem?_cons_succ]
    exact zipL_get xs ys i
theorem it_zipL {a b : Addr} {vs ws : List V} {xs ys : List PyData} (ha : DpAll K F1 vs xs) (hb : DpAll K F1 ws ys)
    (hl : ∀ F2 ρ2 cs2 H2, OkC K F2 ρ2 cs2 H2 → Same F1 F2 → (g = true → ∀ a o, H1 a = some o → a ∉ ρ1 → H2 a = some o) → SqL K H2 a vs)
    (hm : ∀ F2 ρ2 cs2 H2, OkC K F2 ρ2 cs2 H2 → Same F1 F2 → (g = true → ∀ a o, H1 a = some o → a ∉ ρ1 → H2 a = some o) → SqL K H2 b ws) : ItOk g K F1 ρ1 H1 (Itz K a b) (zipL xs ys) := by
  intro F2 ρ2 cs2 H2 ok s k i
  have h := hl F2 ρ2 cs2 H2 ok s k
  have h' := hm F2 ρ2 cs2 H2 ok s k
  rw [zipL_get]
  refine ⟨fun e => ⟨vs, ws, h, h', ?_⟩, fun x e => ?_⟩
  · split at e
    · cases e
    · rename_i hne
      cases q : xs[i]? with
      | none => exact .inl (none_len (dpAll_len ha) q)
      | some x =>
        cases q2 : ys[i]? with
        | none => exact .inr (none_len (dpAll_len hb) q2)
        | some y => exact absurd q2 (hne x y q)
  · split at e
    · rename_i x' y' e1 e2
      cases e
      obtain ⟨v, h1, h2⟩ := dpAll_get ha e1
      obtain ⟨w, h3, h4⟩ := dpAll_get hb e2
      refine ⟨⟨vs, ws, v, w, h, h', h1, h3⟩, fun u H3 y => ?_⟩
      obtain ⟨T, p, q, rfl, hT, rfl, y1, y2⟩ := y
      have e1' := y1 vs h
      rw [h1] at e1'
      cases e1'
      have e2' := y2 ws h'
      rw [h3] at e2'
      cases e2'
      have wf := Fwd.fresh ok (.tup [v, w]) hT
      exact ⟨_, wf, .tup (SqT.of upd_same) (.cons (dp_mono (s.trans wf.sub) _ _ h2) (.cons (dp_mono (s.trans wf.sub) _ _ h4) .nil))⟩
    · cases e
theorem enumL_get : ∀ (xs : List PyData) (lo : Int) (i : Nat), (enumL lo xs)[i]? = xs[i]?.map fun x => .tuple [.int (lo + i), x]
  | [], _, i => by simp [enumL]
  | x :: xs, lo, 0 => by simp [enumL]
  | x :: xs, lo, i + 1 => by
    simp only [enumL, List.getElem?_cons_succ]
    rw [enumL_get xs (lo + 1) i]
    have e : lo + 1 + (i : Int) = lo + ((i + 1 : Nat) : Int) := by omega
    rw [e]
theorem it_enum {a : Addr} {vs : List V} {xs : List PyData} (ha : DpAll K F1 vs xs) (hl : ∀ F2 ρ2 cs2 H2, OkC K F2 ρ2 cs2 H2 → Same F1 F2 → (g = true → ∀ a o, H1 a = some o → a ∉ ρ1 → H2 a = some o) → SqL K H2 a vs) : ItOk g K F1 ρ1 H1 (Ite K a) (enumL 0 xs) := by
  intro F2 ρ2 cs2 H2 ok s k i
  have h := hl F2 ρ2 cs2 H2 ok s k
  rw [enumL_get, Int.zero_add]
  refine ⟨fun e => ⟨vs, h, ?_⟩, fun x e => ?_⟩
  · cases q : xs[i]? with
    | none => exact none_len (dpAll_len ha) q
    | some x => rw [q] at e; cases e
  · cases q : xs[i]? with
    | none => rw [q] at e; cases e
    | some y =>
      rw [q] at e
      cases e
      obtain ⟨v, h1, h2⟩ := dpAll_get ha q
      refine ⟨⟨vs, v, h, h1⟩, fun u H3 z => ?_⟩
      obtain ⟨T, w, rfl, hT, rfl, y1⟩ := z
      have e2 := y1 vs h
      rw [h1] at e2
      cases e2
      have wf := Fwd.fresh ok (.tup [.int (i : Nat), v]) hT
      exact ⟨_, wf, .tup (SqT.of upd_same) (.cons (.int _) (.cons (dp_mono (s.trans wf.sub) _ _ h2) .nil))⟩
theorem it_zipT {a b : Addr} {vs ws : List V} {xs ys : List PyData} (ha : DpAll K F1 vs xs) (hb : DpAll K F1 ws ys)
    (hl : ∀ F2 ρ2 cs2 H2, OkC K F2 ρ2 cs2 H2 → Same F1 F2 → SqT K H2 a vs)
    (hm : ∀ F2 ρ2 cs2 H2, OkC K F2 ρ2 cs2 H2 → Same F1 F2 → SqT K H2 b ws) : ItOk g K F1 ρ1 H1 (RZ.ItzT K a b) (zipL xs ys) := by
  intro F2 ρ2 cs2 H2 ok s k i
  have h := hl F2 ρ2 cs2 H2 ok s
  have h' := hm F2 ρ2 cs2 H2 ok s
  rw [zipL_get]
  refine ⟨fun e => ⟨vs, ws, h, h', ?_⟩, fun x e => ?_⟩
  · split at e
    · cases e
    · rename_i hne
      cases q : xs[i]? with
      | none => exact .inl (none_len (dpAll_len ha) q)
      | some x =>
        cases q2 : ys[i]? with
        | none => exact .inr (none_len (dpAll_len hb) q2)
        | some y => exact absurd q2 (hne x y q)
  · split at e
    · rename_i x' y' e1 e2
      cases e
      obtain ⟨v, h1, h2⟩ := dpAll_get ha e1
      obtain ⟨w, h3, h4⟩ := dpAll_get hb e2
      refine ⟨⟨vs, ws, v, w, h, h', h1, h3⟩, fun u H3 y => ?_⟩
      obtain ⟨T, p, q, rfl, hT, rfl, y1, y2⟩ := y
      have e1' := y1 vs h
      rw [h1] at e1'
      cases e1'
      have e2' := y2 ws h'
      rw [h3] at e2'
      cases e2'
      have wf := Fwd.fresh ok (.tup [v, w]) hT
      exact ⟨_, wf, .tup (SqT.of upd_same) (.cons (dp_mono (s.trans wf.sub) _ _ h2) (.cons (dp_mono (s.trans wf.sub) _ _ h4) .nil))⟩
    · cases e
end
end R

namespace R
open PySem PySem.Spec PyProof.Rows L2
variable [W0]
section
variable {X : Cx} {C : Cxt} {Γ : Gam} {n : Nat}
/-! ### the sources -/
theorem tG_g {e : Expr} {c : E} {g : Bool} (h : PE X e (tG X.K C (fg c) c)) (hg : g = true ∨ cleanE c = true) : PE X e (tG X.K C (if g = true then .x else .m) c) := by
  cases g with
  | true => exact tG_x h
  | false =>
    rcases hg with hg | hg
    · cases hg
    · exact tG_m h (of_decide_eq_true hg)
theorem relg {K : PySem.W.Frag} {F' H H' : Hp} {ρ' : List Addr} {v : V} {x : MV} {g : Bool} (r : RelG (if g = true then .x else .m) K F' ρ' H H' v x) : RelX K F' ρ' H' v x ∧ (g = true ∨ RelM K F' ρ' v x) := by
  cases g with
  | true => exact ⟨r, .inl rfl⟩
  | false => exact ⟨.inl r, .inr r⟩
theorem sr_seq {t e : Expr} {c : E} {g : Bool} (h : PE X e (tG X.K C (fg c) c)) (hg : g = true ∨ cleanE c = true) : PI X t e (tI X.K C g (.seq c)) := by
  refine pi_wk (pi_seq (tG_g h hg)) fun σ H R ⟨F, ρ, cs, env, xs, cs', h1, h2, h3, k⟩ => ?_
  simp only [evSR] at h3
  obtain ⟨⟨x1, c1⟩, e1, h3⟩ := Res.of_bind h3
  refine ⟨F, ρ, cs, env, x1, c1, h1, h2, e1, fun F1 ρ1 H1 v w r => ?_⟩
  obtain ⟨r, rg⟩ := relg r
  split at h3
  · rename_i ys e
    have e : x1 = .d (.list ys) := e
    subst e
    cases h3
    obtain ⟨a, vs, rfl, hs, ha, hl⟩ := live_lst w.ok r rg
    exact .inl ⟨a, rfl, ⟨vs, hs⟩, k _ _ _ _ w (it_list ha hl)⟩
  · rename_i ys e
    have e : x1 = .d (.tuple ys) := e
    subst e
    cases h3
    obtain ⟨a, vs, rfl, hs, ha, hl⟩ := live_tup w.ok r
    exact .inr (.inl ⟨a, rfl, ⟨vs, hs⟩, k _ _ _ _ w (it_tup ha hl)⟩)
  · rename_i z e
    have e : x1 = .d (.str z) := e
    subst e
    cases h3
    exact .inr (.inr ⟨z, r.str, k _ _ _ _ w it_str⟩)
  · cases h3
theorem sr_rng (G : Good Γ C n X) {t : Expr} {x : Str} {p pos : Pos} {y : Expr} {c : E} {g : Bool} (hx : x = "range") (hb : biB Γ x = true) (hn : nS y = true) (h : PE X y (tG X.K C (fg c) c)) : PI X t (.Call (.Name x p) [y] [] pos) (tI X.K C g (.rng c)) := by
  subst hx
  obtain ⟨h1, h2, h3, h4⟩ := G.blt hb
  refine pi_wk (pi_range1 h1 h2 (pa_cons (tG_x h) pa_nil (star_cons hn)) (star_cons hn)) fun σ H R ⟨F, ρ, cs, env, xs, cs', h1, h2, h3, k⟩ => ?_
  simp only [evSR] at h3
  obtain ⟨⟨x1, c1⟩, e1, h3⟩ := Res.of_bind h3
  refine ⟨F, ρ, cs, env, x1, c1, h1, h2, e1, fun F1 ρ1 H1 v w r => ?_⟩
  have r : RelX X.K F1 ρ1 H1 v x1 := r
  split at h3
  · rename_i j e
    have e : x1 = .d (.int j) := e
    subst e
    split at h3
    · rename_i hz
      cases h3
      have hz := of_decide_eq_true hz
      refine ⟨j, by rw [r.int], hz.2.2.1, hz.2.2.2, k _ _ _ _ w it_rng⟩
    · cases h3
  · cases h3
theorem sr_rng2 (G : Good Γ C n X) {t : Expr} {x : Str} {p pos : Pos} {y z : Expr} {c d : E} {g : Bool} (hx : x = "range") (hb : biB Γ x = true) (hn : nS y = true) (hm : nS z = true) (h : PE X y (tG X.K C (fg c) c)) (h' : PE X z (tG X.K C (fg d) d)) :
    PI X t (.Call (.Name x p) [y, z] [] pos) (tI X.K C g (.rng2 c d)) := by
  subst hx
  obtain ⟨h1, h2, h3, h4⟩ := G.blt hb
  refine pi_wk (pi_range2 h1 h2 (pa_cons (tG_x h) (pa_cons (tG_x h') pa_nil (star_cons hm)) (star_cons hn)) (by rw [star_cons hn, star_cons hm]; rfl) (star_cons hm)) fun σ H R ⟨F, ρ, cs, env, xs, cs', h1, h2, h3, k⟩ => ?_
  simp only [evSR] at h3
  obtain ⟨⟨x1, c1⟩, e1, h3⟩ := Res.of_bind h3
  obtain ⟨⟨x2, c2⟩, e2, h3⟩ := Res.of_bind h3
  refine ⟨F, ρ, cs, env, x1, c1, h1, h2, e1, fun F1 ρ1 H1 v w r => ⟨F1, ρ1, c1, env, x2, c2, w.ok, w.okV h2, e2, fun F2 ρ2 H2 v2 w2 r2 => ?_⟩⟩
  have r : RelX X.K F2 ρ2 H2 v x1 := w2.relX r
  have r2 : RelX X.K F2 ρ2 H2 v2 x2 := r2
  split at h3
  · rename_i i j ea eb
    have ea : x1 = .d (.int i) := ea
    have eb : x2 = .d (.int j) := eb
    subst ea eb
    split at h3
    · rename_i hz
      cases h3
      have hz := of_decide_eq_true hz
      refine ⟨i, j, by rw [r.int, r2.int], hz, k _ _ _ _ (w.trans w2) it_rng⟩
    · cases h3
  · cases h3
theorem sr_zip (G : Good Γ C n X) {t : Expr} {x : Str} {p pos : Pos} {y z : Expr} {c d : E} {g : Bool} (hx : x = "zip") (hb : biB Γ x = true) (hn : nS y = true) (hm : nS z = true) (ht : isTup t = true) (h : PE X y (tG X.K C (fg c) c)) (h' : PE X z (tG X.K C (fg d) d))
    (hg : g = true ∨ cleanE c = true ∧ cleanE d = true) : PI X t (.Call (.Name x p) [y, z] [] pos) (tI X.K C g (.zip c d)) := by
  subst hx
  obtain ⟨h1, h2, h3, h4⟩ := G.blt hb
  cases t with
  | Tuple elts kk tp =>
    refine pi_wk (RZ.pi_zipA h1 h2 (pa_cons (tG_g (g := g) h (hg.imp id And.left)) (pa_cons (tG_g (g := g) h' (hg.imp id And.right)) pa_nil (star_cons hm)) (star_cons hn)) (star_cons hn) (by rw [star_cons hm]; rfl)) fun σ H R ⟨F, ρ, cs, env, xs, cs', h1, h2, h3, k⟩ => ?_
    simp only [evSR] at h3
    obtain ⟨⟨x1, c1⟩, e1, h3⟩ := Res.of_bind h3
    obtain ⟨⟨x2, c2⟩, e2, h3⟩ := Res.of_bind h3
    refine ⟨F, ρ, cs, env, x1, c1, h1, h2, e1, fun F1 ρ1 H1 v w r => ⟨F1, ρ1, c1, env, x2, c2, w.ok, w.okV h2, e2, fun F2 ρ2 H2 v2 w2 r2 => ?_⟩⟩
    obtain ⟨r, rg⟩ := relg r
    obtain ⟨r2, rg2⟩ := relg r2
    have r := w2.relX r
    have rg : g = true ∨ RelM X.K F2 ρ2 v x1 := rg.imp id w2.relM
    split at h3
    · rename_i xs ys ea eb
      have ea : x1 = .d (.list xs) := ea
      have eb : x2 = .d (.list ys) := eb
      subst ea eb
      cases h3
      obtain ⟨a, vs, rfl, hs, ha, hl⟩ := live_lst w2.ok r rg
      obtain ⟨b, ws, rfl, hs2, hb2, hl2⟩ := live_lst w2.ok r2 rg2
      exact ⟨a, b, vs, ws, rfl, .inl ⟨hs, hs2, k _ _ _ _ (w.trans w2) (it_zipL ha hb2 hl hl2)⟩⟩
    · rename_i xs ys ea eb
      have ea : x1 = .d (.tuple xs) := ea
      have eb : x2 = .d (.tuple ys) := eb
      subst ea eb
      cases h3
      obtain ⟨a, vs, rfl, hs, ha, hl⟩ := live_tup w2.ok r
      obtain ⟨b, ws, rfl, hs2, hb2, hl2⟩ := live_tup w2.ok r2
      exact ⟨a, b, vs, ws, rfl, .inr ⟨hs, hs2, k _ _ _ _ (w.trans w2) (it_zipT ha hb2 hl hl2)⟩⟩
    · cases h3
  | _ => exact absurd (show false = true from ht) Bool.false_ne_true
theorem sr_enum (G : Good Γ C n X) {t : Expr} {x : Str} {p pos : Pos} {y : Expr} {c : E} {g : Bool} (hx : x = "enumerate") (hb : biB Γ x = true) (hn : nS y = true) (ht : isTup t = true) (h : PE X y (tG X.K C (fg c) c)) (hg : g = true ∨ cleanE c = true) :
    PI X t (.Call (.Name x p) [y] [] pos) (tI X.K C g (.enum c)) := by
  subst hx
  obtain ⟨h1, h2, h3, h4⟩ := G.blt hb
  cases t with
  | Tuple elts kk tp =>
    refine pi_wk (pi_enum h1 h2 (pa_cons (tG_g (g := g) h hg) pa_nil (star_cons hn)) (star_cons hn)) fun σ H R ⟨F, ρ, cs, env, xs, cs', h1, h2, h3, k⟩ => ?_
    simp only [evSR] at h3
    obtain ⟨⟨x1, c1⟩, e1, h3⟩ := Res.of_bind h3
    refine ⟨F, ρ, cs, env, x1, c1, h1, h2, e1, fun F1 ρ1 H1 v w r => ?_⟩
    obtain ⟨r, rg⟩ := relg r
    split at h3
    · rename_i xs ea
      have ea : x1 = .d (.list xs) := ea
      subst ea
      cases h3
      obtain ⟨a, vs, rfl, hs, ha, hl⟩ := live_lst w.ok r rg
      exact ⟨a, vs, rfl, hs, k _ _ _ _ w (it_enum ha hl)⟩
    · cases h3
  | _ => exact absurd (show false = true from ht) Bool.false_ne_true
/-! ### targets -/
def setVs : List Nat → List V → L2.St → L2.St
  | i :: is, v :: vs, σ => setVs is vs (σ.set i (some v))
  | _, _, σ => σ
def gT (K : PySem.W.Frag) (t : TG) : L2.TG := fun v σ H Q => match t with
  | .n i => Q (σ.set i (some v)) H
  | .t is => ∃ a xs, v = .ref a ∧ (SqT K H a xs ∨ SqL K H a xs) ∧ xs.length = is.length ∧ Q (setVs is xs σ) H
def gAll (is : List Nat) : TGs := fun vs σ H Q => vs.length = is.length ∧ Q (setVs is vs σ) H
theorem pg_wk {e : Expr} {t t' : L2.TG} (h : PG X e t) (w : ∀ v σ H Q, t' v σ H Q → t v σ H Q) : PG X e t' := ⟨fun pins s σ H v u Q I r q => h.run pins s σ H v u Q I r (w v σ H Q q)⟩
theorem pgs_wk {e : List Expr} {t t' : TGs} (h : PGs X e t) (w : ∀ v σ H Q, t' v σ H Q → t v σ H Q) : PGs X e t' := ⟨fun pins s σ H v u Q I r q => h.run pins s σ H v u Q I r (w v σ H Q q)⟩
theorem pg_or {e : Expr} {t t' : L2.TG} (h : PG X e t) (h' : PG X e t') : PG X e (fun v σ H Q => t v σ H Q ∨ t' v σ H Q) := ⟨fun pins s σ H v u Q I r q => q.elim (fun q => h.run pins s σ H v u Q I r q) (fun q => h'.run pins s σ H v u Q I r q)⟩
theorem pgs_names (G : Good Γ C n X) : ∀ {is : List Nat} {es : List Expr}, tgsB Γ is es = true → PGs X es (gAll is) ∧ (assignEach es X.env).length = is.length ∧ (assignEach es X.env).findIdx? (·.1) = none
  | [], [], _ => ⟨pgs_wk pgs_nil fun vs σ H Q ⟨h, q⟩ => ⟨List.length_eq_zero_iff.mp h, by
      cases vs with
      | nil => exact q
      | cons _ _ => cases h⟩, rfl, rfl⟩
  | i :: is, e :: es, h => by
    cases e with
    | Name x pos =>
      have h : (locB Γ i x && tgsB Γ is es) = true := h
      rw [Bool.and_eq_true] at h
      obtain ⟨l1, l2, l3⟩ := G.loc h.1
      obtain ⟨a, b, c⟩ := pgs_names G h.2
      refine ⟨pgs_wk (pgs_cons (pg_name G.nd l1 l2 l3) a) fun vs σ H Q ⟨h, q⟩ => ?_, ?_, ?_⟩
      · cases vs with
        | nil => cases h
        | cons v vs => exact ⟨v, vs, rfl, Nat.succ.inj h, q⟩
      · show (assignEach es X.env).length + 1 = is.length + 1
        rw [b]
      · show List.findIdx? (·.1) ((false, assign (.Name x pos) X.env) :: assignEach es X.env) = none
        rw [List.findIdx?_cons, c]
        rfl
    | _ => exact absurd (show false = true from h) Bool.false_ne_true
  | [], _ :: _, h => absurd (show false = true from h) Bool.false_ne_true
  | _ :: _, [], h => absurd (show false = true from h) Bool.false_ne_true
theorem pg_T (G : Good Γ C n X) {t : TG} {e : Expr} (h : chkTG Γ t e = true) : PG X e (gT X.K t) := by
  unfold chkTG at h
  cases t with
  | n i =>
    simp only at h
    split at h
    · obtain ⟨l1, l2, l3⟩ := G.loc h
      exact pg_wk (pg_name G.nd l1 l2 l3) fun _ _ _ _ h => h
    · cases h
  | t is =>
    simp only at h
    split at h
    · obtain ⟨a, b, c⟩ := pgs_names G h
      refine pg_wk (pg_or (pg_tup G.calm a b c) (pg_unl G.calm a b c)) fun v σ H Q ⟨p, xs, e, hs, hl, q⟩ => ?_
      rcases hs with hs | hs
      · exact .inl ⟨p, xs, e, hs, hl, hl, q⟩
      · exact .inr ⟨p, xs, e, hs, hl, hl, q⟩
    · cases h
/-! ### stores -/
theorem okV_set {K : PySem.W.Frag} {F H : Hp} {ρ : List Addr} {env : Env} {σ : L2.St} {v : V} {x : MV} (h : OkV K F ρ env σ H) (i : Nat) (r : RelM K F ρ v x) : OkV K F ρ (env.set i (.v x)) (σ.set i (some v)) H := by
  refine ⟨by rw [List.length_set, List.length_set]; exact h.len, fun j s e => ?_, fun j j' s t p e1 e2 o1 o2 p1 p2 => ?_⟩
  · by_cases hj : i = j
    · subst hj
      have hl : i < env.length := by
        have := (List.getElem?_eq_some_iff.mp e).1
        simpa using this
      rw [List.getElem?_set_self hl] at e
      cases e
      rw [List.getElem?_set_self (by rw [h.len]; exact hl)]
      exact ⟨v, rfl, r⟩
    · rw [List.getElem?_set_ne hj] at e ⊢
      exact h.sl j s e
  · have own : ∀ {j : Nat} {s : Sl}, (env.set i (.v x))[j]? = some s → s.isOwn = true → env[j]? = some s ∧ i ≠ j := fun {j s} e o => by
      by_cases hj : i = j
      · subst hj
        have hl : i < env.length := by
          have := (List.getElem?_eq_some_iff.mp e).1
          simpa using this
        rw [List.getElem?_set_self hl] at e
        cases e
        cases o
      · rw [List.getElem?_set_ne hj] at e
        exact ⟨e, hj⟩
    obtain ⟨a1, b1⟩ := own e1 o1
    obtain ⟨a2, b2⟩ := own e2 o2
    rw [List.getElem?_set_ne b1] at p1
    rw [List.getElem?_set_ne b2] at p2
    exact h.dis j j' s t p a1 a2 o1 o2 p1 p2
theorem okV_setAll {K : PySem.W.Frag} {F H : Hp} {ρ : List Addr} : ∀ {is : List Nat} {xs : List PyData} {vs : List V} {env : Env} {σ : L2.St}, OkV K F ρ env σ H → DpAll K F vs xs → OkV K F ρ (setAll is xs env) (setVs is vs σ) H
  | [], _, _, _, _, h, _ => by simpa [setAll, setVs] using h
  | i :: is, [], _, _, _, h, r => by cases r; simpa [setAll, setVs] using h
  | i :: is, x :: xs, _, _, _, h, r => by
    cases r with
    | cons a b =>
      have q := okV_setAll (is := is) (okV_set h i (x := .d x) a) b
      exact q
/-- a target's store -/
theorem asgT_rel {K : PySem.W.Frag} {F H : Hp} {ρ : List Addr} {cs : Cells} {env env' : Env} {σ : L2.St} {v : V} {x : MV} {t : TG} {Q : L2.St → Hp → Prop} (ok : OkC K F ρ cs H) (h : OkV K F ρ env σ H) (r : RelM K F ρ v x) (e : asgT t x env = .ok env')
    (k : ∀ σ', OkV K F ρ env' σ' H → Q σ' H) : gT K t v σ H Q := by
  cases t with
  | n i =>
    simp only [asgT] at e
    cases e
    exact k _ (okV_set h i r)
  | t is =>
    simp only [asgT] at e
    split at e
    · split at e
      · rename_i hl
        cases e
        have r : Dp K F v (.tuple _) := r
        cases r with
        | tup hs ha => exact ⟨_, _, rfl, .inl (sqT_mono ok.sub hs), by rw [dpAll_len ha]; exact hl.symm, k _ (okV_setAll h ha)⟩
      · cases e
    · split at e
      · rename_i hl
        cases e
        have r : Dp K F v (.list _) := r
        cases r with
        | lst hs ha => exact ⟨_, _, rfl, .inr (sqL_mono ok.sub hs), by rw [dpAll_len ha]; exact hl.symm, k _ (okV_setAll h ha)⟩
      · cases e
    · cases e
theorem okV_no {K : PySem.W.Frag} {F H : Hp} {ρ : List Addr} {env : Env} {σ : L2.St} (h : OkV K F ρ env σ H) (i : Nat) : OkV K F ρ (env.set i .no) (σ.set i none) H := by
  refine ⟨by rw [List.length_set, List.length_set]; exact h.len, fun j s e => ?_, fun j j' s t p e1 e2 o1 o2 p1 p2 => ?_⟩
  · by_cases hj : i = j
    · subst hj
      have hl : i < env.length := by
        have := (List.getElem?_eq_some_iff.mp e).1
        simpa using this
      rw [List.getElem?_set_self hl] at e
      cases e
      trivial
    · rw [List.getElem?_set_ne hj] at e ⊢
      exact h.sl j s e
  · have own : ∀ {j : Nat} {s : Sl}, (env.set i .no)[j]? = some s → s.isOwn = true → env[j]? = some s ∧ i ≠ j := fun {j s} e o => by
      by_cases hj : i = j
      · subst hj
        have hl : i < env.length := by
          have := (List.getElem?_eq_some_iff.mp e).1
          simpa using this
        rw [List.getElem?_set_self hl] at e
        cases e
        cases o
      · rw [List.getElem?_set_ne hj] at e
        exact ⟨e, hj⟩
    obtain ⟨a1, b1⟩ := own e1 o1
    obtain ⟨a2, b2⟩ := own e2 o2
    rw [List.getElem?_set_ne b1] at p1
    rw [List.getElem?_set_ne b2] at p2
    exact h.dis j j' s t p a1 a2 o1 o2 p1 p2
theorem okV_wipe {K : PySem.W.Frag} {F H : Hp} {ρ : List Addr} {env : Env} {σ : L2.St} (h : OkV K F ρ env σ H) : ∀ vs : List Nat, OkV K F ρ (wipeE env vs) (wipe σ vs) H
  | [] => h
  | v :: vs => okV_no (okV_wipe h vs) v
/-! ### comprehensions -/
theorem wipe_set_in : ∀ {vs : List Nat} {σ : L2.St} {i : Nat} {x : Option V}, i ∈ vs → wipe (σ.set i x) vs = wipe σ vs
  | v :: vs, σ, i, x, h => by
    unfold wipe
    by_cases hi : i ∈ vs
    · rw [wipe_set_in hi]
    · have e : i = v := by
        rcases List.mem_cons.mp h with e | e
        · exact e
        · exact absurd e hi
      subst e
      have comm : ∀ (ws : List Nat) (τ : L2.St), i ∉ ws → wipe (τ.set i x) ws = (wipe τ ws).set i x := by
        intro ws
        induction ws with
        | nil => intro τ _; rfl
        | cons w ws ih =>
          intro τ hw
          unfold wipe
          rw [ih τ (fun z => hw (List.mem_cons_of_mem _ z))]
          rw [List.set_comm _ _ (fun z => hw (by rw [z]; exact List.mem_cons_self))]
      rw [comm vs σ hi, List.set_set]
theorem wipe_comm (σ : L2.St) (v : Nat) : ∀ vs : List Nat, wipe (σ.set v none) vs = (wipe σ vs).set v none
  | [] => rfl
  | w :: ws => by
    unfold wipe
    rw [wipe_comm σ v ws]
    by_cases h : v = w
    · subst h; rfl
    · rw [List.set_comm _ _ h]
theorem wipe_wipe : ∀ (vs : List Nat) (σ : L2.St), wipe (wipe σ vs) vs = wipe σ vs
  | [], _ => rfl
  | v :: vs, σ => by
    show wipe ((wipe σ vs).set v none) (v :: vs) = wipe σ (v :: vs)
    rw [wipe_set_in List.mem_cons_self]
    unfold wipe
    rw [wipe_wipe vs σ]
theorem setVs_wipe : ∀ {is : List Nat} {xs : List V} {σ : L2.St} {vs : List Nat}, (∀ i ∈ is, i ∈ vs) → wipe (setVs is xs σ) vs = wipe σ vs
  | [], _, _, _, _ => by simp [setVs]
  | i :: is, [], _, _, _ => by simp [setVs]
  | i :: is, x :: xs, σ, vs, h => by
    show wipe (setVs is xs (σ.set i (some x))) vs = _
    rw [setVs_wipe fun j hj => h j (List.mem_cons_of_mem _ hj), wipe_set_in (h i List.mem_cons_self)]
def tCnd (K : PySem.W.Frag) (C : Cxt) (c : Es) : TT := fun σ H Q => ∃ F ρ cs env b cs', OkC K F ρ cs H ∧ OkV K F ρ env σ H ∧ evT C c env cs = .ok (b, cs') ∧
  ∀ F' ρ' H', Fwd K F ρ H F' ρ' cs' H' → Q b H'
/-- a list of one's own is written beside all that is known -/
theorem Fwd.beside {K : PySem.W.Frag} {F F' H H' : Hp} {ρ ρ' : List Addr} {cs' : Cells} (w : Fwd K F ρ H F' ρ' cs' H') {D : Addr} {o : HO} (h1 : H D = none) (h2 : F' D = none) (h3 : D ∉ ρ') : Fwd K F ρ H F' ρ' cs' (upd H' D o) := by
  refine ⟨⟨fun a u e => ?_, w.ok.nd, w.ok.len, w.ok.out, fun n a c e1 e2 => ?_⟩, w.sub, w.new, w.rho, fun a u e ha => ?_⟩
  · rw [upd_ne (fun z => by subst z; rw [h2] at e; cases e)]; exact w.ok.sub _ _ e
  · have q := w.ok.cell n a c e1 e2
    have hne : a ≠ D := fun z => h3 (by rw [← z]; exact List.mem_of_getElem? e1)
    cases c with
    | lst xs =>
      obtain ⟨vs, q1, q2⟩ := q
      exact ⟨vs, by rw [upd_ne hne]; exact q1, q2⟩
  · rw [upd_ne (fun z => by subst z; rw [h1] at e; cases e)]; exact w.keep _ _ e ha
theorem setAll_len : ∀ {is : List Nat} {xs : List PyData} {env : Env}, (setAll is xs env).length = env.length
  | [], _, _ => by simp [setAll]
  | i :: is, [], _ => by simp [setAll]
  | i :: is, x :: xs, env => by
    show (setAll is xs (env.set i _)).length = _
    rw [setAll_len, List.length_set]
theorem comp_wk {vs : List (Str × Nat)} {tg : TG} {src : SR} {cnd : Es} {elt : E} (ht : tgIn tg (vs.map (·.2)) = true) {σ : L2.St} {H : Hp} {Q : VK} (h : tG X.K C .n (.comp vs tg src cnd elt) σ H Q) :
    tLc (tI X.K C true src) (gT X.K tg) (tCnd X.K C cnd) (tG X.K C .m elt) (vs.map (·.2)) σ H Q := by
  obtain ⟨F, ρ, cs, env, x, cs', h1, h2, h3, k⟩ := h
  simp only [evE] at h3
  obtain ⟨⟨xs, c1⟩, e1, h3⟩ := Res.of_bind h3
  obtain ⟨⟨out, c2⟩, e2, h3⟩ := Res.of_bind h3
  cases h3
  refine ⟨F, ρ, cs, env, xs, c1, h1, h2, e1, fun F1 ρ1 H1 J w1 it D hD => ?_⟩
  have okv1 := w1.okV h2
  simp only at e2
  generalize hstep : (fun (x : PyData) (cs : Cells) => (asgT tg (MV.d x) (wipeE env (List.map (fun x => x.snd) vs))).bind fun env' => (evT C cnd env' cs).bind fun q => if q.fst = true then (evE C elt env' q.snd).bind fun u => (match u.fst with
        | MV.d y => Res.ok (some y, u.snd)
        | _ => Res.no) else Res.ok (none, q.snd)) = step at e2
  refine ⟨fun i m Hc => m = xs.length - i ∧ i ≤ xs.length ∧ ∃ F2 ρ2 cs2 acc ws, Fwd X.K F1 ρ1 H1 F2 ρ2 cs2 Hc ∧ Hc D = some (.lst ws) ∧ DpAll X.K F2 ws acc ∧ F2 D = none ∧ D ∉ ρ2 ∧ lcL step (xs.drop i) acc cs2 = .ok (out, c2),
    ⟨xs.length, by simp, Nat.zero_le _, F1, ρ1, c1, [], [], (Fwd.own w1.ok (.lst []) hD), upd_same, .nil, w1.ok.sub.free hD, fun z => w1.ok.at z hD, e2⟩, ?_⟩
  rintro i m Hc ⟨rfl, hi, F2, ρ2, cs2, acc, ws, w2, hDc, ha, hDF, hDr, run⟩
  have io := it F2 ρ2 cs2 Hc w2.ok w2.sub (fun _ => w2.keep) i
  by_cases hlt : i < xs.length
  · have hx : xs[i]? = some xs[i] := List.getElem?_eq_getElem hlt
    obtain ⟨go, yl⟩ := io.2 _ hx
    refine .inr ⟨go, fun H' => ∃ F2 ρ2 cs2 acc ws, Fwd X.K F1 ρ1 H1 F2 ρ2 cs2 H' ∧ H' D = some (.lst ws) ∧ DpAll X.K F2 ws acc ∧ F2 D = none ∧ D ∉ ρ2 ∧ lcL step (xs.drop (i + 1)) acc cs2 = .ok (out, c2), fun H' p' => ⟨xs.length - (i + 1), by omega, rfl, hlt, p'⟩, fun v H3 y => ?_⟩
    obtain ⟨F3, w3, rv⟩ := yl v H3 y
    have w13 := w2.trans w3
    rw [List.drop_eq_getElem_cons hlt] at run
    simp only [lcL] at run
    obtain ⟨⟨r1, r2⟩, s1, run⟩ := Res.of_bind run
    rw [← hstep] at s1
    obtain ⟨env', s2, s1⟩ := Res.of_bind s1
    obtain ⟨⟨b, c4⟩, s3, s1⟩ := Res.of_bind s1
    have okv3 : OkV X.K F3 ρ2 (wipeE env (vs.map (·.2))) (wipe σ (vs.map (·.2))) H3 := w13.okV (okV_wipe okv1 _)
    -- the target's slots are the comprehension's own
    have hwipe : ∀ σ', (∃ ys, σ' = (match tg with | .n i => (wipe σ (vs.map (·.2))).set i (some v) | .t is => setVs is ys (wipe σ (vs.map (·.2))))) → wipe σ' (vs.map (·.2)) = wipe σ (vs.map (·.2)) := fun σ' ⟨ys, e⟩ => by
      subst e
      cases tg with
      | n i => rw [wipe_set_in (of_decide_eq_true ht), wipe_wipe]
      | t is => rw [setVs_wipe (of_decide_eq_true ht), wipe_wipe]
    have key : ∀ σ', OkV X.K F3 ρ2 env' σ' H3 → wipe σ' (vs.map (·.2)) = wipe σ (vs.map (·.2)) → wipe σ' (vs.map (·.2)) = wipe σ (vs.map (·.2)) ∧ tCnd X.K C cnd σ' H3 fun b H3 => if b = true then tG X.K C .m elt σ' H3 fun y H4 => ∃ acc, H4 D = some (.lst acc) ∧ acc.length < sizeLine ∧
        (∃ F2 ρ2 cs2 acc' ws, Fwd X.K F1 ρ1 H1 F2 ρ2 cs2 (upd H4 D (.lst (acc ++ [y]))) ∧ (upd H4 D (.lst (acc ++ [y]))) D = some (.lst ws) ∧ DpAll X.K F2 ws acc' ∧ F2 D = none ∧ D ∉ ρ2 ∧ lcL step (xs.drop (i + 1)) acc' cs2 = .ok (out, c2))
        else ∃ F2 ρ2 cs2 acc ws, Fwd X.K F1 ρ1 H1 F2 ρ2 cs2 H3 ∧ H3 D = some (.lst ws) ∧ DpAll X.K F2 ws acc ∧ F2 D = none ∧ D ∉ ρ2 ∧ lcL step (xs.drop (i + 1)) acc cs2 = .ok (out, c2) := fun σ' okv' hw => by
      refine ⟨hw, F3, ρ2, cs2, env', b, c4, w3.ok, okv', s3, fun F4 ρ4 H4 w4 => ?_⟩
      have w14 := w13.trans w4
      have hD3 := w3.keep _ _ hDc hDr
      have hDF3 := w3.frN hDc hDF
      have hD4 := w4.keep _ _ hD3 hDr
      have hDF4 := w4.frN hD3 hDF3
      have hDr4 := w4.notin hD3 hDr
      cases b with
      | false =>
        simp only [Bool.false_eq_true, if_false] at s1
        cases s1
        refine iteF ?_
        exact ⟨F4, ρ4, _, acc, ws, w14, hD4, dpAll_mono (w3.sub.trans w4.sub) _ _ ha, hDF4, hDr4, run⟩
      | true =>
        simp only [if_true] at s1
        obtain ⟨⟨u1, u2⟩, s4, s1⟩ := Res.of_bind s1
        refine iteT ?_
        refine ⟨F4, ρ4, c4, env', u1, u2, w4.ok, w4.okV okv', s4, fun F5 ρ5 H5 y w5 ry => ?_⟩
        have w15 := w14.trans w5
        have hD5 := w5.keep _ _ hD4 hDr4
        have hDF5 := w5.frN hD4 hDF4
        have hDr5 := w5.notin hD4 hDr4
        cases u1 with
        | d d =>
          cases s1
          simp only at run
          split at run
          · rename_i hz
            have hz := of_decide_eq_true hz
            have haa : DpAll X.K F5 ws acc := dpAll_mono ((w3.sub.trans w4.sub).trans w5.sub) _ _ ha
            have hlen := dpAll_len haa
            refine ⟨ws, hD5, by omega, F5, ρ5, _, acc ++ [d], ws ++ [y], w15.beside hD hDF5 hDr5, upd_same, dpAll_app haa (.cons ry .nil), hDF5, hDr5, run⟩
          · cases run
        | k _ => cases s1
        | t _ => cases s1
        | p _ => cases s1
        | r _ => cases s1
    cases tg with
    | n j =>
      simp only [asgT] at s2
      cases s2
      exact key _ (okV_set okv3 j (x := .d xs[i]) rv) (hwipe _ ⟨[], rfl⟩)
    | t is =>
      simp only [asgT] at s2
      split at s2
      · rename_i ds e
        split at s2
        · rename_i hl
          cases s2
          have e : xs[i] = .tuple ds := MV.d.inj e
          rw [e] at rv
          cases rv with
          | tup hs hda => exact ⟨_, _, rfl, .inl (sqT_mono w3.ok.sub hs), by rw [dpAll_len hda]; exact hl.symm, key _ (okV_setAll okv3 hda) (hwipe _ ⟨_, rfl⟩)⟩
        · cases s2
      · rename_i ds e
        split at s2
        · rename_i hl
          cases s2
          have e : xs[i] = .list ds := MV.d.inj e
          rw [e] at rv
          cases rv with
          | lst hs hda => exact ⟨_, _, rfl, .inr (sqL_mono w3.ok.sub hs), by rw [dpAll_len hda]; exact hl.symm, key _ (okV_setAll okv3 hda) (hwipe _ ⟨_, rfl⟩)⟩
        · cases s2
      · cases s2
  · have e : i = xs.length := by omega
    subst e
    refine .inl ⟨io.1 (List.getElem?_eq_none (Nat.le_refl _)), ?_⟩
    rw [List.drop_length] at run
    simp only [lcL] at run
    cases run
    exact k F2 ρ2 Hc (.ref D) (w1.trans w2) ⟨D, ws, rfl, hDc, ha, hDF, hDr, w1.dom hD⟩
theorem dcomp_wk {vs : List (Str × Nat)} {tg : TG} {src : SR} {cnd : Es} {ke ve : E} (ht : tgIn tg (vs.map (·.2)) = true) {σ : L2.St} {H : Hp} {Q : VK} (h : tG X.K C .n (.dcomp vs tg src cnd ke ve) σ H Q) :
    tDc (tI X.K C true src) (gT X.K tg) (tCnd X.K C cnd) (tG X.K C .m ke) (tG X.K C .m ve) (vs.map (·.2)) σ H Q := by
  obtain ⟨F, ρ, cs, env, x, cs', h1, h2, h3, k⟩ := h
  simp only [evE] at h3
  obtain ⟨⟨xs, c1⟩, e1, h3⟩ := Res.of_bind h3
  obtain ⟨⟨out, c2⟩, e2, h3⟩ := Res.of_bind h3
  cases h3
  refine ⟨F, ρ, cs, env, xs, c1, h1, h2, e1, fun F1 ρ1 H1 J w1 it D hD => ?_⟩
  have okv1 := w1.okV h2
  simp only at e2
  generalize hstep : (fun (x : PyData) (cs : Cells) => (asgT tg (MV.d x) (wipeE env (List.map (fun x => x.snd) vs))).bind fun env' => (evT C cnd env' cs).bind fun q => if q.fst = true then (evE C ke env' q.snd).bind fun u => (evE C ve env' u.snd).bind fun w => (match u.fst, w.fst with
        | MV.d y, MV.d z => (match keyD y with
          | some k => Res.ok (some (k, z), w.snd)
          | none => Res.no)
        | _, _ => Res.no) else Res.ok (none, q.snd)) = step at e2
  refine ⟨fun i m Hc => m = xs.length - i ∧ i ≤ xs.length ∧ ∃ F2 ρ2 cs2 acc ws, Fwd X.K F1 ρ1 H1 F2 ρ2 cs2 Hc ∧ Hc D = some (.dK ws) ∧ KR X.K F2 ws acc ∧ F2 D = none ∧ D ∉ ρ2 ∧ dcL step (xs.drop i) acc cs2 = .ok (out, c2),
    ⟨xs.length, by simp, Nat.zero_le _, F1, ρ1, c1, [], [], (Fwd.own w1.ok (.dK []) hD), upd_same, .nil, w1.ok.sub.free hD, fun z => w1.ok.at z hD, e2⟩, ?_⟩
  rintro i m Hc ⟨rfl, hi, F2, ρ2, cs2, acc, ws, w2, hDc, ha, hDF, hDr, run⟩
  have io := it F2 ρ2 cs2 Hc w2.ok w2.sub (fun _ => w2.keep) i
  by_cases hlt : i < xs.length
  · have hx : xs[i]? = some xs[i] := List.getElem?_eq_getElem hlt
    obtain ⟨go, yl⟩ := io.2 _ hx
    refine .inr ⟨go, fun H' => ∃ F2 ρ2 cs2 acc ws, Fwd X.K F1 ρ1 H1 F2 ρ2 cs2 H' ∧ H' D = some (.dK ws) ∧ KR X.K F2 ws acc ∧ F2 D = none ∧ D ∉ ρ2 ∧ dcL step (xs.drop (i + 1)) acc cs2 = .ok (out, c2), fun H' p' => ⟨xs.length - (i + 1), by omega, rfl, hlt, p'⟩, fun v H3 y => ?_⟩
    obtain ⟨F3, w3, rv⟩ := yl v H3 y
    have w13 := w2.trans w3
    rw [List.drop_eq_getElem_cons hlt] at run
    simp only [dcL] at run
    obtain ⟨⟨r1, r2⟩, s1, run⟩ := Res.of_bind run
    rw [← hstep] at s1
    obtain ⟨env', s2, s1⟩ := Res.of_bind s1
    obtain ⟨⟨b, c4⟩, s3, s1⟩ := Res.of_bind s1
    have okv3 : OkV X.K F3 ρ2 (wipeE env (vs.map (·.2))) (wipe σ (vs.map (·.2))) H3 := w13.okV (okV_wipe okv1 _)
    -- the target's slots are the comprehension's own
    have hwipe : ∀ σ', (∃ ys, σ' = (match tg with | .n i => (wipe σ (vs.map (·.2))).set i (some v) | .t is => setVs is ys (wipe σ (vs.map (·.2))))) → wipe σ' (vs.map (·.2)) = wipe σ (vs.map (·.2)) := fun σ' ⟨ys, e⟩ => by
      subst e
      cases tg with
      | n i => rw [wipe_set_in (of_decide_eq_true ht), wipe_wipe]
      | t is => rw [setVs_wipe (of_decide_eq_true ht), wipe_wipe]
    have key : ∀ σ', OkV X.K F3 ρ2 env' σ' H3 → wipe σ' (vs.map (·.2)) = wipe σ (vs.map (·.2)) → wipe σ' (vs.map (·.2)) = wipe σ (vs.map (·.2)) ∧ tCnd X.K C cnd σ' H3 fun b H3 => if b = true then tG X.K C .m ke σ' H3 fun y H4 => tG X.K C .m ve σ' H4 fun z H5 => ∃ (acc : List (Key × V)) (kk : Key), y = kV kk ∧ H5 D = some (.dK acc) ∧ acc.length < sizeLine ∧
        (∃ F2 ρ2 cs2 acc' ws, Fwd X.K F1 ρ1 H1 F2 ρ2 cs2 (upd H5 D (.dK (putK acc kk z))) ∧ (upd H5 D (.dK (putK acc kk z))) D = some (.dK ws) ∧ KR X.K F2 ws acc' ∧ F2 D = none ∧ D ∉ ρ2 ∧ dcL step (xs.drop (i + 1)) acc' cs2 = .ok (out, c2))
        else ∃ F2 ρ2 cs2 acc ws, Fwd X.K F1 ρ1 H1 F2 ρ2 cs2 H3 ∧ H3 D = some (.dK ws) ∧ KR X.K F2 ws acc ∧ F2 D = none ∧ D ∉ ρ2 ∧ dcL step (xs.drop (i + 1)) acc cs2 = .ok (out, c2) := fun σ' okv' hw => by
      refine ⟨hw, F3, ρ2, cs2, env', b, c4, w3.ok, okv', s3, fun F4 ρ4 H4 w4 => ?_⟩
      have w14 := w13.trans w4
      have hD3 := w3.keep _ _ hDc hDr
      have hDF3 := w3.frN hDc hDF
      have hD4 := w4.keep _ _ hD3 hDr
      have hDF4 := w4.frN hD3 hDF3
      have hDr4 := w4.notin hD3 hDr
      cases b with
      | false =>
        simp only [Bool.false_eq_true, if_false] at s1
        cases s1
        refine iteF ?_
        exact ⟨F4, ρ4, _, acc, ws, w14, hD4, kr_mono (w3.sub.trans w4.sub) ha, hDF4, hDr4, run⟩
      | true =>
        simp only [if_true] at s1
        obtain ⟨⟨u1, u2⟩, s4, s1⟩ := Res.of_bind s1
        obtain ⟨⟨x1, x2⟩, s5, s1⟩ := Res.of_bind s1
        refine iteT ?_
        refine ⟨F4, ρ4, c4, env', u1, u2, w4.ok, w4.okV okv', s4, fun F5 ρ5 H5 y w5 ry => ⟨F5, ρ5, u2, env', x1, x2, w5.ok, w5.okV (w4.okV okv'), s5, fun F6 ρ6 H6 z w6 rz => ?_⟩⟩
        have w15 := (w14.trans w5).trans w6
        have hD5 := w6.keep _ _ (w5.keep _ _ hD4 hDr4) (w5.notin hD4 hDr4)
        have hDF5 := w6.frN (w5.keep _ _ hD4 hDr4) (w5.frN hD4 hDF4)
        have hDr5 := w6.notin (w5.keep _ _ hD4 hDr4) (w5.notin hD4 hDr4)
        have ry := w6.relM ry
        cases u1 with
        | d d =>
          cases x1 with
          | d dv =>
            simp only at s1
            split at s1
            · rename_i kk hk
              cases s1
              simp only at run
              split at run
              · rename_i hz
                have hz := of_decide_eq_true hz
                have haa : KR X.K F6 ws acc := kr_mono (((w3.sub.trans w4.sub).trans w5.sub).trans w6.sub) ha
                have hlen := kr_len haa
                have ry : Dp X.K F6 y d := ry
                refine ⟨ws, kk, key_dp ry hk, hD5, by omega, F6, ρ6, _, putD acc kk dv, putK ws kk z, w15.beside hD hDF5 hDr5, upd_same, kr_put haa rz, hDF5, hDr5, run⟩
              · cases run
            · cases s1
          | k _ => cases s1
          | t _ => cases s1
          | p _ => cases s1
          | r _ => cases s1
        | k _ => cases s1
        | t _ => cases s1
        | p _ => cases s1
        | r _ => cases s1
    cases tg with
    | n j =>
      simp only [asgT] at s2
      cases s2
      exact key _ (okV_set okv3 j (x := .d xs[i]) rv) (hwipe _ ⟨[], rfl⟩)
    | t is =>
      simp only [asgT] at s2
      split at s2
      · rename_i ds e
        split at s2
        · rename_i hl
          cases s2
          have e : xs[i] = .tuple ds := MV.d.inj e
          rw [e] at rv
          cases rv with
          | tup hs hda => exact ⟨_, _, rfl, .inl (sqT_mono w3.ok.sub hs), by rw [dpAll_len hda]; exact hl.symm, key _ (okV_setAll okv3 hda) (hwipe _ ⟨_, rfl⟩)⟩
        · cases s2
      · rename_i ds e
        split at s2
        · rename_i hl
          cases s2
          have e : xs[i] = .list ds := MV.d.inj e
          rw [e] at rv
          cases rv with
          | lst hs hda => exact ⟨_, _, rfl, .inr (sqL_mono w3.ok.sub hs), by rw [dpAll_len hda]; exact hl.symm, key _ (okV_setAll okv3 hda) (hwipe _ ⟨_, rfl⟩)⟩
        · cases s2
      · cases s2
  · have e : i = xs.length := by omega
    subst e
    refine .inl ⟨io.1 (List.getElem?_eq_none (Nat.le_refl _)), ?_⟩
    rw [List.drop_length] at run
    simp only [dcL] at run
    cases run
    exact k F2 ρ2 Hc (.ref D) (w1.trans w2) ⟨D, ws, rfl, hDc, ha, hDF, hDr, w1.dom hD⟩
end
end R

namespace R
open PySem PySem.Spec PyProof.Rows L2
variable [W0]
section
variable {X : Cx} {C : Cxt} {Γ : Gam} {n : Nat}
theorem relS_names {scope a b : Scope} (h : a.names = b.names) (hk : a.kind = b.kind) : (relS scope a).names = (relS scope b).names := by
  unfold relS
  rw [h, hk]
theorem Good.blk (G : Good Γ C n X) {scope : Scope} (hk : scope.kind = .function) (s : Shared) (H : Hp) (C' : Addr) (cl : List (Str × Addr)) (fp : List Addr) : Good (Γ.inner scope) C n (X.blk s H scope (compEnvC scope cl C' X.env) fp) := by
  refine ⟨G.wd, G.calm, G.N, G.nd, hk, relS_names G.names (by rw [G.kind, G.skind]), hk, fun h => (Bool.false_ne_true h).elim, G.room, G.bi, G.gl, G.gd, G.kws, G.kw, G.fn⟩
theorem kon_pe {c : Kon} {d : Const} {j : Nat} {pos : Pos} (h : konB c d = true) : PE X (.Constant d j pos) (tG X.K C .m (.k c)) := by
  have go : ∀ v : V, (∀ (F : Hp) (ρ : List Addr), RelM X.K F ρ v (konV c)) → PE X (.Constant d j pos) (tC v) → PE X (.Constant d j pos) (tG X.K C .m (.k c)) := fun v hv hp => pe_wk hp fun σ H Q ⟨F, ρ, cs, env, x, cs', h1, h2, h3, k⟩ => by
    simp only [evE] at h3
    cases h3
    exact k F ρ H v (Fwd.refl h1) (hv F ρ)
  cases c with
  | non => cases d <;> first
    | exact absurd (show false = true from h) Bool.false_ne_true
    | exact go .non (fun _ _ => .non) pe_non
  | bl b => cases d <;> first
    | exact absurd (show false = true from h) Bool.false_ne_true
    | (have e := of_decide_eq_true h; subst e; exact go (.bl _) (fun _ _ => .bl _) pe_bl)
  | int b => cases d <;> first
    | exact absurd (show false = true from h) Bool.false_ne_true
    | (have e := of_decide_eq_true h; subst e; exact go (.int _) (fun _ _ => .int _) pe_int)
  | str b => cases d <;> first
    | exact absurd (show false = true from h) Bool.false_ne_true
    | (have e := of_decide_eq_true h; subst e; exact go (.str _) (fun _ _ => .str _) pe_str)
theorem var_pe (G : Good Γ C n X) {i : Nat} {x : Str} {pos : Pos} (h : visB Γ i x = true) : PE X (.Name x pos) (tG X.K C .m (.var i)) := pe_wk (G.vis h) fun σ H Q ⟨F, ρ, cs, env, x, cs', h1, h2, h3, k⟩ => by
  simp only [evE] at h3
  split at h3
  · rename_i y e
    cases h3
    obtain ⟨v, e1, r⟩ := h2.sl i _ e
    exact ⟨v, e1, k F ρ H v (Fwd.refl h1) r⟩
  · cases h3
theorem own_pe (G : Good Γ C n X) {i : Nat} {x : Str} {pos : Pos} (h : visB Γ i x = true) : PE X (.Name x pos) (tG X.K C .x (.own i)) := pe_wk (G.vis h) fun σ H Q ⟨F, ρ, cs, env, x, cs', h1, h2, h3, k⟩ => by
  simp only [evE] at h3
  split at h3
  · rename_i y e
    cases h3
    obtain ⟨p, vs, e1, f, q, a, b⟩ := h2.sl i _ e
    exact ⟨.ref p, e1, k F ρ H _ (Fwd.refl h1) (.inr ⟨p, vs, rfl, f, q, b⟩)⟩
  · rename_i y e
    cases h3
    obtain ⟨p, vs, e1, f, q, a, b⟩ := h2.sl i _ e
    exact ⟨.ref p, e1, k F ρ H _ (Fwd.refl h1) (.inr ⟨p, vs, rfl, f, q, b⟩)⟩
  · rename_i y e
    cases h3
    obtain ⟨p, vs, e1, f, q, a, b⟩ := h2.sl i _ e
    exact ⟨.ref p, e1, k F ρ H _ (Fwd.refl h1) (.inr ⟨p, vs, rfl, f, q, b⟩)⟩
  · cases h3
theorem glob_pe (G : Good Γ C n X) {g : Nat} {x : Str} {pos : Pos} (h : glB Γ x = true) (hg : Γ.gls[g]? = some x) : PE X (.Name x pos) (tG X.K C .m (.glob g)) := by
  obtain ⟨h1, h2, h3⟩ := G.glob h
  refine ⟨fun pins s σ H Q I ⟨F, ρ, cs, env, y, cs', o1, o2, o3, k⟩ => ?_⟩
  simp only [evE] at o3
  split at o3
  · rename_i z e
    cases o3
    obtain ⟨w, u, m, r, rel⟩ := G.gl g x _ hg e
    exact (pe_glob (v := w) h1 m r h2).run pins s σ H Q I (k F ρ H w (Fwd.refl o1) (rel F))
  · cases o3
theorem call_pe (G : Good Γ C n X) {f : Nat} {x : Str} {p pos : Pos} {a : Expr} {as : List Expr} {ces : Es} (h : glB Γ x = true) (hf : Γ.fns[f]? = some (some x)) (hl : PEl X C ces (a :: as)) (hc : cleanEs ces = true) : PE X (.Call (.Name x p) (a :: as) [] pos) (tG X.K C .m (.call f ces)) := by
  obtain ⟨h1, h2, h3⟩ := G.glob h
  obtain ⟨fa, fd, ps, m, kp, F, B⟩ := G.fn f x hf
  have hs := hl.all
  rw [List.all_cons, Bool.and_eq_true] at hs
  refine pe_wk (pe_call (CX := CX0) (E := E0) F G.room h1 m kp B .nil pass0 (hl.am hc) h2 (star_cons hs.1) (star_none _ hs.2)) fun σ H Q ⟨F0, ρ, cs, env, y, cs', o1, o2, o3, k⟩ => ?_
  simp only [evE] at o3
  obtain ⟨⟨xs, c1⟩, e1, o3⟩ := Res.of_bind o3
  refine ⟨F0, ρ, cs, env, xs, c1, o1, o2, e1, fun F1 ρ1 H1 vs w r => ?_⟩
  have w2 := w
  show spR X.K (C.cl f) (vs ++ []) H1 Q E0
  rw [List.append_nil]
  exact ⟨F1, ρ1, c1, xs, y, cs', w.ok, r, o3, fun F' ρ' H' v w' r' => k F' ρ' H' v (w.trans w') r'⟩
theorem gdk_pe (G : Good Γ C n X) {g : Nat} {x : Str} {np pos : Pos} {y : Expr} {c : E} (h : glB Γ x = true) (hg : Γ.gls[g]? = some x) (hp : plIx y = true) (hy : PE X y (tG X.K C (fg c) c)) : PE X (.Subscript (.Name x np) y pos) (tG X.K C .m (.gdk g c)) := by
  obtain ⟨h1, h2, h3⟩ := G.glob h
  refine ⟨fun pins s σ H Q I ⟨F, ρ, cs, env, z, cs', o1, o2, o3, k⟩ => ?_⟩
  simp only [evE] at o3
  obtain ⟨⟨x1, c1⟩, e1, o3⟩ := Res.of_bind o3
  split at o3
  · rename_i zs kvs ea eb
    have ea : x1 = .d (.str zs) := ea
    subst ea
    split at o3
    · rename_i v hv
      cases o3
      obtain ⟨d, m, hd⟩ := G.gd g x kvs hg eb
      obtain ⟨v0, kd, rel⟩ := hd zs v hv
      refine (pe_ix ix_kdict (pe_glob (v := .ref d) h1 m rfl h2) (tG_x hy) (plIx_of hp)).run pins s σ H Q I ?_
      exact ⟨F, ρ, cs, env, .d (.str zs), c1, o1, o2, e1, fun F1 ρ1 H1 v1 w r => ⟨d, zs, v0, rfl, RelX.str r, kd, k F1 ρ1 H1 v0 w (rel F1)⟩⟩
    · cases o3
  · cases o3
def konW : Kon → V
  | .non => .non
  | .bl b => .bl b
  | .int i => .int i
  | .str s => .str s
theorem kon_raw {c : Kon} {d : Const} {j : Nat} {pos : Pos} (h : konB c d = true) : PE X (.Constant d j pos) (tC (konW c)) := by
  cases c with
  | non => cases d <;> first
    | exact absurd (show false = true from h) Bool.false_ne_true
    | exact pe_non
  | bl b => cases d <;> first
    | exact absurd (show false = true from h) Bool.false_ne_true
    | (have e := of_decide_eq_true h; subst e; exact pe_bl)
  | int b => cases d <;> first
    | exact absurd (show false = true from h) Bool.false_ne_true
    | (have e := of_decide_eq_true h; subst e; exact pe_int)
  | str b => cases d <;> first
    | exact absurd (show false = true from h) Bool.false_ne_true
    | (have e := of_decide_eq_true h; subst e; exact pe_str)
theorem dp_kon {K : PySem.W.Frag} {F : Hp} (c : Kon) : Dp K F (konW c) (konD c) := by
  cases c with
  | non => exact .non
  | bl b => exact .bl b
  | int b => exact .int b
  | str b => exact .str b
theorem pps_dct {pos : Pos} : ∀ {kvs : List (Str × Kon)} {ks : List (Option Expr)} {vs : List Expr}, dctB kvs ks vs = true → PPs X pos ks vs (kvs.map fun p => (tC (.str p.1), tC (konW p.2))) ∧ ks.all (·.isSome) = true ∧ ks.length = kvs.length ∧ vs.length = kvs.length
  | [], [], [], _ => ⟨pps_nil, rfl, rfl, rfl⟩
  | p :: r, some (.Constant (.str z) _ _) :: ks, .Constant d _ _ :: vs, h => by
    simp only [dctB, Bool.and_eq_true, decide_eq_true_eq] at h
    obtain ⟨⟨rfl, h2⟩, h3⟩ := h
    obtain ⟨a, b, c, e⟩ := pps_dct (pos := pos) h3
    exact ⟨pps_cons pe_str (kon_raw h2) a, by rw [List.all_cons, b]; rfl, congrArg (· + 1) c, congrArg (· + 1) e⟩
theorem pairs_dct {σ : L2.St} {H : Hp} : ∀ {kvs : List (Str × Kon)} {Q : List (V × V) → Hp → Prop}, Q (kvs.map fun p => (V.str p.1, konW p.2)) H → tPairs (kvs.map fun p => (tC (V.str p.1), tC (konW p.2))) σ H Q
  | [], _, q => q
  | p :: r, Q, q => pairs_dct (σ := σ) (H := H) (kvs := r) (Q := fun ps H3 => Q ((V.str p.1, konW p.2) :: ps) H3) q
theorem merge_new : ∀ (more kvs : List (Key × V)), ((kvs ++ more).map (·.1)).Nodup → mergeK kvs more = kvs ++ more
  | [], kvs, _ => by rw [List.append_nil]; rfl
  | p :: r, kvs, h => by
    have hn : (kvs.any fun kv => decide (kv.1 = p.1)) = false := by
      rw [List.any_eq_false]
      intro x hx
      rw [List.map_append, List.nodup_append] at h
      have := h.2.2 x.1 (List.mem_map_of_mem hx) p.1 (by simp)
      simpa using this
    have e : putK kvs p.1 p.2 = kvs ++ [p] := by
      unfold putK
      rw [hn]
      rfl
    show mergeK (putK kvs p.1 p.2) r = _
    rw [e, merge_new r (kvs ++ [p]) (by rw [List.append_assoc]; exact h), List.append_assoc]
    rfl
theorem kr_dct {K : PySem.W.Frag} (F : Hp) : ∀ kvs : List (Str × Kon), KR K F (kvs.map fun q => ((.inr q.1 : Key), konW q.2)) (dctV kvs)
  | [] => .nil
  | q :: r => .cons ⟨rfl, dp_kon _⟩ (kr_dct F r)
theorem dct_pe {kvs : List (Str × Kon)} {ks : List (Option Expr)} {vs : List Expr} {pos : Pos} (h : dctB kvs ks vs = true) (hd : (kvs.map (·.1)).Nodup) (h0 : 0 < kvs.length) (h15 : kvs.length ≤ 15) : PE X (.Dict ks vs pos) (tG X.K C .m (.dct kvs)) := by
  obtain ⟨a, b, c, e⟩ := pps_dct (X := X) (pos := pos) h
  refine pe_wk (pe_disp a b (c.trans e.symm) (fun z => by rw [z] at c; simp at c; omega) (by omega)) fun σ H Q ⟨F, ρ, cs, env, x, cs', h1, h2, h3, k⟩ => ?_
  simp only [evE] at h3
  cases h3
  intro p hp
  refine pairs_dct (H := upd H p (.dK [])) ?_
  have hm : mergeK [] (kvs.map fun q => ((.inr q.1 : Key), konW q.2)) = kvs.map fun q => ((.inr q.1 : Key), konW q.2) := by
    have := merge_new (kvs.map fun q => ((.inr q.1 : Key), konW q.2)) [] (by
      rw [List.nil_append, List.map_map]
      have e : ((fun q : Key × V => q.1) ∘ fun q : Str × Kon => ((.inr q.1 : Key), konW q.2)) = Sum.inr ∘ (·.1) := rfl
      rw [e, ← List.map_map]
      exact List.Pairwise.map (S := fun a b : Key => a ≠ b) Sum.inr (fun _ _ (hne : _ ≠ _) hq => hne (Sum.inr.inj hq)) hd)
    exact this
  refine ⟨upd_same, kvs.map fun q => ((.inr q.1 : Key), konW q.2), by rw [List.map_map]; rfl, by rw [List.length_map]; exact h15, ?_⟩
  rw [hm]
  have e2 : upd (upd H p (.dK [])) p (.dK (kvs.map fun q => ((.inr q.1 : Key), konW q.2))) = upd H p (.dK (kvs.map fun q => ((.inr q.1 : Key), konW q.2))) := by
    funext z
    by_cases hz : z = p
    · subst hz; rw [upd_same, upd_same]
    · rw [upd_ne hz, upd_ne hz, upd_ne hz]
  rw [e2]
  refine k _ _ _ _ (Fwd.fresh h1 _ hp) ⟨p, _, rfl, upd_same, ?_⟩
  exact kr_dct _ kvs
theorem disp_pe {ke ve : E} {a b : Expr} {pos : Pos} (ha : PE X a (tG X.K C .m ke)) (hb : PE X b (tG X.K C .m ve)) : PE X (.Dict [some a] [b] pos) (tG X.K C .n (.disp ke ve)) := by
  refine pe_wk (pe_disp (pps_cons ha hb pps_nil) rfl rfl (by simp) (by simp)) fun σ H Q ⟨F, ρ, cs, env, x, cs', h1, h2, h3, k⟩ => ?_
  simp only [evE] at h3
  obtain ⟨⟨x1, c1⟩, e1, h3⟩ := Res.of_bind h3
  obtain ⟨⟨x2, c2⟩, e2, h3⟩ := Res.of_bind h3
  intro p hp
  have w0 := Fwd.own h1 (.dK []) hp
  refine ⟨F, ρ, cs, env, x1, c1, w0.ok, w0.okV h2, e1, fun F1 ρ1 H1 v1 w1 r1 => ⟨F1, ρ1, c1, env, x2, c2, w1.ok, w1.okV (w0.okV h2), e2, fun F2 ρ2 H2 v2 w2 r2 => ?_⟩⟩
  have w := (w0.trans w1).trans w2
  have w12 := w1.trans w2
  have p0 : p ∉ ρ := fun z => h1.at z hp
  have pF : F p = none := h1.sub.free hp
  have q1 := w12.keep p _ upd_same p0
  have q2 := w12.frN (o := .dK []) upd_same pF
  have q3 := w12.notin (o := .dK []) upd_same p0
  have r1 := w2.relM r1
  cases x1 with
  | d y =>
    cases x2 with
    | d z =>
      simp only at h3
      split at h3
      · rename_i kk hk
        cases h3
        have r1 : Dp X.K F2 v1 y := r1
        have r2 : Dp X.K F2 v2 z := r2
        refine ⟨q1, [(kk, v2)], by rw [key_dp r1 hk]; rfl, by simp, ?_⟩
        have em : mergeK ([] : List (Key × V)) [(kk, v2)] = [(kk, v2)] := rfl
        rw [em]
        exact k F2 ρ2 _ _ (w.beside hp q2 q3) ⟨p, _, rfl, upd_same, .cons ⟨rfl, r2⟩ .nil, q2, q3, hp⟩
      · cases h3
    | _ => cases h3
  | _ => cases h3
theorem look_rel {K : PySem.W.Frag} {F : Hp} : ∀ {ks : List (Key × V)} {kvs : List (Key × PyData)} {k : Key} {y : PyData}, KR K F ks kvs → lookK kvs k = some y → ∃ v, valV ks k = some v ∧ Dp K F v y
  | _, _, k, y, .nil, h => by cases h
  | p :: ps, q :: qs, k, y, .cons a t, h => by
    obtain ⟨qk, qv⟩ := q
    simp only [lookK] at h
    by_cases e : qk = k
    · rw [if_pos e] at h
      cases h
      exact ⟨p.2, valV_pos (a.1.trans e), a.2⟩
    · rw [if_neg e] at h
      obtain ⟨v, h1, h2⟩ := look_rel t h
      exact ⟨v, by rw [valV_neg (fun z => e (a.1.symm.trans z))]; exact h1, h2⟩
theorem key_rel {K : PySem.W.Frag} {F H : Hp} {ρ : List Addr} {v : V} {y : PyData} {k : Key} (r : RelX K F ρ H v (.d y)) (h : keyD y = some k) : v = kV k := by
  cases y with
  | int i => cases h; exact r.int
  | str i => cases h; exact r.str
  | _ => cases h
theorem pe_or {X : Cx} {e : Expr} {t1 t2 : TE} (h1 : PE X e t1) (h2 : PE X e t2) : PE X e (fun σ H Q => t1 σ H Q ∨ t2 σ H Q) := ⟨fun pins s σ H Q I h => h.elim (h1.run pins s σ H Q I) (h2.run pins s σ H Q I)⟩
theorem dix_pe (G : Good Γ C n X) {ca ci : E} {a i : Expr} {pos : Pos} (hp : plIx i = true) (ha : PE X a (tG X.K C (fg ca) ca)) (hi : PE X i (tG X.K C (fg ci) ci)) : PE X (.Subscript a i pos) (tG X.K C .m (.dix ca ci)) := by
  have hun := G.room.un
  have ns : NoSl i := by
    intro o z
    cases i <;> first
      | rfl
      | exact absurd (show false = true from hp) Bool.false_ne_true
  refine pe_wk (pe_or (pe_dget (by omega) (tG_x ha) (tG_x hi) ns) (pe_tget G.wd (by omega) (tG_x ha) (tG_x hi) ns)) fun σ H Q ⟨F, ρ, cs, env, y, cs', o1, o2, o3, k⟩ => ?_
  simp only [evE] at o3
  obtain ⟨⟨x1, c1⟩, e1, o3⟩ := Res.of_bind o3
  obtain ⟨⟨x2, c2⟩, e2, o3⟩ := Res.of_bind o3
  split at o3
  · rename_i kvs yy ea eb
    have ea : x1 = .k kvs := ea
    have eb : x2 = .d yy := eb
    subst ea; subst eb
    refine .inl ⟨F, ρ, cs, env, _, c1, o1, o2, e1, fun F1 ρ1 H1 v w r => ⟨F1, ρ1, c1, env, _, c2, w.ok, w.okV o2, e2, fun F2 ρ2 H2 v2 w2 r2 => ?_⟩⟩
    have r : RelX X.K F2 ρ2 H2 v (.k kvs) := w2.relX r
    have r2 : RelX X.K F2 ρ2 H2 v2 (.d yy) := r2
    split at o3
    · rename_i vv hv
      cases o3
      obtain ⟨kk, hk, hl⟩ := Option.bind_eq_some_iff.mp hv
      have e := key_rel r2 hk
      rcases r with ⟨p, ks, rfl, hF, kr⟩ | ⟨p, ks, rfl, hH, kr, hn⟩
      · obtain ⟨u, h1, h2⟩ := look_rel kr hl
        exact ⟨p, u, rfl, .inl ⟨ks, kk, .inl (w2.ok.sub _ _ hF), e, h1.symm⟩, k F2 ρ2 H2 u (w.trans w2) h2⟩
      · obtain ⟨u, h1, h2⟩ := look_rel kr hl
        exact ⟨p, u, rfl, .inl ⟨ks, kk, .inl hH, e, h1.symm⟩, k F2 ρ2 H2 u (w.trans w2) h2⟩
    · cases o3
  · rename_i kvs yy ea eb
    have ea : x1 = .t kvs := ea
    have eb : x2 = .d yy := eb
    subst ea; subst eb
    refine .inr ⟨F, ρ, cs, env, _, c1, o1, o2, e1, fun F1 ρ1 H1 v w r => ⟨F1, ρ1, c1, env, _, c2, w.ok, w.okV o2, e2, fun F2 ρ2 H2 v2 w2 r2 => ?_⟩⟩
    have r : RelX X.K F2 ρ2 H2 v (.t kvs) := w2.relX r
    have r2 : RelX X.K F2 ρ2 H2 v2 (.d yy) := r2
    split at o3
    · rename_i vv hv
      cases o3
      obtain ⟨p, zs, rfl, hH, tr⟩ := r.tdict w2.ok
      obtain ⟨n, hn⟩ := tr_look_key tr hv
      obtain ⟨q, u, h1, h2, h3⟩ := tr_look hn tr hv
      obtain ⟨z, i, rfl, _⟩ := nkD_of hn
      have hd := r2.dp w2.ok
      obtain ⟨b, ws, rfl, _⟩ := r2.tup w2.ok
      exact ⟨p, u, rfl, ⟨zs, b, _, n, q, hH, rfl, hd, hn, h1, h2, tr_all w2.ok.sub tr⟩, k F2 ρ2 H2 u (w.trans w2) h3⟩
    · cases o3
  · cases o3
theorem PEl.km : ∀ {cs : Es} {kws : List Keyword}, cleanEs cs = true → PEl X C cs (kws.map (·.value)) → PK X kws (tAr X.K C .m cs)
  | .nil, [], _, _ => ⟨fun pos pins s σ H Q I ⟨F, ρ, cs, env, xs, cs', h1, h2, h3, k⟩ => by
    simp only [evEs] at h3
    cases h3
    exact pk_nil.run pos pins s σ H Q I (k F ρ H [] (Fwd.refl h1) .nil)⟩
  | .cons c cs, kw :: kws, hc, ⟨h, hn, t⟩ => ⟨fun pos pins s σ H Q I ⟨F, ρ, cs0, env, xs, cs', h1, h2, h3, k⟩ => by
    simp only [cleanEs, Bool.and_eq_true] at hc
    simp only [evEs] at h3
    obtain ⟨⟨x1, c1⟩, e1, h3⟩ := Res.of_bind h3
    obtain ⟨⟨ys, c2⟩, e2, h3⟩ := Res.of_bind h3
    cases h3
    obtain ⟨nm, v, kp⟩ := kw
    refine (pk_cons (tG_m h (of_decide_eq_true hc.1)) (PEl.km hc.2 t)).run pos pins s σ H Q I ?_
    refine ⟨F, ρ, cs0, env, x1, c1, h1, h2, e1, fun F1 ρ1 H1 v1 w1 r1 => ⟨F1, ρ1, c1, env, ys, _, w1.ok, w1.okV h2, e2, fun F2 ρ2 H2 vs w2 r2 => ?_⟩⟩
    exact k F2 ρ2 H2 _ (w1.trans w2) (.cons (w2.relM r1) r2)⟩
  | .nil, _ :: _, _, h => h.elim
  | .cons _ _, [], _, h => h.elim
theorem kw_all {env : PySem.Env} (pos : Pos) : ∀ {kws : List Keyword} {ks : List Str}, kws.map (·.arg) = ks.map some → (backToKw pos (keywordEach kws env)).all (·.1.isSome) = true ∧ (backToKw pos (keywordEach kws env)).filterMap (·.1) = ks ∧ (backToKw pos (keywordEach kws env)).any (·.1.isNone) = false
  | [], [], _ => ⟨rfl, rfl, rfl⟩
  | [], _ :: _, h => by cases h
  | _ :: _, [], h => by cases h
  | kw :: kws, k :: ks, h => by
    obtain ⟨nm, v, kp⟩ := kw
    rw [List.map_cons, List.map_cons, List.cons.injEq] at h
    obtain ⟨e, h⟩ := h
    have e : nm = some k := e
    subst e
    obtain ⟨a, b, c⟩ := kw_all (env := env) pos h
    unfold backToKw at a b c ⊢
    unfold keywordEach
    refine ⟨?_, ?_, ?_⟩
    · rw [List.map_cons, List.all_cons, a]; rfl
    · exact congrArg (List.cons k) b
    · rw [List.map_cons, List.any_cons, c]; rfl
theorem relXs_len' {K : PySem.W.Frag} {g : Fg} {F : Hp} {ρ : List Addr} {H : Hp} : ∀ {vs : List V} {xs : List MV}, RelXs g K F ρ H vs xs → vs.length = xs.length
  | _, _, .nil => rfl
  | _, _, .cons _ t => by rw [List.length_cons, List.length_cons, relXs_len' t]
theorem relXs_up {K : PySem.W.Frag} {F F' : Hp} {ρ ρ' : List Addr} {H H' : Hp} {cs' : Cells} (w : Fwd K F ρ H F' ρ' cs' H') : ∀ {vs : List V} {xs : List MV}, RelXs .m K F ρ H vs xs → RelXs .m K F' ρ' H' vs xs
  | _, _, .nil => .nil
  | _, _, .cons h t => .cons (w.relM h) (relXs_up w t)
/-- f(e, .., k = v, ..) with nothing by place -/
theorem pe_callN0 {CX : CXT} {k : Nat} {f : Addr} {fd : FuncData} {ps ks : List Str} {sp : Sp} {E : XK} {x : Str} {p pos : Pos} {kws : List Keyword} {tk : TA} {g : List Value → List Value → List Value} {gV : List V → List V → List V}
    (F : FnOk X.prog X.w X.K X.mg X.base CX k f fd ps sp) (hr : Room k X.A) (hg : Gl X x) (hm : X.mg x = some (.ref f)) (hk : PySem.W.keepIn X.K (.ref f) = true) (hb : KBn X.K fd ps 0 ks g gV) (hx : Passes CX X E)
    (hkw : PK X kws tk) (hall : (backToKw pos (keywordEach kws X.env)).all (·.1.isSome) = true) (hks : (backToKw pos (keywordEach kws X.env)).filterMap (·.1) = ks) (hdb : (x == ("__debug__" : Str)) = false)
    (hpl : ((backTo pos (starEach [] X.env)).any (·.1) || (backToKw pos (keywordEach kws X.env)).any (·.1.isNone)) = false) :
    PE X (.Call (.Name x p) [] kws pos) (fun σ H Q => tk σ H fun zs H2 => zs.length = ks.length ∧ sp (gV [] zs) H2 Q E) := by
  refine ⟨fun pins s σ H Q I h => ?_⟩
  refine wpAny_Call_Name_kw (ld_glob I hg hm ?_ hdb)
  refine PySem.W.callWith_KW0 (h₀ := X.base) I.ok.mod.kin hk hall (thn (hkw.run pos pins s σ H _ I h) fun ws s2 ⟨zs, H2, I2, rz, l2, q2⟩ => ⟨I2.kIn, ?_⟩) hpl
  rw [hks]
  exact run_fnN F hr hb hx I2 .nil rz rfl l2 q2
theorem callK_pe (G : Good Γ C n X) {j : Nat} {fo : KForm} {x : Str} {p pos : Pos} {as : List Expr} {kws : List Keyword} {es kes : Es} (h : glB Γ x = true) (hj : Γ.kws[j]? = some fo) (hx : x = fo.x) (hn : as.length = fo.n) (hk : kws.map (·.arg) = fo.ks.map some)
    (hl : PEl X C es as) (hc : cleanEs es = true) (hl2 : PEl X C kes (kws.map (·.value))) (hc2 : cleanEs kes = true) : PE X (.Call (.Name x p) as kws pos) (tG X.K C .m (.callK j es kes)) := by
  subst hx
  obtain ⟨h1, h2, h3⟩ := G.glob h
  obtain ⟨fa, fd, ps, g, gV, m, kp, F, B, rel⟩ := G.kw j fo hj
  obtain ⟨k1, k2, k3⟩ := kw_all (env := X.env) pos hk
  have read : ∀ {σ : L2.St} {H : Hp} {Q : VK}, tG X.K C .m (.callK j es kes) σ H Q → tAr X.K C .m es σ H fun vs H1 => tAr X.K C .m kes σ H1 fun zs H2 => vs.length = fo.n ∧ zs.length = fo.ks.length ∧ spR X.K (C.cl fo.f) (gV vs zs) H2 Q E0 := by
    intro σ H Q ⟨F0, ρ, cs, env, y, cs', o1, o2, o3, k⟩
    simp only [evE] at o3
    obtain ⟨⟨xs, c1⟩, e1, o3⟩ := Res.of_bind o3
    obtain ⟨⟨ys, c2⟩, e2, o3⟩ := Res.of_bind o3
    rw [G.kws, hj] at o3
    simp only at o3
    split at o3
    · rename_i hz
      simp only [Bool.and_eq_true, decide_eq_true_eq] at hz
      split at o3
      · rename_i ws hw
        refine ⟨F0, ρ, cs, env, xs, c1, o1, o2, e1, fun F1 ρ1 H1 vs w1 r1 => ⟨F1, ρ1, c1, env, ys, c2, w1.ok, w1.okV o2, e2, fun F2 ρ2 H2 zs w2 r2 => ?_⟩⟩
        have r1' := relXs_up w2 r1
        refine ⟨by rw [relXs_len' r1']; exact hz.1, by rw [relXs_len' r2]; exact hz.2, ?_⟩
        exact ⟨F2, ρ2, c2, ws, y, cs', w2.ok, rel F2 ρ2 H2 vs zs xs ys ws r1' r2 hw, o3, fun F' ρ' H' v w' r' => k F' ρ' H' v ((w1.trans w2).trans w') r'⟩
      · cases o3
    · cases o3
  cases as with
  | nil =>
    have hn0 : fo.n = 0 := hn.symm
    rw [hn0] at B
    refine pe_wk (pe_callN0 (CX := CX0) (E := E0) F G.room h1 m kp B pass0 (hl2.km hc2) k1 k2 h2 (by rw [k3]; rfl)) fun σ H Q q => ?_
    obtain ⟨F0, ρ, cs, env, xs, c1, o1, o2, e1, k⟩ := read q
    cases es with
    | nil =>
      simp only [evEs] at e1
      cases e1
      obtain ⟨F2, ρ2, c2, env2, ys, c3, p1, p2, p3, k⟩ := k F0 ρ H [] (Fwd.refl o1) .nil
      exact ⟨F2, ρ2, c2, env2, ys, c3, p1, p2, p3, fun F' ρ' H' zs w r => (k F' ρ' H' zs w r).2⟩
    | cons _ _ => exact hl.elim
  | cons a as =>
    have hs := hl.all
    rw [List.all_cons, Bool.and_eq_true] at hs
    refine pe_wk (pe_callN (CX := CX0) (E := E0) F G.room h1 m kp B pass0 (hl.am hc) (hl2.km hc2) k1 k2 h2 (star_cons hs.1) ?_) fun σ H Q q => read q
    rw [k3, Bool.or_false]
    rw [star_cons hs.1]
    exact (star_none pos (es := as) hs.2)
theorem cidx_pe (G : Good Γ C n X) {ca ci : E} {a i : Expr} {pos : Pos} (hp : plIx i = true) (ha : PE X a (tG X.K C (fg ca) ca)) (hi : PE X i (tG X.K C (fg ci) ci)) : PE X (.Subscript a i pos) (tG X.K C .m (.cidx ca ci)) := by
  refine pe_wk (pe_ix ix_list (tG_x ha) (tG_x hi) (plIx_of hp)) fun σ H Q ⟨F, ρ, cs, env, y, cs', o1, o2, o3, k⟩ => ?_
  simp only [evE] at o3
  obtain ⟨⟨x1, c1⟩, e1, o3⟩ := Res.of_bind o3
  obtain ⟨⟨x2, c2⟩, e2, o3⟩ := Res.of_bind o3
  refine ⟨F, ρ, cs, env, x1, c1, o1, o2, e1, fun F1 ρ1 H1 v w r => ⟨F1, ρ1, c1, env, x2, c2, w.ok, w.okV o2, e2, fun F2 ρ2 H2 v2 w2 r2 => ?_⟩⟩
  have r : RelX X.K F2 ρ2 H2 v x1 := w2.relX r
  have r2 : RelX X.K F2 ρ2 H2 v2 x2 := r2
  have ww := w.trans w2
  cases x1 with
  | r m =>
    cases x2 with
    | d d2 =>
      cases d2 with
      | int j =>
        simp only at o3
        split at o3
        · rename_i xs hcell
          obtain ⟨z, e3, o3⟩ := Res.of_bind o3
          cases o3
          simp only [atD] at e3
          split at e3
          · rename_i d he
            cases e3
            rcases r with r | r
            · obtain ⟨q, rfl, hq⟩ := r
              obtain ⟨vs, h1, h2⟩ := ww.ok.cell m q _ hq hcell
              obtain ⟨u, h3, h4⟩ := atI_rel h2 he
              exact ⟨q, vs, j, u, rfl, r2.int, SqL.of h1, h3, k F2 ρ2 H2 u ww h4⟩
            · exact r.elim
          · cases e3
        · cases o3
      | _ => simp at o3
    | _ => simp at o3
  | _ => simp at o3
theorem boolTail_cases {op : BoolOp} {y : Expr} {rest : List Expr} {pos : Pos} : (rest = [] ∧ boolTail op y rest pos = y) ∨ (rest ≠ [] ∧ boolTail op y rest pos = .BoolOp op (y :: rest) pos) := by
  cases rest with
  | nil => exact .inl ⟨rfl, rfl⟩
  | cons z zs => exact .inr ⟨by simp, rfl⟩
theorem tail_pe {op : BoolOp} {y : Expr} {rest : List Expr} {pos : Pos} {t : TE} (h : PE X (boolTail op y rest pos) t) : PE X (.BoolOp op (y :: rest) pos) t := by
  rcases boolTail_cases (op := op) (y := y) (rest := rest) (pos := pos) with ⟨e, e2⟩ | ⟨e, e2⟩
  · rw [e2] at h; subst e; exact pe_one h
  · rw [e2] at h; exact h
theorem tail_pw {op : BoolOp} {y : Expr} {rest : List Expr} {pos : Pos} {t : TT} (h1 : rest = [] → PT X y t) (h : rest ≠ [] → PW X (boolTail op y rest pos) t) : PW X (.BoolOp op (y :: rest) pos) t := by
  rcases boolTail_cases (op := op) (y := y) (rest := rest) (pos := pos) with ⟨e, e2⟩ | ⟨e, e2⟩
  · subst e
    cases op with
    | And => exact pw_and1 (h1 rfl)
    | Or => exact pw_or1 (h1 rfl)
  · have h := h e; rw [e2] at h; exact h
theorem and_pe {a b : E} {x y : Expr} {rest : List Expr} {pos : Pos} (ha : PE X x (tG X.K C .m a)) (hb : PE X (boolTail .And y rest pos) (tG X.K C .m b)) : PE X (.BoolOp .And (x :: y :: rest) pos) (tG X.K C .m (.and a b)) := by
  refine pe_wk (pe_andT ha (tail_pe hb)) fun σ H Q ⟨F, ρ, cs, env, z, cs', o1, o2, o3, k⟩ => ?_
  simp only [evE] at o3
  obtain ⟨⟨x1, c1⟩, e1, o3⟩ := Res.of_bind o3
  obtain ⟨t, e2, o3⟩ := Res.of_bind o3
  refine ⟨F, ρ, cs, env, x1, c1, o1, o2, e1, fun F1 ρ1 H1 v w r => ⟨t, truV_of (cs := c1) (.inl r) e2, ?_⟩⟩
  cases t with
  | true => exact iteT ⟨F1, ρ1, c1, env, z, cs', w.ok, w.okV o2, o3, fun F2 ρ2 H2 v2 w2 r2 => k F2 ρ2 H2 v2 (w.trans w2) r2⟩
  | false =>
    cases o3
    exact iteF (k F1 ρ1 H1 v w r)
theorem or_pe {a b : E} {x y : Expr} {rest : List Expr} {pos : Pos} (ha : PE X x (tG X.K C .m a)) (hb : PE X (boolTail .Or y rest pos) (tG X.K C .m b)) : PE X (.BoolOp .Or (x :: y :: rest) pos) (tG X.K C .m (.or a b)) := by
  refine pe_wk (pe_orT ha (tail_pe hb)) fun σ H Q ⟨F, ρ, cs, env, z, cs', o1, o2, o3, k⟩ => ?_
  simp only [evE] at o3
  obtain ⟨⟨x1, c1⟩, e1, o3⟩ := Res.of_bind o3
  obtain ⟨t, e2, o3⟩ := Res.of_bind o3
  refine ⟨F, ρ, cs, env, x1, c1, o1, o2, e1, fun F1 ρ1 H1 v w r => ⟨t, truV_of (cs := c1) (.inl r) e2, ?_⟩⟩
  cases t with
  | false => exact iteF ⟨F1, ρ1, c1, env, z, cs', w.ok, w.okV o2, o3, fun F2 ρ2 H2 v2 w2 r2 => k F2 ρ2 H2 v2 (w.trans w2) r2⟩
  | true =>
    cases o3
    exact iteT (k F1 ρ1 H1 v w r)
theorem and_pw {a b : E} {x : Expr} {rest : List Expr} {pos : Pos} (ha : PT X x (tTst X.K C a)) (hb : PW X (.BoolOp .And rest pos) (tTst X.K C b)) (hr : ∃ y ys, rest = y :: ys) : PW X (.BoolOp .And (x :: rest) pos) (tTst X.K C (.and a b)) := by
  obtain ⟨y, ys, rfl⟩ := hr
  refine pw_wk (pw_and ha hb) fun σ H Q ⟨F, ρ, cs, env, z, cs', d, o1, o2, o3, o4, k⟩ => ?_
  simp only [evE] at o3
  obtain ⟨⟨x1, c1⟩, e1, o3⟩ := Res.of_bind o3
  obtain ⟨t, e2, o3⟩ := Res.of_bind o3
  refine ⟨F, ρ, cs, env, x1, c1, t, o1, o2, e1, e2, fun F1 ρ1 H1 w => ?_⟩
  cases t with
  | true => exact iteT ⟨F1, ρ1, c1, env, z, cs', d, w.ok, w.okV o2, o3, o4, fun F2 ρ2 H2 w2 => k F2 ρ2 H2 (w.trans w2)⟩
  | false =>
    cases o3
    have o5 := e2.symm.trans o4
    cases o5
    exact iteF (k F1 ρ1 H1 w)
theorem or_pw {a b : E} {x : Expr} {rest : List Expr} {pos : Pos} (ha : PT X x (tTst X.K C a)) (hb : PW X (.BoolOp .Or rest pos) (tTst X.K C b)) (hr : ∃ y ys, rest = y :: ys) : PW X (.BoolOp .Or (x :: rest) pos) (tTst X.K C (.or a b)) := by
  obtain ⟨y, ys, rfl⟩ := hr
  refine pw_wk (pw_or ha hb) fun σ H Q ⟨F, ρ, cs, env, z, cs', d, o1, o2, o3, o4, k⟩ => ?_
  simp only [evE] at o3
  obtain ⟨⟨x1, c1⟩, e1, o3⟩ := Res.of_bind o3
  obtain ⟨t, e2, o3⟩ := Res.of_bind o3
  refine ⟨F, ρ, cs, env, x1, c1, t, o1, o2, e1, e2, fun F1 ρ1 H1 w => ?_⟩
  cases t with
  | false => exact iteF ⟨F1, ρ1, c1, env, z, cs', d, w.ok, w.okV o2, o3, o4, fun F2 ρ2 H2 w2 => k F2 ρ2 H2 (w.trans w2)⟩
  | true =>
    cases o3
    have o5 := e2.symm.trans o4
    cases o5
    exact iteT (k F1 ρ1 H1 w)
theorem not_pe {a : E} {x : Expr} {pos : Pos} (ha : PE X x (tG X.K C .x a)) : PE X (.UnaryOp .Not x pos) (tG X.K C .m (.not a)) := by
  refine pe_wk (pe_notT ha) fun σ H Q ⟨F, ρ, cs, env, z, cs', o1, o2, o3, k⟩ => ?_
  simp only [evE] at o3
  obtain ⟨⟨x1, c1⟩, e1, o3⟩ := Res.of_bind o3
  obtain ⟨t, e2, o3⟩ := Res.of_bind o3
  cases o3
  exact ⟨F, ρ, cs, env, x1, c1, o1, o2, e1, fun F1 ρ1 H1 v w r => ⟨t, truV_of (cs := c1) r e2, k F1 ρ1 H1 _ w (.bl _)⟩⟩
theorem not_pt {a : E} {x : Expr} {pos : Pos} (ha : PT X x (tTst X.K C a)) : PT X (.UnaryOp .Not x pos) (tTst X.K C (.not a)) := by
  refine pt_wk (pt_not ha) fun σ H Q ⟨F, ρ, cs, env, z, cs', d, o1, o2, o3, o4, k⟩ => ?_
  simp only [evE] at o3
  obtain ⟨⟨x1, c1⟩, e1, o3⟩ := Res.of_bind o3
  obtain ⟨t, e2, o3⟩ := Res.of_bind o3
  cases o3
  cases o4
  exact ⟨F, ρ, cs, env, x1, c1, t, o1, o2, e1, e2, fun F1 ρ1 H1 w => k F1 ρ1 H1 w⟩
theorem ite_pe {t a b : E} {x y z : Expr} {pos : Pos} (ht : PT X x (tTst X.K C t)) (ha : PE X y (tG X.K C .m a)) (hb : PE X z (tG X.K C .m b)) : PE X (.IfExp x y z pos) (tG X.K C .m (.ite t a b)) := by
  refine pe_wk (pe_ifExp ht ha hb) fun σ H Q ⟨F, ρ, cs, env, u, cs', o1, o2, o3, k⟩ => ?_
  simp only [evE] at o3
  obtain ⟨⟨x1, c1⟩, e1, o3⟩ := Res.of_bind o3
  obtain ⟨d, e2, o3⟩ := Res.of_bind o3
  refine ⟨F, ρ, cs, env, x1, c1, d, o1, o2, e1, e2, fun F1 ρ1 H1 w => ?_⟩
  cases d with
  | true => exact iteT ⟨F1, ρ1, c1, env, u, cs', w.ok, w.okV o2, o3, fun F2 ρ2 H2 v2 w2 r2 => k F2 ρ2 H2 v2 (w.trans w2) r2⟩
  | false => exact iteF ⟨F1, ρ1, c1, env, u, cs', w.ok, w.okV o2, o3, fun F2 ρ2 H2 v2 w2 r2 => k F2 ρ2 H2 v2 (w.trans w2) r2⟩
/-- a chain's reading -/
theorem chain_wk {o o' : CO} {a b c : E} {σ : L2.St} {H : Hp} {Q : VK} (h : tG X.K C .m (.chain o o' a b c) σ H Q) : tChain (rCo X.K o) (rCo X.K o') (tG X.K C .x a) (tG X.K C .x b) (tG X.K C .x c) σ H Q := by
  obtain ⟨F, ρ, cs, env, u, cs', o1, o2, o3, k⟩ := h
  simp only [evE] at o3
  obtain ⟨⟨x1, c1⟩, e1, o3⟩ := Res.of_bind o3
  obtain ⟨⟨x2, c2⟩, e2, o3⟩ := Res.of_bind o3
  obtain ⟨t, e3, o3⟩ := Res.of_bind o3
  obtain ⟨d, e4, o3⟩ := Res.of_bind o3
  refine ⟨F, ρ, cs, env, x1, c1, o1, o2, e1, fun F1 ρ1 H1 v w r => ⟨F1, ρ1, c1, env, x2, c2, w.ok, w.okV o2, e2, fun F2 ρ2 H2 v2 w2 r2 => ?_⟩⟩
  have ww := w.trans w2
  refine o_cmp o F2 ρ2 c2 H2 v v2 x1 x2 t _ ww.ok (w2.relX r) r2 e3 fun F3 H3 v3 w3 r3 => ?_
  have e := truth_bool e4 (cmp_bool e3)
  subst e
  have r3 : Dp X.K F3 v3 (.bool d) := r3
  cases r3
  have w33 := ww.trans w3
  refine ⟨d, rfl, ?_⟩
  cases hd : d with
  | true =>
    rw [hd] at o3
    have o3 : ((evE C c env c2).bind fun u => (primF (.cmp o') [x2, u.1]).bind fun y => .ok (y, u.2)) = .ok (u, cs') := o3
    obtain ⟨⟨x3, c3⟩, e5, o3⟩ := Res.of_bind o3
    obtain ⟨y, e6, o3⟩ := Res.of_bind o3
    cases o3
    refine iteT ⟨F3, ρ2, c2, env, x3, c3, w3.ok, w33.okV o2, e5, fun F4 ρ4 H4 v4 w4 r4 => ?_⟩
    have w44 := w33.trans w4
    exact o_cmp o' F4 ρ4 c3 H4 v2 v4 x2 x3 u _ w44.ok (w4.relX (w3.relX r2)) r4 e6 fun F5 H5 v5 w5 r5 => k F5 ρ4 H5 v5 (w44.trans w5) r5
  | false =>
    rw [hd] at o3
    have o3 : Res.ok (MV.d (.bool false), c2) = .ok (u, cs') := o3
    cases o3
    exact iteF (k F3 ρ2 H3 _ w33 (.bl _))
theorem chain_bool {C : Cxt} {o o' : CO} {a b c : E} {env : Env} {cs cs' : Cells} {x : MV} (h : evE C (.chain o o' a b c) env cs = .ok (x, cs')) : ∃ d, x = .d (.bool d) := by
  simp only [evE] at h
  obtain ⟨⟨x1, c1⟩, e1, h⟩ := Res.of_bind h
  obtain ⟨⟨x2, c2⟩, e2, h⟩ := Res.of_bind h
  obtain ⟨t, e3, h⟩ := Res.of_bind h
  obtain ⟨d, e4, h⟩ := Res.of_bind h
  split at h
  · obtain ⟨⟨x3, c3⟩, e5, h⟩ := Res.of_bind h
    obtain ⟨y, e6, h⟩ := Res.of_bind h
    cases h
    exact cmp_bool e6
  · cases h
    exact ⟨false, rfl⟩
theorem last_mk {o o' : CO} {y z : Expr} (h : noMk o' z = true) : lastMarks [coOp o, coOp o'] [y, z] = false := by
  show lastMarks [coOp o'] [z] = false
  show behindInMarks (coOp o') z = false
  exact noMk_of h
theorem chain_pe (G : Good Γ C n X) {o o' : CO} {a b c : E} {x y z : Expr} {pos : Pos} (hm : noMk o' z = true) (ha : PE X x (tG X.K C .x a)) (hb : PE X y (tG X.K C .x b)) (hc : PE X z (tG X.K C .x c)) : PE X (.Compare x [coOp o, coOp o'] [y, z] pos) (tG X.K C .m (.chain o o' a b c)) :=
  pe_wk (pe_chain (opr_co G.room o) (opr_co G.room o') ha hb hc (last_mk hm)) fun _ _ _ h => chain_wk h
theorem chain_pt (G : Good Γ C n X) {o o' : CO} {a b c : E} {x y z : Expr} {pos : Pos} (hm : noMk o' z = true) (ha : PE X x (tG X.K C .x a)) (hb : PE X y (tG X.K C .x b)) (hc : PE X z (tG X.K C .x c)) : PT X (.Compare x [coOp o, coOp o'] [y, z] pos) (tTst X.K C (.chain o o' a b c)) :=
  pt_wk (pt_chain (opr_co G.room o) (opr_co G.room o') ha hb hc (last_mk hm)) fun σ H Q ⟨F, ρ, cs, env, u, cs', d, o1, o2, o3, o4, k⟩ => by
    refine chain_wk (X := X) ⟨F, ρ, cs, env, u, cs', o1, o2, o3, fun F' ρ' H' v w r => ?_⟩
    have e := truth_bool o4 (chain_bool o3)
    subst e
    have r : Dp X.K F' v (.bool d) := r
    cases r
    exact ⟨d, rfl, k F' ρ' H' w⟩
end
end R

namespace R
open PySem PySem.Spec PyProof.Rows L2
variable [W0]
/-- the tests of a list of expressions -/
def PTl (X : Cx) (C : Cxt) : Es → List Expr → Prop
  | .nil, [] => True
  | .cons c cs, e :: es => (notIf e = true → PT X e (tTst X.K C c)) ∧ PTl X C cs es
  | _, _ => False
theorem cnd_pts {X : Cx} {C : Cxt} {cnd : Es} {ifs : List Expr} (h : PTl X C cnd ifs) (h1 : oneB ifs = true) (h2 : ifs.all (fun e => notIf e) = true) : PTs X ifs (tCnd X.K C cnd) := by
  have wk : ∀ {t t' : TT}, PTs X ifs t → (∀ σ H Q, t' σ H Q → t σ H Q) → PTs X ifs t' := fun h w => ⟨fun pins s σ H Q I q => h.run pins s σ H Q I (w σ H Q q)⟩
  cases cnd with
  | nil =>
    cases ifs with
    | nil =>
      refine wk pts_nil fun σ H Q ⟨F, ρ, cs, env, b, cs', o1, o2, o3, k⟩ => ?_
      simp only [evT] at o3
      cases o3
      exact k F ρ H (Fwd.refl o1)
    | cons _ _ => exact h.elim
  | cons c cs =>
    cases ifs with
    | nil => exact h.elim
    | cons e es =>
      cases es with
      | cons _ _ => exact absurd (show false = true from h1) Bool.false_ne_true
      | nil =>
        cases cs with
        | cons _ _ => exact h.2.elim
        | nil =>
          rw [List.all_cons, Bool.and_eq_true] at h2
          exact wk (pts_one (h.1 h2.1)) fun σ H Q ⟨F, ρ, cs, env, b, cs', o1, o2, o3, k⟩ => by
            simp only [evT] at o3
            obtain ⟨⟨x1, c1⟩, e1, o3⟩ := Res.of_bind o3
            obtain ⟨t, e2, o3⟩ := Res.of_bind o3
            cases o3
            exact ⟨F, ρ, cs, env, x1, c1, _, o1, o2, e1, e2, k⟩
theorem OkE.m {X : Cx} {C : Cxt} {c : E} {e : Expr} (h : OkE X C c e) (hc : cleanE c = true) : PE X e (tG X.K C .m c) := tG_m h.pe (of_decide_eq_true hc)
theorem OkE.x {X : Cx} {C : Cxt} {c : E} {e : Expr} (h : OkE X C c e) : PE X e (tG X.K C .x c) := tG_x h.pe
/-- a test within and, or: never a conditional expression here -/
theorem OkE.bt {X : Cx} {C : Cxt} {c : E} {op : BoolOp} {y : Expr} {rest : List Expr} {pos : Pos} (h : OkE X C c (boolTail op y rest pos)) (hy : notIf (boolTail op y rest pos) = true) : PW X (.BoolOp op (y :: rest) pos) (tTst X.K C c) := by
  refine tail_pw (fun e => ?_) (fun e => ?_)
  · subst e
    exact h.pt hy
  · cases rest with
    | nil => exact absurd rfl e
    | cons z zs => exact h.pw rfl
def notIfs : Expr → Bool
  | .BoolOp _ es _ => es.all (fun e => notIf e)
  | _ => true
mutual
theorem okE {n : Nat} {C : Cxt} : ∀ (c : E) (Γ : Gam) (e : Expr) (X : Cx), Good Γ C n X → chkE c Γ e = true → OkE X C c e
  | .var i, Γ, e, X, G, h => by
    simp only [chkE] at h
    split at h
    · exact OkE.plain (var_pe G h) rfl
    · cases h
  | .own i, Γ, e, X, G, h => by
    simp only [chkE] at h
    split at h
    · exact OkE.plain (own_pe G h) rfl
    · cases h
  | .k c, Γ, e, X, G, h => by
    simp only [chkE] at h
    split at h
    · exact OkE.plain (kon_pe h) rfl
    · cases h
  | .glob g, Γ, e, X, G, h => by
    simp only [chkE] at h
    split at h
    · simp only [Bool.and_eq_true, decide_eq_true_eq] at h
      exact OkE.plain (glob_pe G h.1 h.2) rfl
    · cases h
  | .dct kvs, Γ, e, X, G, h => by
    simp only [chkE] at h
    split at h
    · simp only [Bool.and_eq_true, decide_eq_true_eq] at h
      exact OkE.plain (dct_pe h.1.1 h.1.2 h.2.1 h.2.2) rfl
    · cases h
  | .dix a i, Γ, e, X, G, h => by
    simp only [chkE] at h
    split at h
    · rename_i x y pos
      simp only [Bool.and_eq_true] at h
      exact OkE.plain (dix_pe G h.1.1 (okE a Γ x X G h.1.2).pe (okE i Γ y X G h.2).pe) rfl
    · cases h
  | .gdk g c, Γ, e, X, G, h => by
    simp only [chkE] at h
    split at h
    · rename_i x np y pos
      simp only [Bool.and_eq_true, decide_eq_true_eq] at h
      obtain ⟨⟨⟨h1, h2⟩, h3⟩, h4⟩ := h
      exact OkE.plain (gdk_pe G h1 h2 h3 (okE c Γ y X G h4).pe) rfl
    · cases h
  | .callK j es kes, Γ, e, X, G, h => by
    simp only [chkE] at h
    split at h
    · rename_i x p as kws pos
      split at h
      · rename_i fo hfo
        simp only [Bool.and_eq_true, decide_eq_true_eq] at h
        obtain ⟨⟨⟨⟨⟨⟨⟨h1, h2⟩, h3⟩, h4⟩, h5⟩, h6⟩, h7⟩, h8⟩ := h
        exact OkE.plain (callK_pe G h1 hfo h2 h3 h4 (okEs es Γ as X G h5).1 h6 (okEs kes Γ _ X G h7).1 h8) rfl
      · cases h
    · cases h
  | .prim p es, Γ, e, X, G, h => by
    simp only [chkE] at h
    split at h
    · rename_i as hp
      simp only [Bool.and_eq_true, Bool.or_eq_true, Bool.not_eq_true'] at h
      obtain ⟨hl, ht⟩ := okEs es Γ as X G h.1
      have hm : needM p = true → cleanEs es = true := fun q => h.2.elim (fun z => by rw [z] at q; cases q) id
      have pe : PE X e (tG X.K C (fgP p) (.prim p es)) := pe_prim G hp hl hm
      by_cases hpl : plT e = true
      · exact OkE.plain pe hpl
      · -- a comparison: its own test
        refine ⟨pe, fun _ => ?_, fun z => ?_⟩
        · cases p with
          | cmp o =>
            simp only [partsP] at hp
            split at hp
            · split at hp
              · rename_i hx
                cases hp
                simp only [Bool.and_eq_true, decide_eq_true_eq] at hx
                obtain ⟨rfl, hx⟩ := hx
                obtain ⟨ca, cb, rfl, ha, hb⟩ := hl.two
                exact pt_cmpE G ha hb hx
              · cases hp
            · cases hp
          | ninT =>
            simp only [partsP] at hp
            split at hp
            · split at hp
              · rename_i hx
                cases hp
                simp only [Bool.and_eq_true, decide_eq_true_eq] at hx
                obtain ⟨rfl, hx⟩ := hx
                obtain ⟨ca, cb, rfl, ha, hb⟩ := hl.two
                exact pt_ninE G ha hb hx
              · cases hp
            · cases hp
          | ninK =>
            simp only [partsP] at hp
            split at hp
            · split at hp
              · rename_i hx
                cases hp
                simp only [Bool.and_eq_true, decide_eq_true_eq] at hx
                obtain ⟨rfl, hx⟩ := hx
                obtain ⟨ca, cb, rfl, ha, hb⟩ := hl.two
                exact pt_ninKE G ha hb hx
              · cases hp
            · cases hp
          | lenSet =>
            exfalso
            simp only [partsP] at hp
            split at hp
            · exact hpl rfl
            · cases hp
          | neg =>
            simp only [partsP] at hp
            split at hp
            · exact absurd rfl hpl
            · cases hp
          | isi ts =>
            exfalso
            simp only [partsP] at hp
            split at hp
            · unfold isiOne at hp
              split at hp
              · exact hpl rfl
              · cases hp
            · unfold isiMany at hp
              split at hp
              · exact hpl rfl
              · cases hp
          | _ =>
            exfalso
            simp only [partsP, bName] at hp
            split at hp
            · exact hpl rfl
            · cases hp
        · cases e with
          | BoolOp op es pos =>
            exfalso
            cases p with
            | isi ts =>
              simp only [partsP] at hp
              split at hp <;> (first | unfold isiOne at hp | unfold isiMany at hp) <;> cases hp
            | _ => simp only [partsP, bName] at hp <;> cases hp
          | _ => exact absurd (show false = true from z) Bool.false_ne_true
    · cases h
  | .and a b, Γ, e, X, G, h => by
    simp only [chkE] at h
    split at h
    · simp only [Bool.and_eq_true] at h
      obtain ⟨⟨⟨⟨⟨h1, h2⟩, h3⟩, h4⟩, h5⟩, h6⟩ := h
      have ha := okE a Γ _ X G h1
      have hb := okE b Γ _ X G h2
      have pw := and_pw (ha.pt h5) (hb.bt h6) ⟨_, _, rfl⟩
      exact ⟨and_pe (ha.m h3) (hb.m h4), fun _ => pw.pt, fun _ => pw⟩
    · cases h
  | .or a b, Γ, e, X, G, h => by
    simp only [chkE] at h
    split at h
    · simp only [Bool.and_eq_true] at h
      obtain ⟨⟨⟨⟨⟨h1, h2⟩, h3⟩, h4⟩, h5⟩, h6⟩ := h
      have ha := okE a Γ _ X G h1
      have hb := okE b Γ _ X G h2
      have pw := or_pw (ha.pt h5) (hb.bt h6) ⟨_, _, rfl⟩
      exact ⟨or_pe (ha.m h3) (hb.m h4), fun _ => pw.pt, fun _ => pw⟩
    · cases h
  | .not a, Γ, e, X, G, h => by
    simp only [chkE] at h
    split at h
    · simp only [Bool.and_eq_true] at h
      have ha := okE a Γ _ X G h.1
      exact ⟨not_pe ha.x, fun _ => not_pt (ha.pt h.2), fun z => absurd (show false = true from z) Bool.false_ne_true⟩
    · cases h
  | .ite t a b, Γ, e, X, G, h => by
    simp only [chkE] at h
    split at h
    · simp only [Bool.and_eq_true] at h
      obtain ⟨⟨⟨⟨⟨h1, h2⟩, h3⟩, h4⟩, h5⟩, h6⟩ := h
      exact ⟨ite_pe ((okE t Γ _ X G h1).pt h6) ((okE a Γ _ X G h2).m h4) ((okE b Γ _ X G h3).m h5), fun z => absurd (show false = true from z) Bool.false_ne_true, fun z => absurd (show false = true from z) Bool.false_ne_true⟩
    · cases h
  | .chain o o' a b c, Γ, e, X, G, h => by
    simp only [chkE] at h
    split at h
    · simp only [Bool.and_eq_true, decide_eq_true_eq] at h
      obtain ⟨⟨⟨⟨⟨rfl, rfl⟩, h3⟩, h4⟩, h5⟩, h6⟩ := h
      have ha := okE a Γ _ X G h4
      have hb := okE b Γ _ X G h5
      have hc := okE c Γ _ X G h6
      exact ⟨chain_pe G h3 ha.x hb.x hc.x, fun _ => chain_pt G h3 ha.x hb.x hc.x, fun z => absurd (show false = true from z) Bool.false_ne_true⟩
    · cases h
  | .call f es, Γ, e, X, G, h => by
    simp only [chkE] at h
    split at h
    · simp only [Bool.and_eq_true, decide_eq_true_eq] at h
      obtain ⟨⟨⟨h1, h2⟩, h3⟩, h4⟩ := h
      exact OkE.plain (call_pe G h1 h2 (okEs es Γ _ X G h3).1 h4) rfl
    · cases h
  | .cidx a i, Γ, e, X, G, h => by
    simp only [chkE] at h
    split at h
    · simp only [Bool.and_eq_true] at h
      exact OkE.plain (cidx_pe G h.1.1 (okE a Γ _ X G h.1.2).pe (okE i Γ _ X G h.2).pe) rfl
    · cases h
  | .comp vs tg src cnd elt, Γ, e, X, G, h => by
    simp only [chkE] at h
    split at h
    · rename_i el t it ifs scope pos
      simp only [Bool.and_eq_true] at h
      obtain ⟨⟨⟨⟨⟨⟨⟨⟨⟨h1, h2⟩, h3⟩, h4⟩, h5⟩, h6⟩, h7⟩, h8⟩, h9⟩, h10⟩ := h
      have bk := blkOk_by h1
      refine OkE.plain (pe_wk (pe_lc G.calm G.nd (okSR src Γ t it X G h2 true (.inl rfl)) ?_ (fun s H C' cl fp => pg_T (G.blk bk.kind s H C' cl fp) h4) (fun s H C' cl fp => cnd_pts (okEs cnd _ ifs _ (G.blk bk.kind s H C' cl fp) h5).2 h6 h7)
        (fun s H C' cl fp => (okE elt _ _ _ (G.blk bk.kind s H C' cl fp) h9).m h10) ?_) fun _ _ _ q => comp_wk h8 q) rfl
      · rw [G.N]
        exact ⟨bk.kind, bk.uniq, bk.ix, fun y hy e => by rw [G.names]; exact bk.free y hy e, bk.own⟩
      · intro x
        cases it <;> first
          | exact absurd (show false = true from h3) Bool.false_ne_true
          | rfl
    · cases h
  | .dcomp vs tg src cnd ke ve, Γ, e, X, G, h => by
    simp only [chkE] at h
    split at h
    · rename_i k v t it ifs scope pos
      simp only [Bool.and_eq_true] at h
      obtain ⟨⟨⟨⟨⟨⟨⟨⟨⟨⟨⟨h1, h2⟩, h3⟩, h4⟩, h5⟩, h6⟩, h7⟩, h8⟩, h9⟩, h10⟩, h11⟩, h12⟩ := h
      have bk := blkOk_by h1
      refine OkE.plain (pe_wk (pe_dc G.calm G.nd (okSR src Γ t it X G h2 true (.inl rfl)) ?_ (fun s H C' cl fp => pg_T (G.blk bk.kind s H C' cl fp) h4) (fun s H C' cl fp => cnd_pts (okEs cnd _ ifs _ (G.blk bk.kind s H C' cl fp) h5).2 h6 h7)
        (fun s H C' cl fp => (okE ke _ _ _ (G.blk bk.kind s H C' cl fp) h9).m h10) (fun s H C' cl fp => (okE ve _ _ _ (G.blk bk.kind s H C' cl fp) h11).m h12) ?_) fun _ _ _ q => dcomp_wk h8 q) rfl
      · rw [G.N]
        exact ⟨bk.kind, bk.uniq, bk.ix, fun y hy e => by rw [G.names]; exact bk.free y hy e, bk.own⟩
      · intro x
        cases it <;> first
          | exact absurd (show false = true from h3) Bool.false_ne_true
          | rfl
    · cases h
  | .disp ke ve, Γ, e, X, G, h => by
    simp only [chkE] at h
    split at h
    · simp only [Bool.and_eq_true] at h
      obtain ⟨⟨⟨h1, h2⟩, h3⟩, h4⟩ := h
      exact OkE.plain (disp_pe ((okE ke Γ _ X G h1).m h2) ((okE ve Γ _ X G h3).m h4)) rfl
    · cases h
theorem okEs {n : Nat} {C : Cxt} : ∀ (cs : Es) (Γ : Gam) (es : List Expr) (X : Cx), Good Γ C n X → chkEs cs Γ es = true → PEl X C cs es ∧ PTl X C cs es
  | .nil, Γ, es, X, G, h => by
    simp only [chkEs] at h
    split at h
    · exact ⟨trivial, trivial⟩
    · cases h
  | .cons c cs, Γ, es, X, G, h => by
    simp only [chkEs] at h
    split at h
    · simp only [Bool.and_eq_true] at h
      have h1 := okE c Γ _ X G h.1.1
      have h2 := okEs cs Γ _ X G h.2
      exact ⟨⟨h1.pe, h.1.2, h2.1⟩, ⟨h1.pt, h2.2⟩⟩
    · cases h
theorem okSR {n : Nat} {C : Cxt} : ∀ (src : SR) (Γ : Gam) (t it : Expr) (X : Cx), Good Γ C n X → chkSR src Γ t it = true → ∀ g : Bool, (g = true ∨ cleanSR src = true) → PI X t it (tI X.K C g src)
  | .seq c, Γ, t, it, X, G, h, g, hg => by
    simp only [chkSR] at h
    exact sr_seq (okE c Γ it X G h).pe hg
  | .rng a, Γ, t, it, X, G, h, g, hg => by
    simp only [chkSR] at h
    split at h
    · simp only [Bool.and_eq_true, decide_eq_true_eq] at h
      exact sr_rng G h.1.1.1 h.1.1.2 h.1.2 (okE a Γ _ X G h.2).pe
    · cases h
  | .rng2 a b, Γ, t, it, X, G, h, g, hg => by
    simp only [chkSR] at h
    split at h
    · simp only [Bool.and_eq_true, decide_eq_true_eq] at h
      obtain ⟨⟨⟨⟨⟨h1, h2⟩, h3⟩, h4⟩, h5⟩, h6⟩ := h
      exact sr_rng2 G h1 h2 h3 h4 (okE a Γ _ X G h5).pe (okE b Γ _ X G h6).pe
    · cases h
  | .enum a, Γ, t, it, X, G, h, g, hg => by
    simp only [chkSR] at h
    split at h
    · simp only [Bool.and_eq_true, decide_eq_true_eq] at h
      obtain ⟨⟨⟨⟨h1, h2⟩, h3⟩, h4⟩, h5⟩ := h
      exact sr_enum G h1 h2 h3 h4 (okE a Γ _ X G h5).pe hg
    · cases h
  | .zip a b, Γ, t, it, X, G, h, g, hg => by
    simp only [chkSR] at h
    split at h
    · simp only [Bool.and_eq_true, decide_eq_true_eq] at h
      obtain ⟨⟨⟨⟨⟨⟨h1, h2⟩, h3⟩, h4⟩, h5⟩, h6⟩, h7⟩ := h
      exact sr_zip G h1 h2 h3 h4 h5 (okE a Γ _ X G h6).pe (okE b Γ _ X G h7).pe (hg.imp id fun q => by simp only [cleanSR, Bool.and_eq_true] at q; exact q)
    · cases h
end
end R

namespace R
open PySem PySem.Spec PyProof.Rows L2
variable [W0]
section
variable {K : PySem.W.Frag} {F0 H0 F F' H H' : Hp} {ρ0 ρ ρ' : List Addr} {cs cs' : Cells} {env env' : Env} {σ σ' : L2.St}
/-! ### owned slots -/
def OwnB (B : Addr → Prop) (env : Env) (σ : L2.St) : Prop := ∀ (i : Nat) (s : Sl) (p : Addr), env[i]? = some s → s.isOwn = true → σ[i]? = some (some (.ref p)) → B p
theorem set_ne_of {α : Type} {l : List α} {i j : Nat} {x s : α} (e : (l.set i x)[j]? = some s) (h : i ≠ j) : l[j]? = some s := by rw [List.getElem?_set_ne h] at e; exact e
theorem set_eq_of {α : Type} {l : List α} {i : Nat} {x s : α} (e : (l.set i x)[i]? = some s) : s = x ∧ i < l.length := by
  have hl : i < l.length := by
    have := (List.getElem?_eq_some_iff.mp e).1
    simpa using this
  rw [List.getElem?_set_self hl] at e
  exact ⟨(Option.some.inj e).symm, hl⟩
/-- a new owned object at a slot -/
theorem okV_own (h : OkV K F ρ env σ H) (i : Nat) {p : Addr} {s : Sl} (r : SlotR K F ρ H (some (some (.ref p))) s) (hs : s.isOwn = true) (hp : ∀ (j : Nat) (t : Sl), env[j]? = some t → t.isOwn = true → σ[j]? ≠ some (some (.ref p))) :
    OkV K F ρ (env.set i s) (σ.set i (some (.ref p))) H := by
  refine ⟨by rw [List.length_set, List.length_set]; exact h.len, fun j t e => ?_, fun j j' s1 t1 q e1 e2 o1 o2 p1 p2 => ?_⟩
  · by_cases hj : i = j
    · subst hj
      obtain ⟨rfl, hl⟩ := set_eq_of e
      rw [List.getElem?_set_self (by rw [h.len]; exact hl)]
      exact r
    · rw [List.getElem?_set_ne hj] at e ⊢
      exact h.sl j t e
  · by_cases hj : i = j
    · by_cases hj' : i = j'
      · rw [← hj, ← hj']
      · subst hj
        obtain ⟨rfl, hl⟩ := set_eq_of e1
        rw [List.getElem?_set_self (by rw [h.len]; exact hl)] at p1
        cases p1
        rw [List.getElem?_set_ne hj'] at p2
        exact absurd p2 (hp j' t1 (set_ne_of e2 hj') o2)
    · by_cases hj' : i = j'
      · subst hj'
        obtain ⟨rfl, hl⟩ := set_eq_of e2
        rw [List.getElem?_set_self (by rw [h.len]; exact hl)] at p2
        cases p2
        rw [List.getElem?_set_ne hj] at p1
        exact absurd p1 (hp j s1 (set_ne_of e1 hj) o1)
      · rw [List.getElem?_set_ne hj] at p1
        rw [List.getElem?_set_ne hj'] at p2
        exact h.dis j j' s1 t1 q (set_ne_of e1 hj) (set_ne_of e2 hj') o1 o2 p1 p2
/-- the owned objects stand in H -/
theorem OkV.there (h : OkV K F ρ env σ H) {i : Nat} {s : Sl} {p : Addr} (e : env[i]? = some s) (o : s.isOwn = true) (q : σ[i]? = some (some (.ref p))) : H p ≠ none ∧ F p = none ∧ p ∉ ρ := by
  have r := h.sl i s e
  cases s with
  | no => cases o
  | v _ => cases o
  | ol xs =>
    obtain ⟨p', vs, e1, e2, _, e3, e4⟩ := r
    rw [q] at e1
    cases e1
    exact ⟨by rw [e2]; simp, e3, e4⟩
  | ok xs =>
    obtain ⟨p', vs, e1, e2, _, e3, e4⟩ := r
    rw [q] at e1
    cases e1
    exact ⟨by rw [e2]; simp, e3, e4⟩
  | ot xs =>
    obtain ⟨p', vs, e1, e2, _, e3, e4⟩ := r
    rw [q] at e1
    cases e1
    exact ⟨by rw [e2]; simp, e3, e4⟩
/-- a slot's owned object is written -/
theorem okV_wr (h : OkV K F ρ env σ H) {i : Nat} {s s' : Sl} {p : Addr} {o : HO} (e : env[i]? = some s) (hs : s.isOwn = true) (q : σ[i]? = some (some (.ref p))) (hs' : s'.isOwn = true)
    (r : SlotR K F ρ (upd H p o) (some (some (.ref p))) s') : OkV K F ρ (env.set i s') σ (upd H p o) := by
  refine ⟨by rw [List.length_set]; exact h.len, fun j t e2 => ?_, fun j j' s1 t1 p' e1 e2 o1 o2 p1 p2 => ?_⟩
  · by_cases hj : i = j
    · subst hj
      obtain ⟨rfl, hl⟩ := set_eq_of e2
      rw [q]
      exact r
    · have e2 := set_ne_of e2 hj
      have r2 := h.sl j t e2
      have ne : ∀ (b : Addr), t.isOwn = true → σ[j]? = some (some (.ref b)) → b ≠ p := fun b o e3 z => by
        subst z
        exact hj (h.dis i j s t b e e2 hs o q e3)
      cases t with
      | no => trivial
      | v x => exact r2
      | ol xs => obtain ⟨b, vs, a1, a2, a3, a4⟩ := r2; exact ⟨b, vs, a1, by rw [upd_ne (ne b rfl a1)]; exact a2, a3, a4⟩
      | ok xs => obtain ⟨b, vs, a1, a2, a3, a4⟩ := r2; exact ⟨b, vs, a1, by rw [upd_ne (ne b rfl a1)]; exact a2, a3, a4⟩
      | ot xs => obtain ⟨b, vs, a1, a2, a3, a4⟩ := r2; exact ⟨b, vs, a1, by rw [upd_ne (ne b rfl a1)]; exact a2, a3, a4⟩
  · have own : ∀ {j : Nat} {t : Sl}, (env.set i s')[j]? = some t → t.isOwn = true → ∃ t', env[j]? = some t' ∧ t'.isOwn = true := fun {j t} e3 o3 => by
      by_cases hj : i = j
      · subst hj; exact ⟨s, e, hs⟩
      · exact ⟨t, set_ne_of e3 hj, o3⟩
    obtain ⟨a, a1, a2⟩ := own e1 o1
    obtain ⟨b, b1, b2⟩ := own e2 o2
    exact h.dis j j' a b p' a1 b1 a2 b2 p1 p2
/-! ### a body's state -/
structure Stt (K : PySem.W.Frag) (F0 : Hp) (ρ0 : List Addr) (H0 : Hp) (F : Hp) (ρ : List Addr) (cs : Cells) (env : Env) (σ : L2.St) (H : Hp) : Prop where
  fw : Fwd K F0 ρ0 H0 F ρ cs H
  okv : OkV K F ρ env σ H
  own : OwnB (fun p => H0 p = none) env σ
theorem Stt.step (h : Stt K F0 ρ0 H0 F ρ cs env σ H) (w : Fwd K F ρ H F' ρ' cs' H') : Stt K F0 ρ0 H0 F' ρ' cs' env σ H' := ⟨h.fw.trans w, w.okV h.okv, h.own⟩
theorem ownB_v {B : Addr → Prop} (h : OwnB B env σ) (i : Nat) {x : MV} {v : V} : OwnB B (env.set i (.v x)) (σ.set i (some v)) := fun j s p e o q => by
  by_cases hj : i = j
  · subst hj
    obtain ⟨rfl, _⟩ := set_eq_of e
    cases o
  · rw [List.getElem?_set_ne hj] at q
    exact h j s p (set_ne_of e hj) o q
theorem ownB_own {B : Addr → Prop} (h : OwnB B env σ) (i : Nat) {s : Sl} {p : Addr} (hp : B p) : OwnB B (env.set i s) (σ.set i (some (.ref p))) := fun j t q e o z => by
  by_cases hj : i = j
  · subst hj
    have hl : i < σ.length := by
      have := (List.getElem?_eq_some_iff.mp z).1
      simpa using this
    rw [List.getElem?_set_self hl] at z
    cases z
    exact hp
  · rw [List.getElem?_set_ne hj] at z
    exact h j t q (set_ne_of e hj) o z
theorem ownB_all {B : Addr → Prop} : ∀ {is : List Nat} {xs : List PyData} {vs : List V} {env : Env} {σ : L2.St}, OwnB B env σ → vs.length = xs.length → OwnB B (setAll is xs env) (setVs is vs σ)
  | [], _, _, _, _, h, _ => by simpa [setAll, setVs] using h
  | i :: is, [], [], _, _, h, _ => by simpa [setAll, setVs] using h
  | i :: is, [], _ :: _, _, _, _, e => by cases e
  | i :: is, _ :: _, [], _, _, _, e => by cases e
  | i :: is, x :: xs, v :: vs, env, σ, h, e => by
    have q := ownB_all (is := is) (xs := xs) (vs := vs) (ownB_v h i (x := .d x) (v := v)) (Nat.succ.inj e)
    exact q
end
end R

namespace R
open PySem PySem.Spec PyProof.Rows L2
variable [W0]
def Post (K : PySem.W.Frag) (F0 : Hp) (ρ0 : List Addr) (H0 F1 : Hp) (D : Ends) (out : Out) : Prop := ∀ F' ρ' H' σ', Stt K F0 ρ0 H0 F' ρ' out.2.2 out.2.1 σ' H' → Same F1 F' → (match out.1 with
  | .nx => D.nx σ' H'
  | .bk => D.bk σ' H'
  | .ct => D.ct σ' H'
  | .rt x => ∀ v, RelM K F' ρ' v x → D.rt v H')
def tS (K : PySem.W.Frag) (C : Cxt) (s : S) : TS := fun D σ H => ∃ F0 ρ0 H0 F ρ cs env out, Stt K F0 ρ0 H0 F ρ cs env σ H ∧ evS C s env cs = .ok out ∧ Post K F0 ρ0 H0 F D out
def tSs (K : PySem.W.Frag) (C : Cxt) (s : Ss) : TS := fun D σ H => ∃ F0 ρ0 H0 F ρ cs env out, Stt K F0 ρ0 H0 F ρ cs env σ H ∧ evSs C s env cs = .ok out ∧ Post K F0 ρ0 H0 F D out
section
variable {K : PySem.W.Frag} {C : Cxt} {F0 H0 F F' F1 H H' : Hp} {ρ0 ρ ρ' : List Addr} {cs cs' : Cells} {env env' : Env} {σ σ' : L2.St} {D : Ends}
theorem Post.mono {out : Out} (h : Post K F0 ρ0 H0 F D out) (s : Same F F1) : Post K F0 ρ0 H0 F1 D out := fun F' ρ' H' σ' st sm => h F' ρ' H' σ' st (s.trans sm)
/-- a target's store, within a body -/
theorem asgT_st {v : V} {x : MV} {t : TG} {Q : L2.St → Hp → Prop} (h : Stt K F0 ρ0 H0 F ρ cs env σ H) (r : RelM K F ρ v x) (e : asgT t x env = .ok env') (k : ∀ σ', Stt K F0 ρ0 H0 F ρ cs env' σ' H → Q σ' H) : gT K t v σ H Q := by
  cases t with
  | n i =>
    simp only [asgT] at e
    cases e
    exact k _ ⟨h.fw, okV_set h.okv i r, ownB_v h.own i⟩
  | t is =>
    simp only [asgT] at e
    split at e
    · split at e
      · rename_i hl
        cases e
        have r : Dp K F v (.tuple _) := r
        cases r with
        | tup hs ha => exact ⟨_, _, rfl, .inl (sqT_mono h.fw.ok.sub hs), by rw [dpAll_len ha]; exact hl.symm, k _ ⟨h.fw, okV_setAll h.okv ha, ownB_all h.own (dpAll_len ha)⟩⟩
      · cases e
    · split at e
      · rename_i hl
        cases e
        have r : Dp K F v (.list _) := r
        cases r with
        | lst hs ha => exact ⟨_, _, rfl, .inr (sqL_mono h.fw.ok.sub hs), by rw [dpAll_len ha]; exact hl.symm, k _ ⟨h.fw, okV_setAll h.okv ha, ownB_all h.own (dpAll_len ha)⟩⟩
      · cases e
    · cases e
theorem asg_wk {t : TG} {e : E} (h : tS K C (.asg t e) D σ H) : tAsg (tG K C .m e) (gT K t) D σ H := by
  obtain ⟨F0, ρ0, H0, F, ρ, cs, env, out, st, ev, po⟩ := h
  simp only [evS] at ev
  obtain ⟨⟨x, c1⟩, e1, ev⟩ := Res.of_bind ev
  obtain ⟨env', e2, ev⟩ := Res.of_bind ev
  cases ev
  refine ⟨F, ρ, cs, env, x, c1, st.fw.ok, st.okv, e1, fun F' ρ' H' v w r => ?_⟩
  exact asgT_st (st.step w) r e2 fun σ' st' => po F' ρ' H' σ' st' w.sub
/-- a new list at a slot, its own -/
theorem stM_st {own : Bool} {i : Nat} {x : MV} {v : V} (w : Fwd K F ρ H F' ρ' cs' H') (h : Stt K F0 ρ0 H0 F ρ cs env σ H) (hσ : OkV K F' ρ' env' σ' H') (ho : OwnB (fun p => H0 p = none) env' σ')
    (hd : own = true → ∀ p, H p = none → ∀ (j : Nat) (t : Sl), env'[j]? = some t → t.isOwn = true → σ'[j]? ≠ some (some (.ref p))) (r : RelG (if own = true then .n else .m) K F' ρ' H H' v x) {e2 : Env} (e : stM own i x env' = .ok e2) :
    OkV K F' ρ' e2 (σ'.set i (some v)) H' ∧ OwnB (fun p => H0 p = none) e2 (σ'.set i (some v)) := by
  cases own with
  | false =>
    simp only [stM] at e
    cases e
    exact ⟨okV_set hσ i r, ownB_v ho i⟩
  | true =>
    unfold stM at e
    rw [if_pos rfl] at e
    split at e
    · rename_i xs
      cases e
      obtain ⟨p, vs, rfl, h1, h2, h3, h4, h5⟩ := r
      exact ⟨okV_own hσ i ⟨p, vs, rfl, h1, h2, h3, h4⟩ rfl (hd rfl p h5), ownB_own ho i (h.fw.dom h5)⟩
    · cases e
      obtain ⟨p, vs, rfl, h1, h2, h3, h4, h5⟩ := r
      exact ⟨okV_own hσ i ⟨p, vs, rfl, h1, h2, h3, h4⟩ rfl (hd rfl p h5), ownB_own ho i (h.fw.dom h5)⟩
    · cases e
      obtain ⟨p, vs, rfl, h1, h2, h3, h4, h5⟩ := r
      exact ⟨okV_own hσ i ⟨p, vs, rfl, h1, h2, h3, h4⟩ rfl (hd rfl p h5), ownB_own ho i (h.fw.dom h5)⟩
    · cases e
theorem own_wk {i : Nat} {e : E} (h : tS K C (.own i e) D σ H) : tAsg (tG K C .n e) (gName i) D σ H := by
  obtain ⟨F0, ρ0, H0, F, ρ, cs, env, out, st, ev, po⟩ := h
  simp only [evS] at ev
  obtain ⟨⟨x, c1⟩, e1, ev⟩ := Res.of_bind ev
  obtain ⟨env', e2, ev⟩ := Res.of_bind ev
  cases ev
  refine ⟨F, ρ, cs, env, x, c1, st.fw.ok, st.okv, e1, fun F' ρ' H' v w r => ?_⟩
  have st' := st.step w
  obtain ⟨a, b⟩ := stM_st (own := true) w st st'.okv st'.own (fun _ p hp j t e o q => absurd hp (st.okv.there e o q).1) r e2
  exact po F' ρ' H' _ ⟨st'.fw, a, b⟩ w.sub
theorem newc_wk {i : Nat} {e : E} (h : tS K C (.newc i e) D σ H) : tAsg (tG K C .n e) (gName i) D σ H := by
  obtain ⟨F0, ρ0, H0, F, ρ, cs, env, out, st, ev, po⟩ := h
  simp only [evS] at ev
  obtain ⟨⟨x, c1⟩, e1, ev⟩ := Res.of_bind ev
  refine ⟨F, ρ, cs, env, x, c1, st.fw.ok, st.okv, e1, fun F' ρ' H' v w r => ?_⟩
  split at ev
  · rename_i xs hx
    have hx : x = .d (.list xs) := hx
    subst hx
    cases ev
    obtain ⟨p, vs, rfl, h1, h2, h3, h4, h5⟩ := r
    have w2 : Fwd K F ρ H F' (ρ' ++ [p]) (c1 ++ [.lst xs]) H' := by
      refine ⟨⟨w.ok.sub, ?_, ?_, fun a ha => ?_, fun n a c e2 e3 => ?_⟩, w.sub, w.new, ?_, w.keep⟩
      · rw [List.nodup_append]
        refine ⟨w.ok.nd, by simp, fun a ha b hb => ?_⟩
        have : b = p := by simpa using hb
        subst this
        exact fun z => h4 (by rw [← z]; exact ha)
      · rw [List.length_append, List.length_append, w.ok.len]; rfl
      · rcases List.mem_append.mp ha with z | z
        · exact w.ok.out a z
        · have : a = p := by simpa using z
          subst this; exact h3
      · by_cases hn : n < ρ'.length
        · rw [List.getElem?_append_left hn] at e2
          rw [List.getElem?_append_left (by rw [← w.ok.len]; exact hn)] at e3
          exact w.ok.cell n a c e2 e3
        · rw [List.getElem?_append_right (by omega)] at e2
          rw [List.getElem?_append_right (by rw [← w.ok.len]; omega)] at e3
          rw [w.ok.len] at e2
          cases hk : n - c1.length with
          | zero =>
            rw [hk] at e2 e3
            have e2 : p = a := by simpa using e2
            have e3 : Cell.lst xs = c := by simpa using e3
            subst e2 e3
            exact ⟨vs, h1, h2⟩
          | succ m =>
            rw [hk] at e2
            simp at e2
      · obtain ⟨more, e, hm⟩ := w.rho
        refine ⟨more ++ [p], by rw [e, List.append_assoc], fun a ha => ?_⟩
        rcases List.mem_append.mp ha with z | z
        · exact hm a z
        · have : a = p := by simpa using z
          subst this; exact h5
    have st' := st.step w2
    have rr : RelM K F' (ρ' ++ [p]) (.ref p) (.r c1.length) := ⟨p, rfl, by rw [← w.ok.len]; simp⟩
    exact po F' _ H' _ ⟨st'.fw, okV_set st'.okv i rr, ownB_v st'.own i⟩ w.sub
  · cases ev
/-- a cell written -/
theorem Fwd.cell (ok : OkC K F ρ cs H) {m : Nat} {a : Addr} {c : Cell} (h1 : ρ[m]? = some a) (h2 : cs[m]? = some c) {ws : List V} {ys : List PyData} (ha : DpAll K F ws ys) : Fwd K F ρ H F ρ (cs.set m (.lst ys)) (upd H a (.lst ws)) := by
  have hm := List.mem_of_getElem? h1
  refine ⟨⟨fun b u e => ?_, ok.nd, by rw [List.length_set]; exact ok.len, ok.out, fun n b c' e1 e2 => ?_⟩, Same.refl _, fun _ _ e => .inl e, ⟨[], by simp, fun _ z => by cases z⟩, fun b u e hb => ?_⟩
  · rw [upd_ne (fun z => by subst z; rw [ok.out b hm] at e; cases e)]; exact ok.sub _ _ e
  · by_cases hn : m = n
    · subst hn
      obtain ⟨rfl, _⟩ := set_eq_of e2
      rw [h1] at e1
      cases e1
      exact ⟨ws, upd_same, ha⟩
    · have e2 := set_ne_of e2 hn
      have hne : b ≠ a := fun z => by
        subst z
        obtain ⟨l1, g1⟩ := List.getElem?_eq_some_iff.mp h1
        obtain ⟨l2, g2⟩ := List.getElem?_eq_some_iff.mp e1
        exact hn ((List.getElem_inj ok.nd).mp (g1.trans g2.symm))
      have q := ok.cell n b c' e1 e2
      cases c' with
      | lst xs =>
        obtain ⟨vs, q1, q2⟩ := q
        exact ⟨vs, by rw [upd_ne hne]; exact q1, q2⟩
  · rw [upd_ne (fun z => hb (by rw [z]; exact hm))]; exact e
theorem cset_wk {a i e : E} (h : tS K C (.cset a i e) D σ H) : tAsg (tG K C .m e) (gSub (tG K C .x a) (tG K C .x i) rSetL) D σ H := by
  obtain ⟨F0, ρ0, H0, F, ρ, cs, env, out, st, ev, po⟩ := h
  simp only [evS] at ev
  obtain ⟨⟨x, c1⟩, e1, ev⟩ := Res.of_bind ev
  obtain ⟨⟨y, c2⟩, e2, ev⟩ := Res.of_bind ev
  obtain ⟨⟨z, c3⟩, e3, ev⟩ := Res.of_bind ev
  refine ⟨F, ρ, cs, env, x, c1, st.fw.ok, st.okv, e1, fun F1 ρ1 H1 v1 w1 r1 => ?_⟩
  refine ⟨F1, ρ1, c1, env, y, c2, w1.ok, w1.okV st.okv, e2, fun F2 ρ2 H2 v2 w2 r2 => ?_⟩
  have w12 := w1.trans w2
  refine ⟨F2, ρ2, c2, env, z, c3, w2.ok, w12.okV st.okv, e3, fun F3 ρ3 H3 v3 w3 r3 => ?_⟩
  have w13 := w12.trans w3
  have r1 : RelM K F1 ρ1 v1 x := r1
  have r2 : RelX K F3 ρ3 H3 v2 y := w3.relX r2
  have r3 : RelX K F3 ρ3 H3 v3 z := r3
  cases x with
  | d d1 =>
    cases y with
    | r m =>
      cases z with
      | d d3 =>
        cases d3 with
        | int j =>
          simp only at ev
          split at ev
          · rename_i xs hc
            split at ev
            · rename_i q hq
              cases ev
              rcases r2 with r2 | r2
              · obtain ⟨p, rfl, hp⟩ := r2
                obtain ⟨vs, g1, g2⟩ := w13.ok.cell m p _ hp hc
                have rd : Dp K F3 v1 d1 := w3.relM (w2.relM (x := .d d1) r1)
                refine ⟨p, vs, j, q, rfl, r3.int, g1, by rw [dpAll_len g2]; exact hq, ?_⟩
                have w4 := w13.trans (Fwd.cell w13.ok hp hc (dpAll_set q g2 rd))
                exact po F3 ρ3 _ σ (st.step w4) w4.sub
              · exact r2.elim
            · cases ev
          · cases ev
        | _ => simp at ev
      | _ => simp at ev
    | _ => simp at ev
  | _ => simp at ev
end
end R

namespace R
open PySem PySem.Spec PyProof.Rows L2
variable [W0]
section
variable {X : Cx} {C : Cxt} {Γ : Gam} {n : Nat} {D : Ends} {σ : L2.St} {H : Hp}
/-! ### several at once -/
def cleanPs : List (Bool × Nat) → Es → Bool
  | [], .nil => true
  | m :: ms, .cons c cs => (if m.1 = true then decide (fg c = .n) else cleanE c) && cleanPs ms cs
  | _, _ => false
/-- the slots behind the stores -/
def setPs : List (Bool × Nat) → List V → L2.St → L2.St
  | m :: ms, v :: vs, σ => setPs ms vs (σ.set m.2 (some v))
  | _, _, σ => σ
def tPs (K : PySem.W.Frag) (C : Cxt) (ms : List (Bool × Nat)) (es : Es) (τ : L2.St) : TA := fun σ H Q => ∃ F0 ρ0 H0 F ρ cs env envA env' xs cs', Stt K F0 ρ0 H0 F ρ cs env σ H ∧ OkV K F ρ envA τ H ∧ OwnB (fun p => H0 p = none) envA τ ∧ evEs C es env cs = .ok (xs, cs') ∧ stAll ms xs envA = .ok env' ∧
  ∀ F' ρ' H' vs, Fwd K F ρ H F' ρ' cs' H' → OkV K F' ρ' env' (setPs ms vs τ) H' → OwnB (fun p => H0 p = none) env' (setPs ms vs τ) → vs.length = ms.length → Q vs H'
theorem pa_ps : ∀ {ms : List (Bool × Nat)} {cs : Es} {es : List Expr} (τ : L2.St), cleanPs ms cs = true → PEl X C cs es → PA X es (tPs X.K C ms cs τ)
  | [], .nil, [], τ, _, _ => pa_wk pa_nil fun σ H Q ⟨F0, ρ0, H0, F, ρ, cs, env, envA, env', xs, cs', st, ov, oo, ev, sa, k⟩ => by
    simp only [evEs] at ev
    cases ev
    simp only [stAll] at sa
    cases sa
    exact k F ρ H [] (Fwd.refl st.fw.ok) ov oo rfl
  | m :: ms, .cons c cs, e :: es, τ, hc, ⟨h, hn, t⟩ => by
    simp only [cleanPs, Bool.and_eq_true] at hc
    have hg : PE X e (tG X.K C (if m.1 = true then .n else .m) c) := by
      cases hm : m.1 with
      | true =>
        have h1 := hc.1
        rw [hm] at h1
        have h1 : fg c = .n := of_decide_eq_true h1
        rw [h1] at h
        exact h
      | false =>
        have h1 := hc.1
        rw [hm] at h1
        exact tG_m h (of_decide_eq_true h1)
    refine ⟨fun pos pins s σ H Q I ⟨F0, ρ0, H0, F, ρ, cs0, env, envA, env', xs, cs', st, ov, oo, ev, sa, k⟩ => ?_⟩
    simp only [evEs] at ev
    obtain ⟨⟨x1, c1⟩, e1, ev⟩ := Res.of_bind ev
    obtain ⟨⟨ys, c2⟩, e2, ev⟩ := Res.of_bind ev
    cases ev
    simp only [stAll] at sa
    obtain ⟨env1, s1, s2⟩ := Res.of_bind sa
    rw [star_cons hn]
    show wpAny _ _ (spliced ((false, eval e X.env) :: backTo pos (starEach es X.env))) _ _ s
    refine Calls.spliced_cons (thn (hg.run pins s σ H (fun v1 H1 => ∃ F1 ρ1, Fwd X.K F ρ H F1 ρ1 c1 H1 ∧ OkV X.K F1 ρ1 env1 (τ.set m.2 (some v1)) H1 ∧ OwnB (fun p => H0 p = none) env1 (τ.set m.2 (some v1))) I
      ⟨F, ρ, cs0, env, x1, c1, st.fw.ok, st.okv, e1, fun F1 ρ1 H1 v1 w1 r1 => ?_⟩) fun u s1' ⟨v1, H1, I1, r1, F1, ρ1, w1, o1, o2⟩ => ?_)
    · obtain ⟨a, b⟩ := stM_st (own := m.1) w1 st (w1.okV ov) oo (fun _ p hp j t e o q => absurd hp (ov.there e o q).1) r1 s1
      exact ⟨F1, ρ1, w1, a, b⟩
    · have ih := pa_ps (ms := ms) (cs := cs) (es := es) (τ.set m.2 (some v1)) hc.2 t
      refine thn (ih.run pos pins s1' σ H1 (fun vs H2 => Q (v1 :: vs) H2) I1 ⟨F0, ρ0, H0, F1, ρ1, c1, env, env1, env', ys, _, st.step w1, o1, o2, e2, s2, fun F2 ρ2 H2 vs w2 p1 p2 p3 => k F2 ρ2 H2 (v1 :: vs) (w1.trans w2) p1 p2 (by rw [List.length_cons, p3]; rfl)⟩) fun us s2' ⟨vs, H2, I2, r2, q2⟩ => ⟨v1 :: vs, H2, I2, .cons r1 r2, q2⟩
  | [], .cons _ _, _, _, h, _ => absurd (show false = true from h) Bool.false_ne_true
  | _ :: _, .nil, _, _, h, _ => absurd (show false = true from h) Bool.false_ne_true
  | [], .nil, _ :: _, _, _, h => h.elim
  | _ :: _, .cons _ _, [], _, _, h => h.elim
theorem par_wk {ms : List (Bool × Nat)} {es : Es} (h : tS X.K C (.par ms es) D σ H) : tPs X.K C ms es σ σ H (fun vs H' => vs.length = ms.length ∧ D.nx (setPs ms vs σ) H') := by
  obtain ⟨F0, ρ0, H0, F, ρ, cs, env, out, st, ev, po⟩ := h
  simp only [evS] at ev
  obtain ⟨⟨xs, c1⟩, e1, ev⟩ := Res.of_bind ev
  obtain ⟨env', e2, ev⟩ := Res.of_bind ev
  cases ev
  exact ⟨F0, ρ0, H0, F, ρ, cs, env, env, env', xs, c1, st, st.okv, st.own, e1, e2, fun F' ρ' H' vs w o1 o2 hl => ⟨hl, po F' ρ' H' _ ⟨st.fw.trans w, o1, o2⟩ w.sub⟩⟩
/-! ### a list of one's own is changed -/
theorem app_wk {i : Nat} {e : E} (h : tS X.K C (.app i e) D σ H) : tDrop (tBM X.K "list" rAppend (tVar i) (tCons (tG X.K C .m e) tNil)) D σ H := by
  obtain ⟨F0, ρ0, H0, F, ρ, cs, env, out, st, ev, po⟩ := h
  simp only [evS] at ev
  obtain ⟨⟨x, c1⟩, e1, ev⟩ := Res.of_bind ev
  split at ev
  · rename_i y xs hx hs
    have hx : x = .d y := hx
    subst hx
    split at ev
    · rename_i hz
      cases ev
      have hz := of_decide_eq_true hz
      obtain ⟨p, vs, hp, h1, h2, h3, h4⟩ := st.okv.sl i _ hs
      have h0 := st.own i _ p hs rfl hp
      refine ⟨.ref p, hp, .inl ⟨rfl, vs, SqL.of h1⟩, F, ρ, cs, env, _, c1, st.fw.ok, st.okv, e1, fun F' ρ' H' v w r => ?_⟩
      have g1 := w.keep _ _ h1 h4
      have g2 : DpAll X.K F' vs xs := dpAll_mono w.sub _ _ h2
      have g3 := w.frN h1 h3
      have g4 := w.notin h1 h4
      refine ⟨p, vs, v, rfl, rfl, g1, by rw [dpAll_len g2]; omega, ?_⟩
      have st' := st.step w
      have fw2 := st'.fw.beside (o := .lst (vs ++ [v])) h0 g3 g4
      refine po F' ρ' _ σ ⟨fw2, okV_wr st'.okv hs rfl hp rfl ⟨p, vs ++ [v], rfl, upd_same, dpAll_app g2 (.cons r .nil), g3, g4⟩, fun j t q e o z => ?_⟩ w.sub
      by_cases hj : i = j
      · subst hj
        rw [hp] at z
        cases z
        exact h0
      · exact st.own j t q (set_ne_of e hj) o z
    · cases ev
  · cases ev
theorem lset_wk {i : Nat} {a e : E} (h : tS X.K C (.lset i a e) D σ H) : tAsg (tG X.K C .m e) (gSub (tVar i) (tG X.K C .x a) rSetL) D σ H := by
  obtain ⟨F0, ρ0, H0, F, ρ, cs, env, out, st, ev, po⟩ := h
  simp only [evS] at ev
  obtain ⟨⟨x, c1⟩, e1, ev⟩ := Res.of_bind ev
  obtain ⟨⟨y, c2⟩, e2, ev⟩ := Res.of_bind ev
  refine ⟨F, ρ, cs, env, x, c1, st.fw.ok, st.okv, e1, fun F1 ρ1 H1 v1 w1 r1 => ?_⟩
  have r1 : RelM X.K F1 ρ1 v1 x := r1
  split at ev
  · rename_i d j xs hx hy hs
    have hx : x = .d d := hx
    have hy : y = .d (.int j) := hy
    subst hx hy
    split at ev
    · rename_i m hm
      cases ev
      obtain ⟨p, vs, hp, h1, h2, h3, h4⟩ := st.okv.sl i _ hs
      have h0 := st.own i _ p hs rfl hp
      refine ⟨.ref p, hp, F1, ρ1, c1, env, _, c2, w1.ok, w1.okV st.okv, e2, fun F' ρ' H' v2 w2 r2 => ?_⟩
      have w := w1.trans w2
      have r2 : RelX X.K F' ρ' H' v2 (.d (.int j)) := r2
      have g1 := w.keep _ _ h1 h4
      have g2 : DpAll X.K F' vs xs := dpAll_mono w.sub _ _ h2
      have g3 := w.frN h1 h3
      have g4 := w.notin h1 h4
      have rd : Dp X.K F' v1 d := w2.relM (x := .d d) r1
      refine ⟨p, vs, j, m, rfl, r2.int, g1, by rw [dpAll_len g2]; exact hm, ?_⟩
      have st' := st.step w
      have fw2 := st'.fw.beside (o := .lst (vs.set m v1)) h0 g3 g4
      refine po F' ρ' _ σ ⟨fw2, okV_wr st'.okv hs rfl hp rfl ⟨p, vs.set m v1, rfl, upd_same, dpAll_set m g2 rd, g3, g4⟩, fun j t q e o z => ?_⟩ w.sub
      by_cases hj : i = j
      · subst hj
        rw [hp] at z
        cases z
        exact h0
      · exact st.own j t q (set_ne_of e hj) o z
    · cases ev
  · cases ev
abbrev rIns : V → List V → Hp → VK → Prop := fun x vs H Q => ∃ (l : Addr) (xs : List V) (i : Int) (y : V), x = .ref l ∧ vs = [.int i, y] ∧ H l = some (.lst xs) ∧ xs.length < sizeLine ∧ 0 ≤ i ∧ i < 2 ^ 63 ∧
    Q .non (upd H l (.lst (xs.take i.toNat ++ [y] ++ xs.drop i.toNat)))
theorem ins_wk {i : Nat} {a e : E} (h : tS X.K C (.ins i a e) D σ H) : tDrop (tBM X.K "list" rIns (tVar i) (tCons (tG X.K C .x a) (tCons (tG X.K C .m e) tNil))) D σ H := by
  obtain ⟨F0, ρ0, H0, F, ρ, cs, env, out, st, ev, po⟩ := h
  simp only [evS] at ev
  obtain ⟨⟨x0, c0⟩, e0, evb⟩ := Res.of_bind ev
  clear ev
  obtain ⟨⟨x, c1⟩, e1, ev⟩ := Res.of_bind evb
  clear evb
  split at ev
  · rename_i j y xs hj hx hs
    have hx : x = .d y := hx
    have hj : x0 = .d (.int j) := hj
    subst hx hj
    split at ev
    · rename_i hz
      cases ev
      simp only [Bool.and_eq_true, decide_eq_true_eq] at hz
      obtain ⟨⟨hz, hj0⟩, hj1⟩ := hz
      have hz := of_decide_eq_true hz
      obtain ⟨p, vs, hp, h1, h2, h3, h4⟩ := st.okv.sl i _ hs
      have h0 := st.own i _ p hs rfl hp
      refine ⟨.ref p, hp, .inl ⟨rfl, vs, SqL.of h1⟩, F, ρ, cs, env, _, c0, st.fw.ok, st.okv, e0, fun F1 ρ1 H1 v0 w0 r0 => ⟨F1, ρ1, c0, env, _, c1, w0.ok, w0.okV st.okv, e1, fun F' ρ' H' v w1 r => ?_⟩⟩
      have w := w0.trans w1
      have r0 : RelX X.K F1 ρ1 H1 v0 (.d (.int j)) := r0
      have g1 := w.keep _ _ h1 h4
      have g2 : DpAll X.K F' vs xs := dpAll_mono w.sub _ _ h2
      have g3 := w.frN h1 h3
      have g4 := w.notin h1 h4
      have hl := dpAll_len g2
      have hsz := sizeLine_eq
      refine ⟨p, vs, j, v, rfl, by rw [r0.int], g1, by omega, hj0, by omega, ?_⟩
      have st' := st.step w
      have fw2 := st'.fw.beside (o := .lst (vs.take j.toNat ++ [v] ++ vs.drop j.toNat)) h0 g3 g4
      refine po F' ρ' _ σ ⟨fw2, okV_wr st'.okv hs rfl hp rfl ⟨p, vs.take j.toNat ++ [v] ++ vs.drop j.toNat, rfl, upd_same, ?_, g3, g4⟩, fun j t q e o z => ?_⟩ w.sub
      · rw [List.append_assoc]
        exact dpAll_app (dpAll_take _ g2) (.cons r (dpAll_drop _ g2))
      · by_cases hj : i = j
        · subst hj
          rw [hp] at z
          cases z
          exact h0
        · exact st.own j t q (set_ne_of e hj) o z
    · cases ev
  · cases ev
theorem popS_wk {i : Nat} {a : E} (h : tS X.K C (.popS i a) D σ H) : tDrop (tBM X.K "list" rPopAt (tVar i) (tCons (tG X.K C .x a) tNil)) D σ H := by
  obtain ⟨F0, ρ0, H0, F, ρ, cs, env, out, st, ev, po⟩ := h
  simp only [evS] at ev
  obtain ⟨⟨x0, c0⟩, e0, ev⟩ := Res.of_bind ev
  split at ev
  · rename_i j xs hj hs
    have hj : x0 = .d (.int j) := hj
    subst hj
    split at ev
    · rename_i hz
      cases ev
      simp only [Bool.and_eq_true, decide_eq_true_eq] at hz
      obtain ⟨⟨hj0, hj1⟩, hz⟩ := hz
      have hz := of_decide_eq_true hz
      obtain ⟨p, vs, hp, h1, h2, h3, h4⟩ := st.okv.sl i _ hs
      have h0 := st.own i _ p hs rfl hp
      refine ⟨.ref p, hp, .inl ⟨rfl, vs, SqL.of h1⟩, F, ρ, cs, env, _, _, st.fw.ok, st.okv, e0, fun F' ρ' H' v w r => ?_⟩
      have r0 : RelX X.K F' ρ' H' v (.d (.int j)) := r
      have g1 := w.keep _ _ h1 h4
      have g2 : DpAll X.K F' vs xs := dpAll_mono w.sub _ _ h2
      have g3 := w.frN h1 h3
      have g4 := w.notin h1 h4
      have hl := dpAll_len g2
      have hsz := sizeLine_eq
      have hjv : j.toNat < vs.length := by omega
      refine ⟨p, vs, j, j.toNat, vs[j.toNat], rfl, by rw [r0.int], g1, by omega, by omega, ?_, List.getElem?_eq_getElem hjv, ?_⟩
      · unfold seqIndex?
        simp only [hl]
        first
          | (rw [if_pos hj0, if_pos (by omega)])
          | (split <;> first | (split <;> first | rfl | omega) | omega)
          | (simp; omega)
      have st' := st.step w
      have fw2 := st'.fw.beside (o := .lst (vs.eraseIdx j.toNat)) h0 g3 g4
      refine po F' ρ' _ σ ⟨fw2, okV_wr st'.okv hs rfl hp rfl ⟨p, vs.eraseIdx j.toNat, rfl, upd_same, ?_, g3, g4⟩, fun j t q e o z => ?_⟩ w.sub
      · rw [List.eraseIdx_eq_take_drop_succ, List.eraseIdx_eq_take_drop_succ]
        exact dpAll_app (dpAll_take _ g2) (dpAll_drop _ g2)
      · by_cases hj : i = j
        · subst hj
          rw [hp] at z
          cases z
          exact h0
        · exact st.own j t q (set_ne_of e hj) o z
    · cases ev
  · cases ev
/-! ### a dict of one's own, with tuple keys -/
theorem dput_wk {i : Nat} {a e : E} (h : tS X.K C (.dput i a e) D σ H) : tAsg (tG X.K C .m e) (gSub (tVar i) (tG X.K C .m a) (rSetT X.K)) D σ H := by
  obtain ⟨F0, ρ0, H0, F, ρ, cs, env, out, st, ev, po⟩ := h
  simp only [evS] at ev
  obtain ⟨⟨x, c1⟩, e1, ev⟩ := Res.of_bind ev
  obtain ⟨⟨y, c2⟩, e2, ev⟩ := Res.of_bind ev
  refine ⟨F, ρ, cs, env, x, c1, st.fw.ok, st.okv, e1, fun F1 ρ1 H1 v1 w1 r1 => ?_⟩
  have r1 : RelM X.K F1 ρ1 v1 x := r1
  split at ev
  · rename_i d kd kvs hx hy hs
    have hx : x = .d d := hx
    have hy : y = .d kd := hy
    subst hx hy
    split at ev
    · rename_i hm
      cases ev
      rw [Bool.and_eq_true] at hm
      obtain ⟨hk, hl⟩ := hm
      obtain ⟨n, hn⟩ := Option.isSome_iff_exists.mp hk
      have hl := of_decide_eq_true hl
      obtain ⟨p, zs, hp, h1, h2, h3, h4⟩ := st.okv.sl i _ hs
      have h0 := st.own i _ p hs rfl hp
      refine ⟨.ref p, hp, F1, ρ1, c1, env, _, c2, w1.ok, w1.okV st.okv, e2, fun F' ρ' H' v2 w2 r2 => ?_⟩
      have w := w1.trans w2
      have r2 : Dp X.K F' v2 kd := r2
      have g1 := w.keep _ _ h1 h4
      have g2 : TR X.K F' zs kvs := tr_mono w.sub h2
      have g3 := w.frN h1 h3
      have g4 := w.notin h1 h4
      have rd : Dp X.K F' v1 d := w2.relM (x := .d d) r1
      obtain ⟨z, j, rfl, _⟩ := nkD_of hn
      cases r2 with
      | @tup b ws _ hq ha =>
        have r2 : Dp X.K F' (.ref b) (.tuple [.str z, .int j]) := .tup hq ha
        refine ⟨p, zs, b, _, n, rfl, rfl, g1, by have := tr_len g2; omega, dp_mono w.ok.sub _ _ r2, hn, tr_all w.ok.sub g2, fun u hu => ?_⟩
        have st' := st.step w
        have fw2 := st'.fw.beside (o := .ext (TPhi W0.w p (storedH zs n b u))) h0 g3 g4
        refine po F' ρ' _ σ ⟨fw2, okV_wr st'.okv hs rfl hp rfl ⟨p, _, rfl, upd_same, tr_put g2 hn r2 hu rd, g3, g4⟩, fun j t q e o z => ?_⟩ w.sub
        by_cases hj : i = j
        · subst hj
          rw [hp] at z
          cases z
          exact h0
        · exact st.own j t q (set_ne_of e hj) o z
    · cases ev
  · cases ev
/-- a tuple of anything, parted -/
theorem okV_setAllM {K : PySem.W.Frag} {F H : Hp} {ρ : List Addr} : ∀ {is : List Nat} {xs : List MV} {vs : List V} {env : Env} {σ : L2.St}, OkV K F ρ env σ H → RelXs .m K F ρ H vs xs → OkV K F ρ (setAllM is xs env) (setVs is vs σ) H
  | [], _, _, _, _, h, _ => by simpa [setAllM, setVs] using h
  | i :: is, [], _, _, _, h, r => by cases r; simpa [setAllM, setVs] using h
  | i :: is, x :: xs, _, _, _, h, r => by
    cases r with
    | cons a b => exact okV_setAllM (is := is) (okV_set h i (x := x) a) b
theorem ownB_allM {B : Addr → Prop} : ∀ {is : List Nat} {xs : List MV} {vs : List V} {env : Env} {σ : L2.St}, OwnB B env σ → vs.length = xs.length → OwnB B (setAllM is xs env) (setVs is vs σ)
  | [], _, _, _, _, h, _ => by simpa [setAllM, setVs] using h
  | i :: is, [], [], _, _, h, _ => by simpa [setAllM, setVs] using h
  | i :: is, [], _ :: _, _, _, _, e => by cases e
  | i :: is, _ :: _, [], _, _, _, e => by cases e
  | i :: is, x :: xs, v :: vs, env, σ, h, e => ownB_allM (is := is) (xs := xs) (vs := vs) (ownB_v h i (x := x) (v := v)) (Nat.succ.inj e)
theorem parT_wk {is : List Nat} {es : Es} (h : tS X.K C (.parT is es) D σ H) : tAsg (tTup (tAr X.K C .m es)) (gT X.K (.t is)) D σ H := by
  obtain ⟨F0, ρ0, H0, F, ρ, cs, env, out, st, ev, po⟩ := h
  simp only [evS] at ev
  obtain ⟨⟨xs, c1⟩, e1, ev⟩ := Res.of_bind ev
  split at ev
  · rename_i hl
    cases ev
    simp only [Bool.and_eq_true, decide_eq_true_eq] at hl
    refine ⟨F, ρ, cs, env, xs, c1, st.fw.ok, st.okv, e1, fun F1 ρ1 H1 vs w r => ?_⟩
    have hvl : vs.length = xs.length := relXs_len' r
    have hsz := sizeLine_eq
    refine ⟨by omega, fun p hp => ?_⟩
    have w2 := Fwd.fresh w.ok (.tup vs) hp
    have st2 := (st.step w).step w2
    have r2 := relXs_up w2 r
    exact ⟨p, vs, rfl, .inl (SqT.of upd_same), by rw [hvl]; exact hl.1.symm, po _ _ _ _ ⟨st2.fw, okV_setAllM st2.okv r2, ownB_allM st2.own hvl⟩ (w.sub.trans w2.sub)⟩
  · cases ev
/-- a dict of one's own, its keys ints or texts -/
def rSetK : V → V → V → Hp → (Hp → Prop) → Prop := fun o i v H Q => ∃ (a : Addr) (kvs : List (Key × V)) (k : Key), o = .ref a ∧ i = kV k ∧ H a = some (.dK kvs) ∧ kvs.length < sizeLine ∧ Q (upd H a (.dK (putK kvs k v)))
theorem set_k (hu : X.A.units + 65 < cLine) : PSet X rSetK := by
  intro pins s σ H o i v ov iv u Q I ro ri rv h
  obtain ⟨a, kvs, k, rfl, rfl, hH, hl, q⟩ := h
  cases ro
  exact d_setItem (by first | omega | (simp only [Around.in1_units]; omega)) I (DPut.k hH hl) ri rv fun s' I' => ⟨_, I', q⟩
theorem kput_wk {i : Nat} {a e : E} (h : tS X.K C (.kput i a e) D σ H) : tAsg (tG X.K C .m e) (gSub (tVar i) (tG X.K C .m a) rSetK) D σ H := by
  obtain ⟨F0, ρ0, H0, F, ρ, cs, env, out, st, ev, po⟩ := h
  simp only [evS] at ev
  obtain ⟨⟨x, c1⟩, e1, ev⟩ := Res.of_bind ev
  obtain ⟨⟨y, c2⟩, e2, ev⟩ := Res.of_bind ev
  refine ⟨F, ρ, cs, env, x, c1, st.fw.ok, st.okv, e1, fun F1 ρ1 H1 v1 w1 r1 => ?_⟩
  have r1 : RelM X.K F1 ρ1 v1 x := r1
  split at ev
  · rename_i d kd kvs hx hy hs
    have hx : x = .d d := hx
    have hy : y = .d kd := hy
    subst hx hy
    split at ev
    · rename_i kk hk
      split at ev
      · rename_i hl
        cases ev
        have hl := of_decide_eq_true hl
        obtain ⟨p, zs, hp, h1, h2, h3, h4⟩ := st.okv.sl i _ hs
        have h0 := st.own i _ p hs rfl hp
        refine ⟨.ref p, hp, F1, ρ1, c1, env, _, c2, w1.ok, w1.okV st.okv, e2, fun F' ρ' H' v2 w2 r2 => ?_⟩
        have w := w1.trans w2
        have r2 : Dp X.K F' v2 kd := r2
        have g1 := w.keep _ _ h1 h4
        have g2 : KR X.K F' zs kvs := kr_mono w.sub h2
        have g3 := w.frN h1 h3
        have g4 := w.notin h1 h4
        have rd : Dp X.K F' v1 d := w2.relM (x := .d d) r1
        have st' := st.step w
        have fw2 := st'.fw.beside (o := .dK (putK zs kk v1)) h0 g3 g4
        refine ⟨p, zs, kk, rfl, key_dp r2 hk, g1, by have := kr_len g2; omega, ?_⟩
        refine po F' ρ' _ σ ⟨fw2, okV_wr st'.okv hs rfl hp rfl ⟨p, _, rfl, upd_same, kr_put g2 rd, g3, g4⟩, fun j t q e o z => ?_⟩ w.sub
        by_cases hj : i = j
        · subst hj
          rw [hp] at z
          cases z
          exact h0
        · exact st.own j t q (set_ne_of e hj) o z
      · cases ev
    · cases ev
  · cases ev
theorem dsd_wk {i : Nat} {a e : E} (h : tS X.K C (.dsd i a e) D σ H) : tDrop (tDM (rSetD X.K) (tVar i) (tCons (tG X.K C .m a) (tCons (tG X.K C .m e) tNil))) D σ H := by
  obtain ⟨F0, ρ0, H0, F, ρ, cs, env, out, st, ev, po⟩ := h
  simp only [evS] at ev
  obtain ⟨⟨y, c1⟩, e1, evb⟩ := Res.of_bind ev
  clear ev
  obtain ⟨⟨x, c2⟩, e2, ev⟩ := Res.of_bind evb
  clear evb
  split at ev
  · rename_i kd d kvs hy hx hs
    have hx : x = .d d := hx
    have hy : y = .d kd := hy
    subst hx hy
    split at ev
    · rename_i hm
      cases ev
      rw [Bool.and_eq_true] at hm
      obtain ⟨hk, hl⟩ := hm
      obtain ⟨n, hn⟩ := Option.isSome_iff_exists.mp hk
      have hl := of_decide_eq_true hl
      obtain ⟨p, zs, hp, h1, h2, h3, h4⟩ := st.okv.sl i _ hs
      have h0 := st.own i _ p hs rfl hp
      refine ⟨.ref p, hp, ⟨p, zs, rfl, h1⟩, F, ρ, cs, env, _, c1, st.fw.ok, st.okv, e1, fun F1 ρ1 H1 v2 w1 r2 => ⟨F1, ρ1, c1, env, _, c2, w1.ok, w1.okV st.okv, e2, fun F' ρ' H' v1 w2 r1 => ?_⟩⟩
      have w := w1.trans w2
      have r2 : Dp X.K F' v2 kd := w2.relM (x := .d kd) r2
      have rd : Dp X.K F' v1 d := r1
      have g1 := w.keep _ _ h1 h4
      have g2 : TR X.K F' zs kvs := tr_mono w.sub h2
      have g3 := w.frN h1 h3
      have g4 := w.notin h1 h4
      obtain ⟨z, j, rfl, _⟩ := nkD_of hn
      have st' := st.step w
      have e : (atKey zs n).isSome = (lookT kvs (.tuple [.str z, .int j])).isSome := by rw [look_any, tr_any g2, hn]
      have own2 : OwnB (fun p => H0 p = none) (env.set i (.ot (if (lookT kvs (.tuple [.str z, .int j])).isSome = true then kvs else putT kvs (.tuple [.str z, .int j]) d))) σ := fun j t q e o z => by
        by_cases hj : i = j
        · subst hj
          rw [hp] at z
          cases z
          exact h0
        · exact st.own j t q (set_ne_of e hj) o z
      cases r2 with
      | @tup b ws _ hq ha =>
        have r2 : Dp X.K F' (.ref b) (.tuple [.str z, .int j]) := .tup hq ha
        refine ⟨p, zs, b, _, n, v1, rfl, rfl, g1, by have := tr_len g2; omega, dp_mono w.ok.sub _ _ r2, hn, tr_all w.ok.sub g2, fun p e => tr_val g2 e, fun h => ?_, fun h u hu => ?_⟩
        · rw [h] at e
          rw [← e, if_pos rfl] at po own2
          have same : upd H' p (.ext (TPhi W0.w p zs)) = H' := by
            funext q
            by_cases hq : q = p
            · subst hq; rw [upd_same, g1]
            · rw [upd_ne hq]
          refine fun _ => po F' ρ' H' σ ⟨st'.fw, ?_, own2⟩ w.sub
          rw [← same]
          exact okV_wr st'.okv hs rfl hp rfl ⟨p, zs, rfl, upd_same, g2, g3, g4⟩
        · have e0 : (atKey zs n).isSome = false := by rw [h]; rfl
          rw [e0] at e
          rw [← e, if_neg Bool.false_ne_true] at po own2
          have fw2 := st'.fw.beside (o := .ext (TPhi W0.w p (storedH zs n b u))) h0 g3 g4
          exact po F' ρ' _ σ ⟨fw2, okV_wr st'.okv hs rfl hp rfl ⟨p, _, rfl, upd_same, tr_put g2 hn r2 hu rd, g3, g4⟩, own2⟩ w.sub
    · cases ev
  · cases ev
/-! ### a thing of one's own is shared from here on -/
theorem frz_st {K : PySem.W.Frag} {F0 H0 F : Hp} {ρ0 ρ : List Addr} {cs : Cells} {env : Env} (st : Stt K F0 ρ0 H0 F ρ cs env σ H) {i : Nat} {s : Sl} {x : MV} {p : Addr} {o : HO} (e : env[i]? = some s) (hs : s.isOwn = true) (hp : σ[i]? = some (some (.ref p))) (ho : H p = some o) (hF : F p = none) (hρ : p ∉ ρ)
    (r : RelM K (upd F p o) ρ (.ref p) x) : Stt K F0 ρ0 H0 (upd F p o) ρ cs (env.set i (.v x)) σ H ∧ Same F (upd F p o) := by
  have sF : Same F (upd F p o) := same_upd hF
  have h0 := st.own i s p e hs hp
  refine ⟨⟨⟨⟨fun z u q => ?_, st.fw.ok.nd, st.fw.ok.len, fun z hz => ?_, fun m z k e1 e2 => cellR_mono sF (Same.refl _) (st.fw.ok.cell m z k e1 e2)⟩, st.fw.sub.trans sF, fun z u q => ?_, st.fw.rho, st.fw.keep⟩, ⟨?_, fun j t q => ?_, fun j j' s1 t1 q e1 e2 o1 o2 p1 p2 => ?_⟩, fun j t q e2 o2 z => ?_⟩, sF⟩
  · by_cases h : z = p
    · subst h; rw [upd_same] at q; rw [← q]; exact ho
    · rw [upd_ne h] at q; exact st.fw.ok.sub _ _ q
  · rw [upd_ne (fun h => hρ (by rw [← h]; exact hz))]; exact st.fw.ok.out z hz
  · by_cases h : z = p
    · subst h; exact .inr h0
    · rw [upd_ne h] at q; exact st.fw.new z u q
  · rw [List.length_set]; exact st.okv.len
  · by_cases hj : i = j
    · subst hj
      obtain ⟨rfl, _⟩ := set_eq_of q
      exact ⟨.ref p, hp, r⟩
    · have q := set_ne_of q hj
      have rr := st.okv.sl j t q
      have ne : ∀ b, t.isOwn = true → σ[j]? = some (some (.ref b)) → (upd F p o) b = F b := fun b o' q' => upd_ne fun z => by
        subst z
        exact hj (st.okv.dis i j s t b e q hs o' hp q')
      cases t with
      | no => trivial
      | v y => obtain ⟨v, a, b⟩ := rr; exact ⟨v, a, relM_mono sF ⟨[], by simp⟩ b⟩
      | ol xs => obtain ⟨b, vs, a1, a2, a3, a4, a5⟩ := rr; exact ⟨b, vs, a1, a2, dpAll_mono sF _ _ a3, by rw [ne b rfl a1]; exact a4, a5⟩
      | ok xs => obtain ⟨b, vs, a1, a2, a3, a4, a5⟩ := rr; exact ⟨b, vs, a1, a2, kr_mono sF a3, by rw [ne b rfl a1]; exact a4, a5⟩
      | ot xs => obtain ⟨b, vs, a1, a2, a3, a4, a5⟩ := rr; exact ⟨b, vs, a1, a2, tr_mono sF a3, by rw [ne b rfl a1]; exact a4, a5⟩
  · have own : ∀ {j : Nat} {t : Sl}, (env.set i (.v x))[j]? = some t → t.isOwn = true → env[j]? = some t := fun {j t} e3 o3 => by
      by_cases hj : i = j
      · subst hj
        obtain ⟨rfl, _⟩ := set_eq_of e3
        cases o3
      · exact set_ne_of e3 hj
    exact st.okv.dis j j' s1 t1 q (own e1 o1) (own e2 o2) o1 o2 p1 p2
  · by_cases hj : i = j
    · subst hj
      obtain ⟨rfl, _⟩ := set_eq_of e2
      cases o2
    · exact st.own j t q (set_ne_of e2 hj) o2 z
theorem frz_wk {i : Nat} {ss : Ss} (h : tSs X.K C (.cons (.frz i) ss) D σ H) : tSs X.K C ss D σ H := by
  obtain ⟨F0, ρ0, H0, F, ρ, cs, env, out, st, ev, po⟩ := h
  simp only [evSs, evS] at ev
  obtain ⟨r, e1, ev⟩ := Res.of_bind ev
  split at e1
  · rename_i xs hs
    cases e1
    obtain ⟨p, vs, hp, h1, h2, h3, h4⟩ := st.okv.sl i _ hs
    obtain ⟨st', sm⟩ := frz_st st (x := .d (.list xs)) hs rfl hp h1 h3 h4 (Dp.lst (SqL.of upd_same) (dpAll_mono (same_upd h3) _ _ h2))
    exact ⟨F0, ρ0, H0, _, ρ, cs, _, out, st', ev, po.mono sm⟩
  · rename_i xs hs
    cases e1
    obtain ⟨p, vs, hp, h1, h2, h3, h4⟩ := st.okv.sl i _ hs
    obtain ⟨st', sm⟩ := frz_st st (x := .k xs) hs rfl hp h1 h3 h4 ⟨p, vs, rfl, upd_same, kr_mono (same_upd h3) h2⟩
    exact ⟨F0, ρ0, H0, _, ρ, cs, _, out, st', ev, po.mono sm⟩
  · rename_i xs hs
    cases e1
    obtain ⟨p, vs, hp, h1, h2, h3, h4⟩ := st.okv.sl i _ hs
    obtain ⟨st', sm⟩ := frz_st st (x := .t xs) hs rfl hp h1 h3 h4 ⟨p, vs, rfl, upd_same, tr_mono (same_upd h3) h2⟩
    exact ⟨F0, ρ0, H0, _, ρ, cs, _, out, st', ev, po.mono sm⟩
  · cases e1
    exact ⟨F0, ρ0, H0, F, ρ, cs, env, out, st, ev, po⟩
  · cases e1
/-! ### flow -/
theorem nil_wk (h : tSs X.K C .nil D σ H) : D.nx σ H := by
  obtain ⟨F0, ρ0, H0, F, ρ, cs, env, out, st, ev, po⟩ := h
  simp only [evSs] at ev
  cases ev
  exact po F ρ H σ st (Same.refl _)
theorem cons_wk {s : S} {ss : Ss} (h : tSs X.K C (.cons s ss) D σ H) : tSeq (tS X.K C s) (tSs X.K C ss) D σ H := by
  obtain ⟨F0, ρ0, H0, F, ρ, cs, env, out, st, ev, po⟩ := h
  simp only [evSs] at ev
  obtain ⟨⟨f, e1, c1⟩, ev1, ev⟩ := Res.of_bind ev
  refine ⟨F0, ρ0, H0, F, ρ, cs, env, (f, e1, c1), st, ev1, fun F' ρ' H' σ' st' sm => ?_⟩
  cases f with
  | nx => exact ⟨F0, ρ0, H0, F', ρ', c1, e1, out, st', ev, po.mono sm⟩
  | bk => cases ev; exact po F' ρ' H' σ' st' sm
  | ct => cases ev; exact po F' ρ' H' σ' st' sm
  | rt x => cases ev; exact po F' ρ' H' σ' st' sm
theorem ite_wk {c : E} {a b : Ss} (h : tS X.K C (.ite c a b) D σ H) : tIfS (tTst X.K C c) (tSs X.K C a) (tSs X.K C b) D σ H := by
  obtain ⟨F0, ρ0, H0, F, ρ, cs, env, out, st, ev, po⟩ := h
  simp only [evS] at ev
  obtain ⟨⟨x, c1⟩, e1, ev⟩ := Res.of_bind ev
  obtain ⟨t, e2, ev⟩ := Res.of_bind ev
  refine ⟨F, ρ, cs, env, x, c1, t, st.fw.ok, st.okv, e1, e2, fun F1 ρ1 H1 w => ?_⟩
  cases t with
  | true => exact iteT ⟨F0, ρ0, H0, F1, ρ1, c1, env, out, st.step w, ev, po.mono w.sub⟩
  | false => exact iteF ⟨F0, ρ0, H0, F1, ρ1, c1, env, out, st.step w, ev, po.mono w.sub⟩
theorem ret_wk {e : E} (h : tS X.K C (.ret e) D σ H) : tRet (tG X.K C .m e) D σ H := by
  obtain ⟨F0, ρ0, H0, F, ρ, cs, env, out, st, ev, po⟩ := h
  simp only [evS] at ev
  obtain ⟨⟨x, c1⟩, e1, ev⟩ := Res.of_bind ev
  cases ev
  exact ⟨F, ρ, cs, env, x, c1, st.fw.ok, st.okv, e1, fun F1 ρ1 H1 v w r => po F1 ρ1 H1 σ (st.step w) w.sub v r⟩
theorem expr_wk {e : E} (h : tS X.K C (.expr e) D σ H) : tDrop (tG X.K C .x e) D σ H := by
  obtain ⟨F0, ρ0, H0, F, ρ, cs, env, out, st, ev, po⟩ := h
  simp only [evS] at ev
  obtain ⟨⟨x, c1⟩, e1, ev⟩ := Res.of_bind ev
  cases ev
  exact ⟨F, ρ, cs, env, x, c1, st.fw.ok, st.okv, e1, fun F1 ρ1 H1 v w r => po F1 ρ1 H1 σ (st.step w) w.sub⟩
theorem retN_wk (h : tS X.K C .retN D σ H) : tRetN D σ H := by
  obtain ⟨F0, ρ0, H0, F, ρ, cs, env, out, st, ev, po⟩ := h
  simp only [evS] at ev
  cases ev
  exact po F ρ H σ st (Same.refl _) .non .non
theorem brk_wk (h : tS X.K C .brk D σ H) : tBreak D σ H := by
  obtain ⟨F0, ρ0, H0, F, ρ, cs, env, out, st, ev, po⟩ := h
  simp only [evS] at ev
  cases ev
  exact po F ρ H σ st (Same.refl _)
theorem cont_wk (h : tS X.K C .cont D σ H) : tCont D σ H := by
  obtain ⟨F0, ρ0, H0, F, ρ, cs, env, out, st, ev, po⟩ := h
  simp only [evS] at ev
  cases ev
  exact po F ρ H σ st (Same.refl _)
theorem pass_wk (h : tS X.K C .pass D σ H) : tNext D σ H := by
  obtain ⟨F0, ρ0, H0, F, ρ, cs, env, out, st, ev, po⟩ := h
  simp only [evS] at ev
  cases ev
  exact po F ρ H σ st (Same.refl _)
/-! ### loops -/
theorem for_wk {t : TG} {src : SR} {b : Ss} (h : tS X.K C (.forr t src b) D σ H) : tFor (tI X.K C false src) (gT X.K t) (tSs X.K C b) D σ H := by
  obtain ⟨F0, ρ0, H0, F, ρ, cs, env, out, st, ev, po⟩ := h
  simp only [evS] at ev
  obtain ⟨⟨xs, c1⟩, e1, ev⟩ := Res.of_bind ev
  simp only at ev
  generalize hstep : (fun (x : PyData) (env : Env) (cs : Cells) => (asgT t (MV.d x) env).bind fun env' => evSs C b env' cs) = step at ev
  refine ⟨F, ρ, cs, env, xs, c1, st.fw.ok, st.okv, e1, fun F1 ρ1 H1 J w1 it => ?_⟩
  refine ⟨fun i m σ' Hc => m = xs.length - i ∧ i ≤ xs.length ∧ ∃ F2 ρ2 cs2 env2, Stt X.K F0 ρ0 H0 F2 ρ2 cs2 env2 σ' Hc ∧ Same F1 F2 ∧ loopL step (xs.drop i) env2 cs2 = .ok out, ⟨xs.length, by simp, Nat.zero_le _, F1, ρ1, c1, env, st.step w1, Same.refl _, ev⟩, ?_⟩
  rintro i m σ' Hc ⟨rfl, hi, F2, ρ2, cs2, env2, st2, sm, run⟩
  have io := it F2 ρ2 cs2 Hc st2.fw.ok sm (fun z => by cases z) i
  have po2 : Post X.K F0 ρ0 H0 F2 D out := po.mono (w1.sub.trans sm)
  by_cases hlt : i < xs.length
  · obtain ⟨go, yl⟩ := io.2 _ (List.getElem?_eq_getElem hlt)
    refine .inr ⟨go, fun σ' H' => ∃ F2 ρ2 cs2 env2, Stt X.K F0 ρ0 H0 F2 ρ2 cs2 env2 σ' H' ∧ Same F1 F2 ∧ loopL step (xs.drop (i + 1)) env2 cs2 = .ok out, fun σ' H' p' => ⟨xs.length - (i + 1), by omega, rfl, hlt, p'⟩, fun v H3 y => ?_⟩
    obtain ⟨F3, w3, rv⟩ := yl v H3 y
    have st3 := st2.step w3
    rw [List.drop_eq_getElem_cons hlt] at run
    simp only [loopL] at run
    obtain ⟨⟨f, e4, c4⟩, s1, run⟩ := Res.of_bind run
    rw [← hstep] at s1
    obtain ⟨env', s2, s1⟩ := Res.of_bind s1
    refine asgT_st st3 (x := .d xs[i]) rv s2 fun σ4 st4 => ⟨F0, ρ0, H0, F3, ρ2, cs2, env', (f, e4, c4), st4, s1, fun F5 ρ5 H5 σ5 st5 sm5 => ?_⟩
    have sm25 : Same F2 F5 := w3.sub.trans sm5
    cases f with
    | nx => exact ⟨F5, ρ5, c4, e4, st5, sm.trans sm25, run⟩
    | ct => exact ⟨F5, ρ5, c4, e4, st5, sm.trans sm25, run⟩
    | bk => cases run; exact po2 F5 ρ5 H5 σ5 st5 sm25
    | rt x => cases run; exact po2 F5 ρ5 H5 σ5 st5 sm25
  · have e : i = xs.length := by omega
    subst e
    refine .inl ⟨io.1 (List.getElem?_eq_none (Nat.le_refl _)), ?_⟩
    rw [List.drop_length] at run
    simp only [loopL] at run
    cases run
    exact po2 F2 ρ2 Hc σ' st2 (Same.refl _)
/-- a loop, from where it walks -/
theorem for_go {t : TG} {b : Ss} {F0 H0 F1 H1 : Hp} {ρ0 ρ1 : List Addr} {c1 : Cells} {env : Env} {xs : List PyData} {J : It} {out : Out} (st1 : Stt X.K F0 ρ0 H0 F1 ρ1 c1 env σ H1) (it : ItOk false X.K F1 ρ1 H1 J xs)
    (ev : loopL (fun (x : PyData) (env : Env) (cs : Cells) => (asgT t (MV.d x) env).bind fun env' => evSs C b env' cs) xs env c1 = .ok out) (po1 : Post X.K F0 ρ0 H0 F1 D out) :
    ∃ W : Nat → Nat → L2.St → Hp → Prop, (∃ m, W 0 m σ H1) ∧ ∀ i m σ H, W i m σ H → (J.stop i H ∧ D.nx σ H) ∨ (J.go i H ∧ ∃ N : L2.St → Hp → Prop, (∀ σ' H', N σ' H' → ∃ m', m' < m ∧ W (i + 1) m' σ' H') ∧ ∀ x H', J.yld i H x H' → (gT X.K t) x σ H' fun σ2 H2 => (tSs X.K C b) { D with nx := N, ct := N, bk := D.nx } σ2 H2) := by
  generalize hstep : (fun (x : PyData) (env : Env) (cs : Cells) => (asgT t (MV.d x) env).bind fun env' => evSs C b env' cs) = step at ev
  refine ⟨fun i m σ' Hc => m = xs.length - i ∧ i ≤ xs.length ∧ ∃ F2 ρ2 cs2 env2, Stt X.K F0 ρ0 H0 F2 ρ2 cs2 env2 σ' Hc ∧ Same F1 F2 ∧ loopL step (xs.drop i) env2 cs2 = .ok out, ⟨xs.length, by simp, Nat.zero_le _, F1, ρ1, c1, env, st1, Same.refl _, ev⟩, ?_⟩
  rintro i m σ' Hc ⟨rfl, hi, F2, ρ2, cs2, env2, st2, sm, run⟩
  have io := it F2 ρ2 cs2 Hc st2.fw.ok sm (fun z => by cases z) i
  have po2 : Post X.K F0 ρ0 H0 F2 D out := po1.mono sm
  by_cases hlt : i < xs.length
  · obtain ⟨go, yl⟩ := io.2 _ (List.getElem?_eq_getElem hlt)
    refine .inr ⟨go, fun σ' H' => ∃ F2 ρ2 cs2 env2, Stt X.K F0 ρ0 H0 F2 ρ2 cs2 env2 σ' H' ∧ Same F1 F2 ∧ loopL step (xs.drop (i + 1)) env2 cs2 = .ok out, fun σ' H' p' => ⟨xs.length - (i + 1), by omega, rfl, hlt, p'⟩, fun v H3 y => ?_⟩
    obtain ⟨F3, w3, rv⟩ := yl v H3 y
    have st3 := st2.step w3
    rw [List.drop_eq_getElem_cons hlt] at run
    simp only [loopL] at run
    obtain ⟨⟨f, e4, c4⟩, s1, run⟩ := Res.of_bind run
    rw [← hstep] at s1
    obtain ⟨env', s2, s1⟩ := Res.of_bind s1
    refine asgT_st st3 (x := .d xs[i]) rv s2 fun σ4 st4 => ⟨F0, ρ0, H0, F3, ρ2, cs2, env', (f, e4, c4), st4, s1, fun F5 ρ5 H5 σ5 st5 sm5 => ?_⟩
    have sm25 : Same F2 F5 := w3.sub.trans sm5
    cases f with
    | nx => exact ⟨F5, ρ5, c4, e4, st5, sm.trans sm25, run⟩
    | ct => exact ⟨F5, ρ5, c4, e4, st5, sm.trans sm25, run⟩
    | bk => cases run; exact po2 F5 ρ5 H5 σ5 st5 sm25
    | rt x => cases run; exact po2 F5 ρ5 H5 σ5 st5 sm25
  · have e : i = xs.length := by omega
    subst e
    refine .inl ⟨io.1 (List.getElem?_eq_none (Nat.le_refl _)), ?_⟩
    rw [List.drop_length] at run
    simp only [loopL] at run
    cases run
    exact po2 F2 ρ2 Hc σ' st2 (Same.refl _)
theorem forPop_wk {t : TG} {d l : Nat} {c : Int} {b : Ss} (h : tS X.K C (.forPop t d l c b) D σ H) : tFor (iSeq X.K (tOp (rIxT X.K) (tDGet (tVar d) (tBM0 X.K "list" rPop (tVar l))) (tC (.int c)))) (gT X.K t) (tSs X.K C b) D σ H := by
  obtain ⟨F0, ρ0, H0, F, ρ, cs, env, out, st, ev, po⟩ := h
  simp only [evS] at ev
  split at ev
  · rename_i xs kvs hsl hsd
    split at ev
    · rename_i y hy
      split at ev
      · rename_i zs hz
        split at ev
        · rename_i ws hw
          obtain ⟨p, vs, hp, h1, h2, h3, h4⟩ := st.okv.sl l _ hsl
          obtain ⟨v, hv, r⟩ := st.okv.sl d _ hsd
          obtain ⟨a, ks, rfl, hF, kr⟩ := r
          have h0 := st.own l _ p hsl rfl hp
          obtain ⟨kk, hk, hl⟩ := Option.bind_eq_some_iff.mp hz
          have hlen := dpAll_len h2
          have hne : xs ≠ [] := fun z => by rw [z] at hy; cases hy
          have hpos : 0 < xs.length := List.length_pos_iff.mpr hne
          have hy2 : xs[xs.length - 1]? = some y := by rw [← List.getLast?_eq_getElem?]; exact hy
          obtain ⟨yv, hyv, ry⟩ := dpAll_get h2 hy2
          rw [← hlen] at hyv
          have ek := key_dp ry hk
          have hap : a ≠ p := fun z => by rw [z, h3] at hF; cases hF
          have hd : DpAll X.K F vs.dropLast xs.dropLast := by
            rw [List.dropLast_eq_take, List.dropLast_eq_take, hlen]
            exact dpAll_take _ h2
          have fw2 := st.fw.beside (o := .lst vs.dropLast) h0 h3 h4
          have st2 : Stt X.K F0 ρ0 H0 F ρ cs (env.set l (.ol xs.dropLast)) σ (upd H p (.lst vs.dropLast)) := ⟨fw2, okV_wr st.okv hsl rfl hp rfl ⟨p, vs.dropLast, rfl, upd_same, hd, h3, h4⟩, fun j t q e o z => by
            by_cases hj : l = j
            · subst hj
              rw [hp] at z
              cases z
              exact h0
            · exact st.own j t q (set_ne_of e hj) o z⟩
          have ea : (upd H p (.lst vs.dropLast)) a = some (.dK ks) := by rw [upd_ne hap]; exact st.fw.ok.sub _ _ hF
          rcases kr_look (k := kk) kr with ⟨g1, g2⟩ | ⟨u, dd, g1, g2, g3⟩
          · rw [g2] at hl; cases hl
          · rw [g2] at hl
            cases hl
            cases g3 with
            | @tup q us _ hs ha =>
              obtain ⟨uu, hu1, hu2⟩ := atI_rel ha hw
              cases hu2 with
              | @tup q2 us2 _ hs2 ha2 =>
                refine ⟨.ref a, hv, .ref p, hp, .inl ⟨rfl, vs, SqL.of h1⟩, p, vs, yv, rfl, rfl, h1, hyv, a, .ref q, rfl, .inl ⟨ks, kk, .inl ea, ek, g1.symm⟩, q, us, c, .ref q2, rfl, rfl, sqT_mono fw2.ok.sub hs, hu1, .inr (.inl ⟨q2, rfl, ⟨us2, sqT_mono fw2.ok.sub hs2⟩, ?_⟩)⟩
                exact for_go st2 (it_tup ha2 fun F2 ρ2 cs2 H2 o2 s => sqT_mono (s.trans o2.sub) hs2) ev po
        · cases ev
      · cases ev
    · cases ev
  · cases ev
theorem whil_wk {c : E} {b : Ss} (h : tS X.K C (.whil c b) D σ H) : tWhile (tTst X.K C c) (tSs X.K C b) D σ H := by
  obtain ⟨F0, ρ0, H0, F, ρ, cs, env, out, st, ev, po⟩ := h
  simp only [evS] at ev
  refine ⟨fun m σ' Hc => ∃ F2 ρ2 cs2 env2, Stt X.K F0 ρ0 H0 F2 ρ2 cs2 env2 σ' Hc ∧ Same F F2 ∧ loopW (fun env cs => (evE C c env cs).bind fun r => (truth r.1).bind fun t => .ok (t, r.2)) (evSs C b) m env2 cs2 = .ok out, ⟨C.W, F, ρ, cs, env, st, Same.refl _, ev⟩, ?_⟩
  rintro m σ' Hc ⟨F2, ρ2, cs2, env2, st2, sm, run⟩
  have po2 : Post X.K F0 ρ0 H0 F2 D out := po.mono sm
  cases m with
  | zero => cases run
  | succ m =>
    simp only [loopW] at run
    obtain ⟨⟨t, c3⟩, e1, run⟩ := Res.of_bind run
    obtain ⟨⟨x, c2⟩, e2, e1⟩ := Res.of_bind e1
    obtain ⟨t', e3, e1⟩ := Res.of_bind e1
    cases e1
    refine ⟨F2, ρ2, cs2, env2, x, _, _, st2.fw.ok, st2.okv, e2, e3, fun F3 ρ3 H3 w3 => ?_⟩
    have st3 := st2.step w3
    cases t with
    | false =>
      cases run
      exact iteF (po2 F3 ρ3 H3 σ' st3 w3.sub)
    | true =>
      have run : ((evSs C b env2 c2).bind fun r => (match r.1 with
        | .nx => loopW (fun env cs => (evE C c env cs).bind fun r => (truth r.1).bind fun t => .ok (t, r.2)) (evSs C b) m r.2.1 r.2.2
        | .ct => loopW (fun env cs => (evE C c env cs).bind fun r => (truth r.1).bind fun t => .ok (t, r.2)) (evSs C b) m r.2.1 r.2.2
        | .bk => .ok (.nx, r.2.1, r.2.2)
        | .rt y => .ok (.rt y, r.2.1, r.2.2))) = .ok out := run
      obtain ⟨⟨f, e5, c5⟩, s1, run⟩ := Res.of_bind run
      refine iteT ⟨fun σ' H' => ∃ F2 ρ2 cs2 env2, Stt X.K F0 ρ0 H0 F2 ρ2 cs2 env2 σ' H' ∧ Same F F2 ∧ loopW (fun env cs => (evE C c env cs).bind fun r => (truth r.1).bind fun t => .ok (t, r.2)) (evSs C b) m env2 cs2 = .ok out, fun σ' H' p' => ⟨m, Nat.lt_succ_self _, p'⟩,
        F0, ρ0, H0, F3, ρ3, _, env2, (f, e5, c5), st3, s1, fun F5 ρ5 H5 σ5 st5 sm5 => ?_⟩
      have sm25 : Same F2 F5 := w3.sub.trans sm5
      cases f with
      | nx => exact ⟨F5, ρ5, c5, e5, st5, sm.trans sm25, run⟩
      | ct => exact ⟨F5, ρ5, c5, e5, st5, sm.trans sm25, run⟩
      | bk => cases run; exact po2 F5 ρ5 H5 σ5 st5 sm25
      | rt x => cases run; exact po2 F5 ρ5 H5 σ5 st5 sm25
end
end R

namespace R
open PySem PySem.Spec PyProof.Rows L2
variable [W0]
/-! ### the check of statements -/
def notComp : Expr → Bool
  | .ListComp _ _ _ _ => false
  | .SetComp _ _ _ _ => false
  | .DictComp _ _ _ _ _ => false
  | _ => true
def isTupE : Expr → Bool
  | .Tuple _ _ _ => true
  | _ => false
/-- swapped stores are none of the statement's -/
def swN (Γ : Gam) (tg v : Expr) : Bool :=
  match tg with
  | .Tuple ts _ _ => match v with
    | .Tuple vs _ _ => !(ts.length == 2 || ts.length == 3) || vs.length != ts.length || ts.any (fun t => match t with | .Name x _ => !(decide (Γ.sc.names.lookup x = some .local)) | _ => true) || vs.all (foldedForSure 8)
    | _ => true
  | _ => false
def lcSwap (Γ : Gam) (y : Str) (py : Pos) (scope : Scope) (pos : Pos) : Bool :=
  decide (Γ.sc.names.lookup y = some .local) && (py.line == pos.line) && !(scope.names.any fun (n, k) => n == y && (k == .local || k == .cell))
/-- target = value, one target -/
def asgB (Γ : Gam) (tg v : Expr) : Bool :=
  match tg with
  | .Name _ _ => notComp v || (match v with | .ListComp _ _ _ _ => true | _ => false)
  | .Tuple _ _ _ => swN Γ tg v
  | _ => false
def parNames (Γ : Gam) : List (Bool × Nat) → List Expr → Bool
  | [], [] => true
  | m :: ms, .Name x _ :: es => decide (Γ.N[m.2]? = some x) && decide (Γ.sc.names.lookup x = some .local) && parNames Γ ms es
  | _, _ => false
def parB (Γ : Gam) (ms : List (Bool × Nat)) (tg : Expr) (vs : List Expr) : Bool :=
  match tg with
  | .Tuple ts _ _ => match ts with
    | [.Name x px, .Name y py] => parNames Γ ms ts && decide (vs.length = 2) && (py.line == px.line) && !decide (x = y) && !(vs.all (foldedForSure 8)) && !(vs.all (constantsAlone 8)) && vs.all nS
    | [.Name x px, .Name y py, .Name z pz] => parNames Γ ms ts && decide (vs.length = 3) && (py.line == px.line) && (pz.line == px.line) && !decide (x = y) && !decide (x = z) && !decide (y = z) && !(vs.all (foldedForSure 8)) && !(vs.all (constantsAlone 8)) && vs.all nS
    | _ => false
  | _ => false
mutual
def chkS : S → Gam → Stmt → Bool
  | .asg t e, Γ, st => match st with
    | .Assign [tg] v _ => chkTG Γ t tg && chkE e Γ v && cleanE e && asgB Γ tg v
    | _ => false
  | .par ms es, Γ, st => match st with
    | .Assign [tg] (.Tuple vs _ _) _ => parB Γ ms tg vs && chkEs es Γ vs && cleanPs ms es
    | _ => false
  | .own i e, Γ, st => match st with
    | .Assign [tg] v _ => chkTG Γ (.n i) tg && chkE e Γ v && decide (fg e = .n) && asgB Γ tg v
    | _ => false
  | .newc i e, Γ, st => match st with
    | .Assign [tg] v _ => chkTG Γ (.n i) tg && chkE e Γ v && decide (fg e = .n) && asgB Γ tg v
    | _ => false
  | .cset a i e, Γ, st => match st with
    | .Assign [.Subscript x y _] v _ => plIx y && chkE a Γ x && chkE i Γ y && chkE e Γ v && cleanE e
    | _ => false
  | .lset i a e, Γ, st => match st with
    | .Assign [.Subscript (.Name x _) y _] v _ => visB Γ i x && plIx y && chkE a Γ y && chkE e Γ v && cleanE e
    | _ => false
  | .app i e, Γ, st => match st with
    | .Expr (.Call (.Attribute (.Name x _) m ap) [v] [] cp) _ => decide (m = "append") && visB Γ i x && (ap.endLine == cp.line) && nS v && chkE e Γ v && cleanE e
    | _ => false
  | .ins i a e, Γ, st => match st with
    | .Expr (.Call (.Attribute (.Name x _) m ap) [u, v] [] cp) _ => decide (m = "insert") && visB Γ i x && (ap.endLine == cp.line) && nS u && nS v && chkE a Γ u && chkE e Γ v && cleanE e
    | _ => false
  | .popS i a, Γ, st => match st with
    | .Expr (.Call (.Attribute (.Name x _) m ap) [u] [] cp) _ => decide (m = "pop") && visB Γ i x && (ap.endLine == cp.line) && nS u && chkE a Γ u
    | _ => false
  | .dput i a e, Γ, st => match st with
    | .Assign [.Subscript (.Name x _) y _] v _ => visB Γ i x && plIx y && chkE a Γ y && cleanE a && chkE e Γ v && cleanE e
    | _ => false
  | .parT is es, Γ, st => match st with
    | .Assign [tg] (.Tuple vs k p) _ => chkTG Γ (.t is) tg && chkEs es Γ vs && cleanEs es && swN Γ tg (.Tuple vs k p)
    | _ => false
  | .kput i a e, Γ, st => match st with
    | .Assign [.Subscript (.Name x _) y _] v _ => visB Γ i x && plIx y && chkE a Γ y && cleanE a && chkE e Γ v && cleanE e
    | _ => false
  | .forPop t d l c b, Γ, st => match st with
    | .For tg (.Subscript (.Subscript (.Name x _) (.Call (.Attribute (.Name y _) m ap) [] [] cp) _) (.Constant (.int z) _ _) _) bd [] _ => chkTG Γ t tg && visB Γ d x && visB Γ l y && decide (m = "pop") && (ap.endLine == cp.line) && decide (z = c) && chkSs b Γ bd
    | _ => false
  | .dsd i a e, Γ, st => match st with
    | .Expr (.Call (.Attribute (.Name x _) m ap) [u, v] [] cp) _ => decide (m = "setdefault") && visB Γ i x && (ap.endLine == cp.line) && nS u && nS v && chkE a Γ u && cleanE a && chkE e Γ v && cleanE e
    | _ => false
  | .frz _, _, _ => false
  | .ite c a b, Γ, st => match st with
    | .If t x y _ => chkE c Γ t && notIf t && chkSs a Γ x && chkSs b Γ y
    | _ => false
  | .forr t src b, Γ, st => match st with
    | .For tg it x [] _ => chkTG Γ t tg && chkSR src Γ tg it && cleanSR src && notSet it && chkSs b Γ x
    | _ => false
  | .whil c b, Γ, st => match st with
    | .While t x [] _ => chkE c Γ t && notIf t && chkSs b Γ x
    | _ => false
  | .ret e, Γ, st => match st with
    | .Return (some v) _ => chkE e Γ v && cleanE e
    | _ => false
  | .retN, _, st => match st with
    | .Return none _ => true
    | _ => false
  | .expr e, Γ, st => match st with
    | .Expr v _ => chkE e Γ v && notComp v
    | _ => false
  | .brk, _, st => match st with
    | .Break _ => true
    | _ => false
  | .cont, _, st => match st with
    | .Continue _ => true
    | _ => false
  | .pass, _, st => match st with
    | .Pass _ => true
    | _ => false
def chkSs : Ss → Gam → List Stmt → Bool
  | .nil, _, sts => match sts with
    | [] => true
    | _ => false
  | .cons s ss, Γ, sts => match s with
    | .frz _ => chkSs ss Γ sts
    | s => match sts with
      | st :: sts => chkS s Γ st && chkSs ss Γ sts
      | [] => false
end
section
variable {X : Cx} {C : Cxt} {Γ : Gam} {n : Nat}
theorem Good.bk (G : Good Γ C n X) : X.env.blockKind = .function := by unfold PySem.Env.blockKind; rw [G.kind]; rfl
theorem sw_not {v : Expr} {t : Option Expr} {l : Nat} {env : PySem.Env} (h : notComp v = true) : swapsWith v t l env = pure false := by
  cases v <;> first
    | exact absurd (show false = true from h) Bool.false_ne_true
    | rfl
theorem sw_tup {v : Expr} {es : List Expr} {k : Nat} {p : Pos} {l : Nat} {env : PySem.Env} : swapsWith v (some (.Tuple es k p)) l env = pure false := by
  cases v <;> rfl
theorem sw_sub {v : Expr} {a b : Expr} {p : Pos} {l : Nat} {env : PySem.Env} : swapsWith v (some (.Subscript a b p)) l env = pure false := by
  cases v <;> rfl
theorem sw_lc (G : Good Γ C n X) {elt : Expr} {gs : List Comprehension} {scope : Scope} {pos py : Pos} {y : Str} {l : Nat} : swapsWith (.ListComp elt gs scope pos) (some (.Name y py)) l X.env = pure (lcSwap Γ y py scope pos) := by
  have e : (X.env.kindOf y == some NameKind.local) = decide (Γ.sc.names.lookup y = some .local) := by
    unfold PySem.Env.kindOf
    rw [G.names]
    cases q : Γ.sc.names.lookup y with
    | none => rfl
    | some k => cases k <;> rfl
  unfold swapsWith lcSwap
  simp only [G.bk, e, Expr.pos]
  simp
def nmL (env : PySem.Env) (l : Nat) : Expr → Option Str
  | .Name id pos => if (env.kindOf id == some NameKind.local && pos.line == l) = true then some id else none
  | _ => none
theorem nmL_len (G : Good Γ C n X) : ∀ (ts : List Expr), (ts.any fun t => match t with | .Name x _ => !(decide (Γ.sc.names.lookup x = some .local)) | _ => true) = true → ∀ l : Nat, (ts.filterMap (nmL X.env l)).length < ts.length := by
  intro ts
  induction ts with
  | nil => intro h; cases h
  | cons t ts ih =>
    intro h l
    have le : (ts.filterMap (nmL X.env l)).length ≤ ts.length := List.length_filterMap_le _ _
    rw [List.any_cons, Bool.or_eq_true] at h
    rw [List.length_cons]
    cases q : nmL X.env l t with
    | none =>
      rw [List.filterMap_cons_none q]
      omega
    | some x =>
      rw [List.filterMap_cons_some q, List.length_cons]
      rcases h with h | h
      · exfalso
        cases t with
        | Name y p =>
          have q : (if (X.env.kindOf y == some NameKind.local && p.line == l) = true then some y else none) = some x := q
          split at q
          · rename_i z
            rw [Bool.and_eq_true] at z
            have z1 := z.1
            unfold PySem.Env.kindOf at z1
            rw [G.names] at z1
            simp at h
            exact h (by simpa using z1)
          · cases q
        | _ => cases q
      · have := ih h l
        omega
theorem swN_of (G : Good Γ C n X) {tg v : Expr} (h : swN Γ tg v = true) : swappedStores [tg] v X.env = pure none := by
  unfold swN at h
  cases tg with
  | Tuple ts kt pt =>
    cases v with
    | Tuple vs kv pv =>
      simp only at h
      unfold swappedStores
      simp only [pure_bind]
      by_cases h1 : (!(ts.length == 2 || ts.length == 3) || vs.length != ts.length || X.env.blockKind != ScopeKind.function) = true
      · rw [if_pos h1]
      · rw [if_neg h1]
        split
        · rfl
        · split
          · rfl
          · rename_i h3
            split
            · rfl
            · rename_i h4
              exfalso
              rw [G.bk] at h1
              simp only [Bool.or_eq_true] at h
              rcases h with (h | h) | h
              · rcases h with h | h <;> (simp at h1 h; omega)
              · -- a name that is no plain local
                have hlt := nmL_len G ts h ((ts.head?.map (·.pos.line)).getD 0)
                refine h3 ?_
                rw [Bool.or_eq_true]
                exact .inl (bne_iff_ne.mpr (Nat.ne_of_lt hlt))
              · exact h4 h
    | _ => rfl
  | _ => exact absurd (show false = true from h) Bool.false_ne_true
theorem Good.kindOfL (G : Good Γ C n X) {x : Str} (h : Γ.sc.names.lookup x = some .local) : (X.env.kindOf x == some NameKind.local) = true := by
  unfold PySem.Env.kindOf
  rw [G.names, h]
  rfl
theorem nS_any {vs : List Expr} (h : vs.all nS = true) : (vs.any fun | .Starred .. => true | _ => false) = false := by
  rw [List.any_eq_false]
  intro e he
  have q := List.all_eq_true.mp h e he
  cases e <;> first
    | exact absurd (show false = true from q) Bool.false_ne_true
    | simp
theorem sw2 (G : Good Γ C n X) {x y : Str} {px py pt : Pos} {kt k2 : Nat} {pt2 : Pos} {a b : Expr} (hx : Γ.sc.names.lookup x = some .local) (hy : Γ.sc.names.lookup y = some .local) (hl : (py.line == px.line) = true) (hxy : x ≠ y)
    (h1 : [a, b].all (foldedForSure 8) = false) (h2 : [a, b].all (constantsAlone 8) = false) (h3 : [a, b].all nS = true) : swappedStores [.Tuple [.Name x px, .Name y py] kt pt] (.Tuple [a, b] k2 pt2) X.env = pure (some [x, y]) := by
  unfold swappedStores
  simp only [pure_bind]
  rw [if_neg (by rw [G.bk]; simp), if_neg (by intro z; have := (nS_any h3).symm.trans z; cases this)]
  have q1 : (X.env.kindOf x == some NameKind.local && px.line == px.line) = true := by rw [G.kindOfL hx]; simp
  have q2 : (X.env.kindOf y == some NameKind.local && py.line == px.line) = true := by rw [G.kindOfL hy, hl]; rfl
  generalize hN : List.filterMap _ [Expr.Name x px, .Name y py] = names
  have e : names = [x, y] := by
    have e0 : List.filterMap (nmL X.env px.line) [Expr.Name x px, .Name y py] = [x, y] := by
      rw [List.filterMap_cons_some (f := nmL X.env px.line) (a := Expr.Name x px) (b := x) (if_pos q1), List.filterMap_cons_some (f := nmL X.env px.line) (a := Expr.Name y py) (b := y) (if_pos q2)]
      rfl
    exact hN.symm.trans e0
  subst e
  have e3 : ([x, y] : List Str).eraseDups = [x, y] := by
    have q : (y == x) = false := by simpa using fun z => hxy z.symm
    have q2 : (x == y) = false := by simpa using hxy
    simp [List.eraseDups, List.eraseDupsBy, List.eraseDupsBy.loop, q, q2]
  rw [e3, if_neg (by simp), h1, if_neg Bool.false_ne_true, h2, if_neg Bool.false_ne_true]
theorem sw3 (G : Good Γ C n X) {x y z : Str} {px py pz pt : Pos} {kt k2 : Nat} {pt2 : Pos} {a b c : Expr} (hx : Γ.sc.names.lookup x = some .local) (hy : Γ.sc.names.lookup y = some .local) (hz : Γ.sc.names.lookup z = some .local) (hl : (py.line == px.line) = true) (hl2 : (pz.line == px.line) = true)
    (hxy : x ≠ y) (hxz : x ≠ z) (hyz : y ≠ z) (h1 : [a, b, c].all (foldedForSure 8) = false) (h2 : [a, b, c].all (constantsAlone 8) = false) (h3 : [a, b, c].all nS = true) : swappedStores [.Tuple [.Name x px, .Name y py, .Name z pz] kt pt] (.Tuple [a, b, c] k2 pt2) X.env = pure (some [x, y, z]) := by
  unfold swappedStores
  simp only [pure_bind]
  rw [if_neg (by rw [G.bk]; simp), if_neg (by intro z; have := (nS_any h3).symm.trans z; cases this)]
  have q1 : (X.env.kindOf x == some NameKind.local && px.line == px.line) = true := by rw [G.kindOfL hx]; simp
  have q2 : (X.env.kindOf y == some NameKind.local && py.line == px.line) = true := by rw [G.kindOfL hy, hl]; rfl
  have q3 : (X.env.kindOf z == some NameKind.local && pz.line == px.line) = true := by rw [G.kindOfL hz, hl2]; rfl
  generalize hN : List.filterMap _ [Expr.Name x px, .Name y py, .Name z pz] = names
  have e : names = [x, y, z] := by
    have e0 : List.filterMap (nmL X.env px.line) [Expr.Name x px, .Name y py, .Name z pz] = [x, y, z] := by
      rw [List.filterMap_cons_some (f := nmL X.env px.line) (a := Expr.Name x px) (b := x) (if_pos q1), List.filterMap_cons_some (f := nmL X.env px.line) (a := Expr.Name y py) (b := y) (if_pos q2), List.filterMap_cons_some (f := nmL X.env px.line) (a := Expr.Name z pz) (b := z) (if_pos q3)]
      rfl
    exact hN.symm.trans e0
  subst e
  have e3 : ([x, y, z] : List Str).eraseDups = [x, y, z] := by
    have q : (y == x) = false := by simpa using fun z => hxy z.symm
    have q4 : (z == x) = false := by simpa using fun z => hxz z.symm
    have q5 : (z == y) = false := by simpa using fun z => hyz z.symm
    have q2 : (x == y) = false := by simpa using hxy
    have q6 : (x == z) = false := by simpa using hxz
    have q7 : (y == z) = false := by simpa using hyz
    simp [List.eraseDups, List.eraseDupsBy, List.eraseDupsBy.loop, q, q2, q4, q5, q6, q7]
  rw [e3, if_neg (by simp), h1, if_neg Bool.false_ne_true, h2, if_neg Bool.false_ne_true]
/-! ### an assignment to one target -/
theorem comp_parts (G : Good Γ C n X) {vs : List (Str × Nat)} {tg : TG} {src : SR} {cnd : Es} {elt : E} {el : Expr} {gs : List Comprehension} {scope : Scope} {pos : Pos} (h : chkE (.comp vs tg src cnd elt) Γ (.ListComp el gs scope pos) = true) :
    ∃ t it ifs, gs = [⟨t, it, ifs, 0⟩] ∧ PI X t it (tI X.K C true src) ∧ BlkOk X.N X.env.scope scope vs ∧ (∀ (s : Shared) (H : Hp) (C' : Addr) (cl : List (Str × Addr)) (fp : List Addr), PG (X.blk s H scope (compEnvC scope cl C' X.env) fp) t (gT X.K tg)) ∧
      (∀ (s : Shared) (H : Hp) (C' : Addr) (cl : List (Str × Addr)) (fp : List Addr), PTs (X.blk s H scope (compEnvC scope cl C' X.env) fp) ifs (tCnd X.K C cnd)) ∧
      (∀ (s : Shared) (H : Hp) (C' : Addr) (cl : List (Str × Addr)) (fp : List Addr), PE (X.blk s H scope (compEnvC scope cl C' X.env) fp) el (tG X.K C .m elt)) ∧ (∀ x, foldedSetIterable it X.env x = pure x) ∧ tgIn tg (vs.map (·.2)) = true := by
  simp only [chkE] at h
  split at h
  · rename_i el' t it ifs scope' pos' e
    cases e
    simp only [Bool.and_eq_true] at h
    obtain ⟨⟨⟨⟨⟨⟨⟨⟨⟨h1, h2⟩, h3⟩, h4⟩, h5⟩, h6⟩, h7⟩, h8⟩, h9⟩, h10⟩ := h
    have bk := blkOk_by h1
    refine ⟨t, it, ifs, rfl, okSR src Γ t it X G h2 true (.inl rfl), ?_, fun s H C' cl fp => pg_T (G.blk bk.kind s H C' cl fp) h4, fun s H C' cl fp => cnd_pts (okEs cnd _ ifs _ (G.blk bk.kind s H C' cl fp) h5).2 h6 h7,
        fun s H C' cl fp => (okE elt _ _ _ (G.blk bk.kind s H C' cl fp) h9).m h10, ?_, h8⟩
    · rw [G.N]
      exact ⟨bk.kind, bk.uniq, bk.ix, fun y hy e => by rw [G.names]; exact bk.free y hy e, bk.own⟩
    · intro x
      cases it <;> first
        | exact absurd (show false = true from h3) Bool.false_ne_true
        | rfl
  · cases h
theorem asg_name (G : Good Γ C n X) {i : Nat} {x : Str} {px pos : Pos} {v : Expr} {c : E} {g : Fg} (hi : locB Γ i x = true) (hc : chkE c Γ v = true) (hv : notComp v = true ∨ ∃ a b s p, v = .ListComp a b s p) (hg : fg c = .n ∨ (g = .m ∧ cleanE c = true)) (hg2 : g = .n ∨ g = .m) : PS X (.Assign [.Name x px] v pos) (tAsg (tG X.K C g c) (gName i)) := by
  obtain ⟨l1, l2, l3⟩ := G.loc hi
  have ok := okE c Γ v X G hc
  have pe : PE X v (tG X.K C g c) := by
    rcases hg with h | ⟨rfl, h⟩
    · rcases hg2 with rfl | rfl
      · have := ok.pe; rw [h] at this; exact this
      · exact tG_m ok.pe (by rw [h]; decide)
    · exact ok.m h
  rcases hv with hv | ⟨el, gs, scope, vp, rfl⟩
  · exact ps_set G.nd l1 l2 pe (sw_not hv) l3
  · cases hs : lcSwap Γ x px scope vp with
    | false => exact ps_set G.nd l1 l2 pe (by rw [sw_lc G, hs]) l3
    | true =>
      have hloc : X.env.scope.names.lookup x = some .local := by
        unfold lcSwap at hs
        simp only [Bool.and_eq_true, decide_eq_true_eq] at hs
        rw [G.names]; exact hs.1.1
      have shape : ∃ vs tg src cnd elt, c = .comp vs tg src cnd elt := by
        cases c with
        | comp vs tg src cnd elt => exact ⟨vs, tg, src, cnd, elt, rfl⟩
        | prim p es =>
          exfalso
          simp only [chkE] at hc
          have : partsP Γ p (.ListComp el gs scope vp) = none := by
            cases p with
            | isi ts =>
              simp only [partsP]
              split <;> rfl
            | _ => rfl
          rw [this] at hc
          cases hc
        | _ => simp [chkE] at hc
      obtain ⟨vs, tg, src, cnd, elt, rfl⟩ := shape
      obtain ⟨t, it, ifs, rfl, hp, bk, hpg, hpt, hpe, hf, htg⟩ := comp_parts G hc
      refine ps_wk (ps_setLc G.calm G.nd l1 hloc (by rw [sw_lc G, hs]) hp bk hpg hpt hpe hf) fun D σ H q => ?_
      rcases hg2 with rfl | rfl
      · exact comp_wk htg q
      · refine comp_wk htg ?_
        obtain ⟨F, ρ, cs, env, x, cs', h1, h2, h3, k⟩ := q
        exact ⟨F, ρ, cs, env, x, cs', h1, h2, h3, fun F' ρ' H' v w r => let ⟨F2, w2, r2⟩ := freeze w r; k F2 ρ' H' v w2 r2⟩
theorem asg_any (G : Good Γ C n X) {t : TG} {tg v : Expr} {pos : Pos} {c : E} {g : Fg} (ht : chkTG Γ t tg = true) (hc : chkE c Γ v = true) (ha : asgB Γ tg v = true) (hg : fg c = .n ∨ (g = .m ∧ cleanE c = true)) (hg2 : g = .n ∨ g = .m) : PS X (.Assign [tg] v pos) (tAsg (tG X.K C g c) (gT X.K t)) := by
  unfold chkTG at ht
  cases t with
  | n i =>
    simp only at ht
    split at ht
    · rename_i x px
      refine asg_name G ht hc ?_ hg hg2
      unfold asgB at ha
      simp only [Bool.or_eq_true] at ha
      rcases ha with ha | ha
      · exact .inl ha
      · split at ha
        · exact .inr ⟨_, _, _, _, rfl⟩
        · cases ha
    · cases ht
  | t is =>
    simp only at ht
    split at ht
    · rename_i es k p
      have ok := okE c Γ v X G hc
      have pe : PE X v (tG X.K C g c) := by
        rcases hg with h | ⟨rfl, h⟩
        · rcases hg2 with rfl | rfl
          · have := ok.pe; rw [h] at this; exact this
          · exact tG_m ok.pe (by rw [h]; decide)
        · exact ok.m h
      exact ps_asg pe (pg_T G (t := .t is) ht) (sw_tup (es := es) (k := k) (p := p) (l := pos.line) (env := X.env)) (swN_of G ha) rfl
    · cases ht
end
end R

namespace R
open PySem PySem.Spec PyProof.Rows L2
variable [W0]
section
variable {X : Cx} {C : Cxt} {Γ : Gam} {n : Nat}
theorem idx_ne {N : List Str} {i j : Nat} {x y : Str} (hi : N[i]? = some x) (hj : N[j]? = some y) (h : x ≠ y) : i ≠ j := by
  rintro rfl
  rw [hi] at hj
  exact h (Option.some.inj hj)
theorem setPs2 {a b : Bool × Nat} {v w : V} {σ : L2.St} : setPs [a, b] [v, w] σ = (σ.set a.2 (some v)).set b.2 (some w) := rfl
theorem setPs3 {a b c : Bool × Nat} {u v w : V} {σ : L2.St} : setPs [a, b, c] [u, v, w] σ = ((σ.set a.2 (some u)).set b.2 (some v)).set c.2 (some w) := rfl
theorem parNames1 {ms : List (Bool × Nat)} {x : Str} {px : Pos} {es : List Expr} (h : parNames Γ ms (.Name x px :: es) = true) : ∃ m r, ms = m :: r ∧ Γ.N[m.2]? = some x ∧ Γ.sc.names.lookup x = some .local ∧ parNames Γ r es = true := by
  cases ms with
  | nil => exact absurd (show false = true from h) Bool.false_ne_true
  | cons m r =>
    simp only [parNames, Bool.and_eq_true, decide_eq_true_eq] at h
    exact ⟨m, r, rfl, h.1.1, h.1.2, h.2⟩
theorem parNames0 {ms : List (Bool × Nat)} (h : parNames Γ ms [] = true) : ms = [] := by
  cases ms with
  | nil => rfl
  | cons m r => exact absurd (show false = true from h) Bool.false_ne_true
theorem par_ok (G : Good Γ C n X) {ms : List (Bool × Nat)} {es : Es} {tg : Expr} {vs : List Expr} {k : Nat} {p pos : Pos} (hb : parB Γ ms tg vs = true) (hc : chkEs es Γ vs = true) (hp : cleanPs ms es = true) : PS X (.Assign [tg] (.Tuple vs k p) pos) (tS X.K C (.par ms es)) := by
  have pl := (okEs es Γ vs X G hc).1
  unfold parB at hb
  split at hb
  · rename_i ts kt pt
    split at hb
    · rename_i x px y py
      simp only [Bool.and_eq_true, Bool.not_eq_true', decide_eq_true_eq, decide_eq_false_iff_not] at hb
      obtain ⟨⟨⟨⟨⟨⟨h1, h2⟩, h3⟩, h4⟩, h5⟩, h6⟩, h7⟩ := hb
      match vs, h2 with
      | [a, b], _ =>
      obtain ⟨m1, r1, rfl, n1, l1, h1⟩ := parNames1 h1
      obtain ⟨m2, r2, rfl, n2, l2, h1⟩ := parNames1 h1
      obtain rfl := parNames0 h1
      rw [← G.N] at n1 n2
      refine ⟨fun pins s σ H D I q => ?_⟩
      refine (ps_par G.calm G.nd n1 n2 (idx_ne n1 n2 h4) (by rw [G.names]; exact l1) (by rw [G.names]; exact l2) (pa_ps σ hp pl) (sw2 G l1 l2 h3 h4 h5 h6 h7)).run pins s σ H D I ?_
      obtain ⟨F0, ρ0, H0, F, ρ, cs, env, envA, env', xs, cs', q1, q2, q3, q4, q5, k⟩ := par_wk q
      refine ⟨F0, ρ0, H0, F, ρ, cs, env, envA, env', xs, cs', q1, q2, q3, q4, q5, fun F' ρ' H' vs w o1 o2 hl => ?_⟩
      obtain ⟨_, k⟩ := k F' ρ' H' vs w o1 o2 hl
      match vs, hl with
      | [v, w], _ => exact ⟨v, w, rfl, k⟩
    · rename_i x px y py z pz
      simp only [Bool.and_eq_true, Bool.not_eq_true', decide_eq_true_eq, decide_eq_false_iff_not] at hb
      obtain ⟨⟨⟨⟨⟨⟨⟨⟨⟨h1, h2⟩, h3⟩, h3'⟩, h4⟩, h4'⟩, h4''⟩, h5⟩, h6⟩, h7⟩ := hb
      match vs, h2 with
      | [a, b, c], _ =>
      obtain ⟨m1, r1, rfl, n1, l1, h1⟩ := parNames1 h1
      obtain ⟨m2, r2, rfl, n2, l2, h1⟩ := parNames1 h1
      obtain ⟨m3, r3, rfl, n3, l3, h1⟩ := parNames1 h1
      obtain rfl := parNames0 h1
      rw [← G.N] at n1 n2 n3
      refine ⟨fun pins s σ H D I q => ?_⟩
      refine (ps_par3 G.calm G.nd n1 n2 n3 (idx_ne n1 n2 h4) (idx_ne n1 n3 h4') (idx_ne n2 n3 h4'') (by rw [G.names]; exact l1) (by rw [G.names]; exact l2) (by rw [G.names]; exact l3) (pa_ps σ hp pl) (sw3 G l1 l2 l3 h3 h3' h4 h4' h4'' h5 h6 h7)).run pins s σ H D I ?_
      obtain ⟨F0, ρ0, H0, F, ρ, cs, env, envA, env', xs, cs', q1, q2, q3, q4, q5, k⟩ := par_wk q
      refine ⟨F0, ρ0, H0, F, ρ, cs, env, envA, env', xs, cs', q1, q2, q3, q4, q5, fun F' ρ' H' vs w o1 o2 hl => ?_⟩
      obtain ⟨_, k⟩ := k F' ρ' H' vs w o1 o2 hl
      match vs, hl with
      | [u, v, w], _ => exact ⟨u, v, w, rfl, k⟩
    · cases hb
  · cases hb
theorem asg_tupG (G : Good Γ C n X) {is : List Nat} {tg v : Expr} {pos : Pos} {te : TE} (pe : PE X v te) (ht : chkTG Γ (.t is) tg = true) (ha : swN Γ tg v = true) : PS X (.Assign [tg] v pos) (tAsg te (gT X.K (.t is))) := by
  have ht' := ht
  unfold chkTG at ht'
  simp only at ht'
  split at ht'
  · rename_i es k p
    exact ps_asg pe (pg_T G (t := .t is) ht) (sw_tup (es := es) (k := k) (p := p) (l := pos.line) (env := X.env)) (swN_of G ha) rfl
  · cases ht'
theorem foldedOf {it : Expr} (h : notSet it = true) {env : PySem.Env} : ∀ x, foldedSetIterable it env x = pure x := by
  intro x
  cases it <;> first
    | exact absurd (show false = true from h) Bool.false_ne_true
    | rfl
theorem backTo1 {e : Expr} {pos : Pos} {env : PySem.Env} (h : nS e = true) : (backTo pos (starEach [] env)).any (·.1) = false := rfl
theorem app_ok (G : Good Γ C n X) {i : Nat} {e : E} {x : Str} {v : Expr} {px ap cp pos : Pos} (h1 : visB Γ i x = true) (h2 : (ap.endLine == cp.line) = true) (h3 : nS v = true) (h4 : chkE e Γ v = true) (h5 : cleanE e = true) :
    PS X (.Expr (.Call (.Attribute (.Name x px) "append" ap) [v] [] cp) pos) (tS X.K C (.app i e)) :=
  ps_wk (ps_expr (pe_bm PySem.F.plainAttrs_list PySem.F.slot_list_append PySem.F.type_list_append mt_append (G.vis h1) (pa_cons ((okE e Γ v X G h4).m h5) pa_nil (star_cons h3)) rfl (by rw [star_cons h3]; rfl) h2 (star_cons h3) rfl) rfl) fun D σ H q => app_wk q
theorem ins_ok (G : Good Γ C n X) {i : Nat} {a e : E} {x : Str} {u v : Expr} {px ap cp pos : Pos} (h1 : visB Γ i x = true) (h2 : (ap.endLine == cp.line) = true) (h3 : nS u = true) (h3' : nS v = true) (h0 : chkE a Γ u = true) (h4 : chkE e Γ v = true) (h5 : cleanE e = true) :
    PS X (.Expr (.Call (.Attribute (.Name x px) "insert" ap) [u, v] [] cp) pos) (tS X.K C (.ins i a e)) :=
  ps_wk (ps_expr (pe_bm PySem.F.plainAttrs_list PySem.F.slot_list_insert PySem.F.type_list_insert mt_insert (G.vis h1) (pa_cons (okE a Γ u X G h0).x (pa_cons ((okE e Γ v X G h4).m h5) pa_nil (star_cons h3')) (star_cons h3)) rfl (by rw [star_cons h3, star_cons h3']; rfl) h2 (star_cons h3) (by rw [star_cons h3']; rfl)) rfl) fun D σ H q => ins_wk q
theorem dsd_ok (G : Good Γ C n X) {i : Nat} {a e : E} {x : Str} {u v : Expr} {px ap cp pos : Pos} (h1 : visB Γ i x = true) (h2 : (ap.endLine == cp.line) = true) (h3 : nS u = true) (h3' : nS v = true) (h0 : chkE a Γ u = true) (h0' : cleanE a = true) (h4 : chkE e Γ v = true) (h5 : cleanE e = true) :
    PS X (.Expr (.Call (.Attribute (.Name x px) "setdefault" ap) [u, v] [] cp) pos) (tS X.K C (.dsd i a e)) :=
  ps_wk (ps_expr (pe_dm PySem.F.plainAttrs_dict PySem.F.slot_dict_setdefault PySem.F.type_dict_setdefault (mt_setD G.wd (by have := G.room.un; omega)) (G.vis h1) (pa_cons ((okE a Γ u X G h0).m h0') (pa_cons ((okE e Γ v X G h4).m h5) pa_nil (star_cons h3')) (star_cons h3)) rfl (by rw [star_cons h3, star_cons h3']; rfl) h2 (star_cons h3) (by rw [star_cons h3']; rfl)) rfl) fun D σ H q => dsd_wk q
theorem popS_ok (G : Good Γ C n X) {i : Nat} {a : E} {x : Str} {u : Expr} {px ap cp pos : Pos} (h1 : visB Γ i x = true) (h2 : (ap.endLine == cp.line) = true) (h3 : nS u = true) (h0 : chkE a Γ u = true) :
    PS X (.Expr (.Call (.Attribute (.Name x px) "pop" ap) [u] [] cp) pos) (tS X.K C (.popS i a)) :=
  ps_wk (ps_expr (pe_bm PySem.F.plainAttrs_list PySem.F.slot_list_pop PySem.F.type_list_pop mt_popAt (G.vis h1) (pa_cons (okE a Γ u X G h0).x pa_nil (star_cons h3)) rfl (by rw [star_cons h3]; rfl) h2 (star_cons h3) rfl) rfl) fun D σ H q => popS_wk q
end
mutual
theorem okS {n : Nat} {C : Cxt} : ∀ (c : S) (Γ : Gam) (st : Stmt) (X : Cx), Good Γ C n X → PassesOwn (model X.prog X.w) X.A X.env X.xe → chkS c Γ st = true → PS X st (tS X.K C c)
  | .asg t e, Γ, st, X, G, P, h => by
    simp only [chkS] at h
    split at h
    · simp only [Bool.and_eq_true] at h
      obtain ⟨⟨⟨h1, h2⟩, h3⟩, h4⟩ := h
      exact ps_wk (asg_any G h1 h2 h4 (.inr ⟨rfl, h3⟩) (.inr rfl)) fun D σ H q => asg_wk q
    · cases h
  | .par ms es, Γ, st, X, G, P, h => by
    simp only [chkS] at h
    split at h
    · simp only [Bool.and_eq_true] at h
      obtain ⟨⟨h1, h2⟩, h3⟩ := h
      exact par_ok G h1 h2 h3
    · cases h
  | .own i e, Γ, st, X, G, P, h => by
    simp only [chkS] at h
    split at h
    · simp only [Bool.and_eq_true, decide_eq_true_eq] at h
      obtain ⟨⟨⟨h1, h2⟩, h3⟩, h4⟩ := h
      exact ps_wk (asg_any G h1 h2 h4 (.inl h3) (.inl rfl)) fun D σ H q => own_wk q
    · cases h
  | .newc i e, Γ, st, X, G, P, h => by
    simp only [chkS] at h
    split at h
    · simp only [Bool.and_eq_true, decide_eq_true_eq] at h
      obtain ⟨⟨⟨h1, h2⟩, h3⟩, h4⟩ := h
      exact ps_wk (asg_any G h1 h2 h4 (.inl h3) (.inl rfl)) fun D σ H q => newc_wk q
    · cases h
  | .cset a i e, Γ, st, X, G, P, h => by
    simp only [chkS] at h
    split at h
    · rename_i x y p v pos
      simp only [Bool.and_eq_true] at h
      obtain ⟨⟨⟨⟨h1, h2⟩, h3⟩, h4⟩, h5⟩ := h
      exact ps_wk (ps_asg ((okE e Γ v X G h4).m h5) (pg_sub (okE a Γ x X G h2).x (okE i Γ y X G h3).x set_list (by intro v; cases y <;> first | rfl | exact absurd (show false = true from h1) Bool.false_ne_true)) (sw_sub (a := x) (b := y) (p := p) (l := pos.line) (env := X.env)) rfl rfl) fun D σ H q => cset_wk q
    · cases h
  | .dput i a e, Γ, st, X, G, P, h => by
    simp only [chkS] at h
    split at h
    · rename_i x xp y p v pos
      simp only [Bool.and_eq_true] at h
      obtain ⟨⟨⟨⟨⟨h1, h2⟩, h3⟩, h3'⟩, h4⟩, h5⟩ := h
      exact ps_wk (ps_asg ((okE e Γ v X G h4).m h5) (pg_sub (G.vis h1) ((okE a Γ y X G h3).m h3') (set_t G.wd (by have := G.room.un; omega)) (by intro v; cases y <;> first | rfl | exact absurd (show false = true from h2) Bool.false_ne_true)) (sw_sub (a := .Name x xp) (b := y) (p := p) (l := pos.line) (env := X.env)) rfl rfl) fun D σ H q => dput_wk q
    · cases h
  | .parT is es, Γ, st, X, G, P, h => by
    simp only [chkS] at h
    split at h
    · rename_i tg vs kk p pos
      simp only [Bool.and_eq_true] at h
      obtain ⟨⟨⟨h1, h2⟩, h3⟩, h4⟩ := h
      exact ps_wk (asg_tupG G (pe_tup ((okEs es Γ vs X G h2).1.am h3)) h1 h4) fun D σ H q => parT_wk q
    · cases h
  | .kput i a e, Γ, st, X, G, P, h => by
    simp only [chkS] at h
    split at h
    · rename_i x xp y p v pos
      simp only [Bool.and_eq_true] at h
      obtain ⟨⟨⟨⟨⟨h1, h2⟩, h3⟩, h3'⟩, h4⟩, h5⟩ := h
      exact ps_wk (ps_asg ((okE e Γ v X G h4).m h5) (pg_sub (G.vis h1) ((okE a Γ y X G h3).m h3') (set_k (by have := G.room.un; omega)) (by intro v; cases y <;> first | rfl | exact absurd (show false = true from h2) Bool.false_ne_true)) (sw_sub (a := .Name x xp) (b := y) (p := p) (l := pos.line) (env := X.env)) rfl rfl) fun D σ H q => kput_wk q
    · cases h
  | .forPop t d l c b, Γ, st, X, G, P, h => by
    simp only [chkS] at h
    split at h
    · rename_i tg x xp y yp m ap cp sp z zk zp sp2 bd pos
      simp only [Bool.and_eq_true, decide_eq_true_eq] at h
      obtain ⟨⟨⟨⟨⟨⟨h1, h2⟩, h3⟩, rfl⟩, h5⟩, rfl⟩, h7⟩ := h
      refine ps_wk (ps_for P G.calm (pi_seq (pe_ix ix_tup (pe_dget (by have := G.room.un; omega) (G.vis h2) (pe_bm0 PySem.F.plainAttrs_list PySem.F.slot_list_pop PySem.F.type_list_pop mt_pop (G.vis h3) rfl h5) (fun _ _ => rfl)) pe_int (fun _ _ => rfl))) (pg_T G h1) (okSs b Γ bd X G P h7) (fun _ => rfl)) fun D σ H q => forPop_wk q
    · cases h
  | .dsd i a e, Γ, st, X, G, P, h => by
    simp only [chkS] at h
    split at h
    · simp only [Bool.and_eq_true, decide_eq_true_eq] at h
      obtain ⟨⟨⟨⟨⟨⟨⟨⟨rfl, h1⟩, h2⟩, h3⟩, h3'⟩, h4⟩, h5⟩, h6⟩, h7⟩ := h
      exact dsd_ok G h1 h2 h3 h3' h4 h5 h6 h7
    · cases h
  | .lset i a e, Γ, st, X, G, P, h => by
    simp only [chkS] at h
    split at h
    · rename_i x xp y p v pos
      simp only [Bool.and_eq_true] at h
      obtain ⟨⟨⟨⟨h1, h2⟩, h3⟩, h4⟩, h5⟩ := h
      exact ps_wk (ps_asg ((okE e Γ v X G h4).m h5) (pg_sub (G.vis h1) (okE a Γ y X G h3).x set_list (by intro v; cases y <;> first | rfl | exact absurd (show false = true from h2) Bool.false_ne_true)) (sw_sub (a := .Name x xp) (b := y) (p := p) (l := pos.line) (env := X.env)) rfl rfl) fun D σ H q => lset_wk q
    · cases h
  | .app i e, Γ, st, X, G, P, h => by
    simp only [chkS] at h
    split at h
    · simp only [Bool.and_eq_true, decide_eq_true_eq] at h
      obtain ⟨⟨⟨⟨⟨h0, h1⟩, h2⟩, h3⟩, h4⟩, h5⟩ := h
      subst h0
      exact app_ok G h1 h2 h3 h4 h5
    · cases h
  | .ins i a e, Γ, st, X, G, P, h => by
    simp only [chkS] at h
    split at h
    · simp only [Bool.and_eq_true, decide_eq_true_eq] at h
      obtain ⟨⟨⟨⟨⟨⟨⟨h0, h1⟩, h2⟩, h3⟩, h3'⟩, h4⟩, h5⟩, h6⟩ := h
      subst h0
      exact ins_ok G h1 h2 h3 h3' h4 h5 h6
    · cases h
  | .popS i a, Γ, st, X, G, P, h => by
    simp only [chkS] at h
    split at h
    · simp only [Bool.and_eq_true, decide_eq_true_eq] at h
      obtain ⟨⟨⟨⟨h0, h1⟩, h2⟩, h3⟩, h4⟩ := h
      subst h0
      exact popS_ok G h1 h2 h3 h4
    · cases h
  | .frz _, Γ, st, X, G, P, h => by simp only [chkS] at h; cases h
  | .ite c a b, Γ, st, X, G, P, h => by
    simp only [chkS] at h
    split at h
    · rename_i t x y pos
      simp only [Bool.and_eq_true] at h
      obtain ⟨⟨⟨h1, h2⟩, h3⟩, h4⟩ := h
      exact ps_wk (ps_if ((okE c Γ t X G h1).pt h2) (okSs a Γ x X G P h3) (okSs b Γ y X G P h4)) fun D σ H q => ite_wk q
    · cases h
  | .forr t src b, Γ, st, X, G, P, h => by
    simp only [chkS] at h
    split at h
    · rename_i tg it x pos
      simp only [Bool.and_eq_true] at h
      obtain ⟨⟨⟨⟨h1, h2⟩, h3⟩, h4⟩, h5⟩ := h
      exact ps_wk (ps_for P G.calm (okSR src Γ tg it X G h2 false (.inr h3)) (pg_T G h1) (okSs b Γ x X G P h5) (foldedOf h4)) fun D σ H q => for_wk q
    · cases h
  | .whil c b, Γ, st, X, G, P, h => by
    simp only [chkS] at h
    split at h
    · rename_i t x pos
      simp only [Bool.and_eq_true] at h
      obtain ⟨⟨h1, h2⟩, h3⟩ := h
      exact ps_wk (ps_while P ((okE c Γ t X G h1).pt h2) (okSs b Γ x X G P h3)) fun D σ H q => whil_wk q
    · cases h
  | .ret e, Γ, st, X, G, P, h => by
    simp only [chkS] at h
    split at h
    · rename_i v pos
      simp only [Bool.and_eq_true] at h
      exact ps_wk (ps_ret ((okE e Γ v X G h.1).m h.2)) fun D σ H q => ret_wk q
    · cases h
  | .retN, Γ, st, X, G, P, h => by
    simp only [chkS] at h
    split at h
    · exact ps_wk ps_retN fun D σ H q => retN_wk q
    · cases h
  | .expr e, Γ, st, X, G, P, h => by
    simp only [chkS] at h
    split at h
    · rename_i v pos
      simp only [Bool.and_eq_true] at h
      exact ps_wk (ps_expr (okE e Γ v X G h.1).x (sw_not h.2)) fun D σ H q => expr_wk q
    · cases h
  | .brk, Γ, st, X, G, P, h => by
    simp only [chkS] at h
    split at h
    · exact ps_wk ps_break fun D σ H q => brk_wk q
    · cases h
  | .cont, Γ, st, X, G, P, h => by
    simp only [chkS] at h
    split at h
    · exact ps_wk ps_continue fun D σ H q => cont_wk q
    · cases h
  | .pass, Γ, st, X, G, P, h => by
    simp only [chkS] at h
    split at h
    · exact ps_wk ps_pass fun D σ H q => pass_wk q
    · cases h
theorem okSs {n : Nat} {C : Cxt} : ∀ (c : Ss) (Γ : Gam) (sts : List Stmt) (X : Cx), Good Γ C n X → PassesOwn (model X.prog X.w) X.A X.env X.xe → chkSs c Γ sts = true → PSs X sts (tSs X.K C c)
  | .nil, Γ, sts, X, G, P, h => by
    simp only [chkSs] at h
    split at h
    · exact pss_wk pss_nil fun D σ H q => nil_wk q
    · cases h
  | .cons s ss, Γ, sts, X, G, P, h => by
    cases s with
    | frz i =>
      simp only [chkSs] at h
      exact pss_wk (okSs ss Γ sts X G P h) fun D σ H q => frz_wk q
    | _ =>
      simp only [chkSs] at h
      split at h
      · rename_i st sts
        rw [Bool.and_eq_true] at h
        exact pss_wk (pss_cons (okS _ Γ st X G P h.1) (okSs ss Γ sts X G P h.2)) fun D σ H q => cons_wk q
      · cases h
end
end R

namespace R
open PySem PySem.Spec PyProof.Rows L2
variable [W0]
/-! ### defs -/
structure Fn where
  x : Str
  st : Stmt
  D : Def
  pl : Bool
def Fn.ps (F : Fn) : List Str := F.D.names.take F.D.np
def scB (N P : List Str) (sc : Scope) : Bool :=
  decide (sc.kind = .function) && !sc.isCoroutine && !sc.isGenerator && decide N.Nodup && decide (N.take P.length = P) && P.all (fun x => decide (sc.names.lookup x = some .local) || decide (sc.names.lookup x = some .cell)) && sc.names.all (fun y => !decide (y.2 = .free))
theorem scB_of {N P : List Str} {sc : Scope} (h : scB N P sc = true) : FnScope N P sc := by
  unfold scB at h
  simp only [Bool.and_eq_true, Bool.not_eq_true', decide_eq_true_eq, List.all_eq_true, Bool.or_eq_true, decide_eq_false_iff_not] at h
  obtain ⟨⟨⟨⟨⟨⟨h1, h2⟩, h3⟩, h4⟩, h5⟩, h6⟩, h7⟩ := h
  exact ⟨h1, h2, h3, h4, h5, h6, h7⟩
def fnsOf (F : Fn) : Option Str := if F.pl = true then some F.x else none
def fnB (fns : List (Option Str)) (bi gls : List Str) (kws : List KForm) (F : Fn) : Bool := scB F.D.names F.ps (defScope F.st) && decide (F.ps.length = F.D.np) && chkSs F.D.body ⟨F.D.names, defScope F.st, true, fns, bi, gls, kws⟩ (defBody F.st)
/-- a def as it stands behind the top -/
structure FnAt (K : PySem.W.Frag) (mg : Str → Option Value) (F : Fn) (f : Addr) (fd : FuncData) : Prop where
  ok : ∀ {P : Program} {w : World} {base : Heap} {k : Nat} {sp : Sp}, FnScope F.D.names F.ps (defScope F.st) → (∀ vs H Q E, sp vs H Q E → vs.length = F.ps.length) →
    (∀ (cdv : Value) (A : Around) (outer : List PySem.Env) (s : Shared) (H : Hp) (vs : List V) (Q : VK) (E : XK), Room k (A.deeper (envOfC F.x (defScope F.st) s.heap.objs.size f cdv)) → sp vs H Q E →
      ∃ t, PSs (cxOf CX0 P w K mg base F.D.names F.x (defScope F.st) f cdv A outer s H E).nox (defBody F.st) t ∧ t { nx := fun _ H' => Q .non H', rt := Q } (L2.start F.D.names vs) H) → FnOk P w K mg base CX0 (k + 1) f fd F.ps sp
  kp : PySem.W.keepIn K (.ref f) = true
  mgf : mg F.x = some (.ref f)
/-- a form of call is bound so -/
def KwAt (K : PySem.W.Frag) (fd : FuncData) (ps : List Str) (fo : KForm) : Prop := ∃ g gV, KBn K fd ps fo.n fo.ks g gV ∧
  ∀ (F : Hp) (ρ : List Addr) (H : Hp) (vs zs : List V) (xs ys ws : List MV), RelXs .m K F ρ H vs xs → RelXs .m K F ρ H zs ys → arF xs ys fo.ar = some ws → RelXs .m K F ρ H (gV vs zs) ws
/-- what is said of a def: it stands, its plain calls are bound, its other calls too -/
def FnAll (K : PySem.W.Frag) (mg : Str → Option Value) (fs : List Fn) (kws : List KForm) (i : Nat) (F : Fn) : Prop := ∃ f fd, FnAt K mg F f fd ∧ (F.pl = true → Binds K fd F.ps []) ∧ ∀ fo ∈ kws, fo.f = i → fo.x = F.x ∧ KwAt K fd F.ps fo
structure Top (K : PySem.W.Frag) (w : World) (mg : Str → Option Value) (bi gls : List Str) (gl : Glo) : Prop where
  bi : ∀ x ∈ bi, mg x = none
  tgl : ∀ (i : Nat) (x : Str) (y : PyData), gls[i]? = some x → gl.v[i]? = some (.d y) → ∃ w u, mg x = some u ∧ RelV w u ∧ ∀ F, Dp K F w y
  tgd : ∀ (i : Nat) (x : Str) (kvs : List (Key × PyData)), gls[i]? = some x → gl.v[i]? = some (.k kvs) → ∃ d, mg x = some (.ref d) ∧ ∀ z y, lookS kvs z = some y → ∃ v0, KDct K w d z v0 ∧ ∀ F, Dp K F v0 y
section
variable {P : Program} {w : World} {K : PySem.W.Frag} {mg : Str → Option Value} {base : Heap}
theorem relXs_len {g : Fg} {F : Hp} {ρ : List Addr} {H : Hp} : ∀ {vs : List V} {xs : List MV}, RelXs g K F ρ H vs xs → vs.length = xs.length
  | _, _, .nil => rfl
  | _, _, .cons _ t => by rw [List.length_cons, List.length_cons, relXs_len t]
theorem relXs_get {F : Hp} {ρ : List Addr} {H : Hp} : ∀ {vs : List V} {xs : List MV} {i : Nat} {x : MV}, RelXs .m K F ρ H vs xs → xs[i]? = some x → ∃ v, vs[i]? = some v ∧ RelM K F ρ v x
  | _, _, _, _, .nil, e => by simp at e
  | _, _, 0, _, .cons h t, e => by simp at e; subst e; exact ⟨_, rfl, h⟩
  | _, _, i + 1, _, .cons h t, e => by
    obtain ⟨v, a, b⟩ := relXs_get (H := H) (i := i) t (by simpa using e)
    exact ⟨v, by simpa using a, b⟩
theorem startE_get {D : Def} {vs : List MV} {i : Nat} {s : Sl} (e : (startE D vs)[i]? = some s) : s = .no ∨ ∃ x, vs[i]? = some x ∧ s = .v x := by
  unfold startE at e
  by_cases hi : i < vs.length
  · rw [List.getElem?_append_left (by simpa using hi), List.getElem?_map] at e
    cases q : vs[i]? with
    | none => rw [q] at e; cases e
    | some x => rw [q] at e; cases e; exact .inr ⟨x, rfl, rfl⟩
  · rw [List.getElem?_append_right (by simpa using hi), List.getElem?_replicate] at e
    split at e
    · cases e; exact .inl rfl
    · cases e
theorem stt_start {D : Def} {F : Hp} {ρ : List Addr} {cs : Cells} {H : Hp} {vs : List V} {xs : List MV} (ok : OkC K F ρ cs H) (r : RelXs .m K F ρ H vs xs) : Stt K F ρ H F ρ cs (startE D xs) (L2.start D.names vs) H := by
  have hl := relXs_len r
  refine ⟨Fwd.refl ok, ⟨?_, fun i s e => ?_, fun i j s t p e _ o _ _ _ => ?_⟩, fun i s p e o _ => ?_⟩
  · unfold startE L2.start
    simp only [List.length_append, List.length_map, List.length_replicate, hl]
  · rcases startE_get e with rfl | ⟨x, e1, rfl⟩
    · trivial
    · obtain ⟨v, e2, q⟩ := relXs_get r e1
      refine ⟨v, ?_, q⟩
      unfold L2.start
      have hi : i < vs.length := (List.getElem?_eq_some_iff.mp e2).1
      rw [List.getElem?_append_left (by simpa using hi), List.getElem?_map, e2]
      rfl
  · rcases startE_get e with rfl | ⟨x, e1, rfl⟩ <;> cases o
  · rcases startE_get e with rfl | ⟨x, e1, rfl⟩ <;> cases o
theorem run_ok (hw : w = W0.w) {fs : List Fn} {bi gls : List Str} {gl : Glo} {W : Nat} (T : Top K w mg bi gls gl) (hf : ∀ (i : Nat) (F : Fn), fs[i]? = some F → FnAll K mg fs gl.kw i F) (hk : ∀ fo ∈ gl.kw, fo.f < fs.length) (hc : fs.all (fnB (fs.map fnsOf) bi gls gl.kw) = true) : ∀ (n i : Nat) (F : Fn) (f : Addr) (fd : FuncData), fs[i]? = some F → FnAt K mg F f fd →
    FnOk P w K mg base CX0 n f fd F.ps (spR K (run (fs.map (·.D)) gl W n i)) := by
  intro n
  induction n with
  | zero =>
    intro i F f fd _ _
    refine ⟨fun vs H Q E h => ?_, fun A outer s H args us vs Q E _ _ _ _ h => ?_⟩
    · obtain ⟨_, _, _, _, _, _, _, _, h, _⟩ := h
      simp only [run] at h
      cases h
    · obtain ⟨_, _, _, _, _, _, _, _, h, _⟩ := h
      simp only [run] at h
      cases h
  | succ n ih =>
    intro i F f fd hi hF
    have hB := List.all_eq_true.mp hc F (List.mem_of_getElem? hi)
    unfold fnB at hB
    simp only [Bool.and_eq_true, decide_eq_true_eq] at hB
    obtain ⟨⟨b1, b2⟩, b3⟩ := hB
    have hD : (fs.map (·.D))[i]? = some F.D := by rw [List.getElem?_map, hi]; rfl
    refine hF.ok (scB_of b1) (fun vs H Q E h => ?_) (fun cdv A outer s H vs Q E hr h => ?_)
    · obtain ⟨_, _, _, xs, _, _, _, r, h, _⟩ := h
      simp only [run, hD] at h
      split at h
      · rename_i hl
        rw [relXs_len r, hl, b2]
      · cases h
    · obtain ⟨F0, ρ, cs, xs, x, cs', ok, r, h, k⟩ := h
      simp only [run, hD] at h
      split at h
      · rename_i hl
        obtain ⟨⟨fl, env', cs2⟩, ev, h⟩ := Res.of_bind h
        have G : Good ⟨F.D.names, defScope F.st, true, fs.map fnsOf, bi, gls, gl.kw⟩ ⟨run (fs.map (·.D)) gl W n, gl, W⟩ n (cxOf CX0 P w K mg base F.D.names F.x (defScope F.st) f cdv A outer s H E).nox := by
          refine ⟨hw, rfl, rfl, (scB_of b1).nd, (scB_of b1).kind, rfl, (scB_of b1).kind, fun _ _ => rfl, hr, T.bi, T.tgl, T.tgd, rfl, fun j fo hj => ?_, fun j y hj => ?_⟩
          · have hm := List.mem_of_getElem? hj
            have hlt := hk fo hm
            have e : fs[fo.f]? = some fs[fo.f] := List.getElem?_eq_getElem hlt
            obtain ⟨f', fd', hF', _, hkw⟩ := hf fo.f _ e
            obtain ⟨hx, g, gV, kb, rel⟩ := hkw fo hm rfl
            exact ⟨f', fd', _, g, gV, by rw [hx]; exact hF'.mgf, hF'.kp, ih fo.f _ f' fd' e hF', kb, rel⟩
          · rw [List.getElem?_map] at hj
            cases e : fs[j]? with
            | none => rw [e] at hj; cases hj
            | some F' =>
              rw [e] at hj
              have hj : fnsOf F' = some y := Option.some.inj hj
              unfold fnsOf at hj
              split at hj
              · rename_i hp
                cases hj
                obtain ⟨f', fd', hF', hbd, _⟩ := hf j F' e
                exact ⟨f', fd', F'.ps, hF'.mgf, hF'.kp, ih j F' f' fd' e hF', hbd hp⟩
              · cases hj
        refine ⟨_, okSs F.D.body _ _ _ G PassesOwn.never b3, F0, ρ, H, F0, ρ, cs, startE F.D xs, _, stt_start ok r, ev, fun F1 ρ1 H1 σ1 st sm => ?_⟩
        cases fl with
        | nx => cases h; exact k F1 ρ1 H1 _ st.fw (Dp.non)
        | rt y => cases h; exact fun v rv => k F1 ρ1 H1 v st.fw rv
        | bk => cases h
        | ct => cases h
      · cases h
end
end R

namespace R
open PySem PySem.Spec PyProof.Rows L2
/-- a def stands so -/
theorem fnAt_of {K : PySem.W.Frag} {h : Heap} {mg : Str → Option Value} {f : Addr} (F : Fn) (X : K.In h) (G : h.Ns mainGlobals mg) {oc : Value} {od an : Option Addr} {osl : Array (Option Value)} {dV kV doc pm cdv ct : Value} (a : PySem.W.nsIn K mainGlobals F.x = some (some (.ref f)))
    (l : K.lookup f = some ⟨oc, od, .func (PySem.W.fnOf F.x F.x (defArgs F.st) (defBody F.st) (defScope F.st) dV kV doc pm an cdv ct), osl⟩) (c : PySem.W.codeIn K cdv F.x = true) (k : PySem.W.keepIn K (.ref f) = true) :
    FnAt K mg F f (PySem.W.fnOf F.x F.x (defArgs F.st) (defBody F.st) (defScope F.st) dV kV doc pm an cdv ct) :=
  ⟨fun S len hb => fn_of l c S len fun A outer s H vs Q E hr hsp => let ⟨t, ht, q⟩ := hb cdv A outer s H vs Q E hr hsp; ⟨t, ht.nox, q⟩, k, PySem.W.mg_of X G a⟩
/-! ### forms of call -/
/-- the parameters' values by place, by keyword, the lacking ones from ms -/
def arG {α : Type} (us ws : List α) : List Ar → List α → List α
  | [], _ => []
  | .p i :: r, ms => us[i]?.toList ++ arG us ws r ms
  | .k i :: r, ms => ws[i]?.toList ++ arG us ws r ms
  | .d _ :: r, m :: ms => m :: arG us ws r ms
  | .d _ :: r, [] => arG us ws r []
def dfl : List Ar → List PyData
  | [] => []
  | .d x :: r => x :: dfl r
  | _ :: r => dfl r
theorem vals_at {vs : List V} {us : List Value} : ∀ (i : Nat), Vals vs us → Vals (vs[i]?.toList) (us[i]?.toList) := by
  intro i h
  induction h generalizing i with
  | nil => exact .nil
  | cons h t ih =>
    cases i with
    | zero => exact .cons h .nil
    | succ i => exact ih i
theorem arG_vals {vs zs : List V} {us ws : List Value} (r1 : Vals vs us) (r2 : Vals zs ws) : ∀ (ar : List Ar) {mz : List V} {mv : List Value}, Vals mz mv → Vals (arG vs zs ar mz) (arG us ws ar mv)
  | [], _, _, _ => .nil
  | .p i :: r, _, _, h => (vals_at i r1).append (arG_vals r1 r2 r h)
  | .k i :: r, _, _, h => (vals_at i r2).append (arG_vals r1 r2 r h)
  | .d x :: r, _, _, .nil => arG_vals r1 r2 r .nil
  | .d x :: r, _, _, .cons h t => .cons h (arG_vals r1 r2 r t)
theorem relXs_at [W0] {K : PySem.W.Frag} {F : Hp} {ρ : List Addr} {H : Hp} {vs : List V} {xs : List MV} (r : RelXs .m K F ρ H vs xs) {i : Nat} {x : MV} (e : xs[i]? = some x) : ∃ v, vs[i]?.toList = [v] ∧ RelM K F ρ v x := by
  obtain ⟨v, h1, h2⟩ := relXs_get (H := H) r e
  exact ⟨v, by rw [h1]; rfl, h2⟩
theorem arG_rel [W0] {K : PySem.W.Frag} {F : Hp} {ρ : List Addr} {H : Hp} {vs zs : List V} {xs ys : List MV} (r1 : RelXs .m K F ρ H vs xs) (r2 : RelXs .m K F ρ H zs ys) : ∀ (ar : List Ar) {mz : List V} {ws : List MV}, DpAll K F mz (dfl ar) → arF xs ys ar = some ws → RelXs .m K F ρ H (arG vs zs ar mz) ws
  | [], _, _, _, e => by
    simp only [arF] at e
    cases e
    exact .nil
  | .p i :: r, mz, ws, d, e => by
    simp only [arF] at e
    obtain ⟨x, e1, e⟩ := Option.bind_eq_some_iff.mp e
    obtain ⟨w, e2, rfl⟩ := Option.map_eq_some_iff.mp e
    obtain ⟨v, h1, h2⟩ := relXs_at r1 e1
    show RelXs .m K F ρ H (vs[i]?.toList ++ arG vs zs r mz) _
    rw [h1]
    exact .cons h2 (arG_rel r1 r2 r d e2)
  | .k i :: r, mz, ws, d, e => by
    simp only [arF] at e
    obtain ⟨x, e1, e⟩ := Option.bind_eq_some_iff.mp e
    obtain ⟨w, e2, rfl⟩ := Option.map_eq_some_iff.mp e
    obtain ⟨v, h1, h2⟩ := relXs_at r2 e1
    show RelXs .m K F ρ H (zs[i]?.toList ++ arG vs zs r mz) _
    rw [h1]
    exact .cons h2 (arG_rel r1 r2 r d e2)
  | .d x :: r, mz, ws, d, e => by
    simp only [arF] at e
    obtain ⟨w, e2, rfl⟩ := Option.map_eq_some_iff.mp e
    cases d with
    | cons d1 d2 => exact .cons d1 (arG_rel r1 r2 r d2 e2)
theorem kwAt_mk {iw : W0} {K : PySem.W.Frag} {fd : FuncData} {ps : List Str} {fo : KForm} (D : Addr) (ms : List (Str × V)) (hms : ∀ q ∈ ms, ∃ u, PySem.W.nsIn K D q.1 = some (some u) ∧ RelV q.2 u)
    (h : ∀ us ws mv : List Value, us.length = fo.n → ws.length = fo.ks.length → mv.length = ms.length → KwChain D ((ms.map (·.1)).zip mv) (bindArgs fd ⟨us, fo.ks.zip ws⟩) (ps.zip (arG us ws fo.ar mv)))
    (hd : ∀ F, DpAll K F (ms.map (·.2)) (dfl fo.ar)) : KwAt K fd ps fo := by
  obtain ⟨ks, hl, rk, hks⟩ := kwd_vals hms
  refine ⟨fun us ws => arG us ws fo.ar ks, fun vs zs => arG vs zs fo.ar (ms.map (·.2)), ⟨fun s us ws X l1 l2 => BindsTo.of_looks fun M => KwChain.looks X hks (h us ws ks l1 l2 hl), fun r1 r2 => arG_vals r1 r2 fo.ar rk⟩, fun F ρ H vs zs xs ys ws r1 r2 e => arG_rel r1 r2 fo.ar (hd F) e⟩
/-- what the module's value u is -/
def DK (K : PySem.W.Frag) (u : Value) (d : PyData) : Prop := ∃ v, RelV v u ∧ ∀ F, Dp K F v d
theorem dk_int {K : PySem.W.Frag} {i : Int} {t : Tok} : DK K (.int i t) (.int i) := ⟨.int i, ⟨t, rfl⟩, fun _ => .int i⟩
theorem dk_str {K : PySem.W.Frag} {z : Str} {t : Tok} : DK K (.str z t) (.str z) := ⟨.str z, ⟨t, rfl⟩, fun _ => .str z⟩
def DKs (K : PySem.W.Frag) : List Value → List PyData → Prop
  | [], [] => True
  | u :: us, d :: ds => DK K u d ∧ DKs K us ds
  | _, _ => False
theorem dks_all {K : PySem.W.Frag} : ∀ {us : List Value} {ds : List PyData}, DKs K us ds → ∃ vs, Vals vs us ∧ ∀ F, DpAll K F vs ds
  | [], [], _ => ⟨[], .nil, fun _ => .nil⟩
  | u :: us, d :: ds, ⟨⟨v, r, h⟩, t⟩ => let ⟨vs, rs, hs⟩ := dks_all t; ⟨v :: vs, .cons r rs, fun F => .cons (h F) (hs F)⟩
  | [], _ :: _, h => h.elim
  | _ :: _, [], h => h.elim
theorem dk_tup {K : PySem.W.Frag} {a : Addr} {dd : Option Addr} {us : List Value} {n : Nat} {sl : Array (Option Value)} {ds : List PyData} (l : K.lookup a = some ⟨.type "tuple", dd, .seq us.toArray n, sl⟩) (hz : us.length ≤ 1000) (h : DKs K us ds) : DK K (.ref a) (.tuple ds) := by
  obtain ⟨vs, rs, hs⟩ := dks_all h
  exact ⟨.ref a, rfl, fun F => .tup (.inr ⟨_, us.toArray, n, l, rfl, rfl, by rw [List.size_toArray]; exact Nat.le_trans hz (by decide), rs⟩) (hs F)⟩
/-- what is to be said of the top -/
structure Whole (K : PySem.W.Frag) (w : World) (mg : Str → Option Value) (fs : List Fn) (bi gls : List Str) (gl : Glo) : Prop where
  top : Top K w mg bi gls gl
  fns : ∀ (i : Nat) (F : Fn), fs[i]? = some F → @FnAll ⟨w⟩ K mg fs gl.kw i F
theorem law_walk {l : PySem.W.OpenLaw} {q : Program} {loose : List Str} {XP : (Str → Option Value) → Heap → Prop} {YP : World → Heap → Prop} {d : DefRec} {K : Params → PySem.W.Frag} {W n : Nat} {fs : List Fn} {bi gls : List Str} {gl : Glo} {i : Nat} {FL : Fn} {x : Str}
    (hn : l.most = some 63) (hdf : d.params.defaults = []) (hr : Room n callerA) (hY : ∀ (w : World) (h : Heap), YP w h → (K w.params).In h) (hi : fs[i]? = some FL) (hx : d.name = FL.x) (hp : FL.ps = [x]) (hpl : FL.pl = true) (hk : ∀ fo ∈ gl.kw, fo.f < fs.length) (hc : fs.all (fnB (fs.map fnsOf) bi gls gl.kw) = true)
    (hF : ∀ (w : World) (mg : Str → Option Value) (h : Heap), (K w.params).In h → h.Ns mainGlobals mg → Whole (K w.params) w mg fs bi gls gl ∧ ∀ fa, mg d.name = some (.ref fa) → ∃ fd : FuncData, FnAt (K w.params) mg FL fa fd ∧ ∀ (s : Shared) (u : Value), BindsTo s fd ⟨[u], []⟩ [(x, u)])
    (hlaw : ∀ ns : List Int, ns.length ≤ 63 → ∃ cs, run (fs.map (·.D)) gl W n i [.d (.list (ns.map .int))] [] = .ok (.d (.bool true), cs)) :
    PySem.W.WalkO q loose XP YP l.row.toRowW d [] (fun f vs => PySem.call f vs) := by
  refine L2.walk_of (n := 63) (k := n) (x := x) (CX := fun _ => CX0) (sp := fun w => @spR ⟨w⟩ (K w.params) (run (fs.map (·.D)) gl W n i)) hn (by decide) hdf hr hY (fun w mg fa h KX G hmg => ?_) (fun w H a ns hl _ hS => ?_) fun _ _ _ _ _ z => z
  · obtain ⟨⟨T, hf⟩, hL⟩ := hF w mg h KX G
    obtain ⟨fd, A, hb⟩ := hL fa hmg
    refine ⟨fd, hb, fun base KB GB => ?_⟩
    rw [← hp]
    exact @run_ok ⟨w⟩ _ w _ _ _ rfl _ _ _ _ _ T hf hk hc n i FL fa fd hi A
  · obtain ⟨cs, e⟩ := hlaw ns hl
    refine ⟨H, [], [], _, _, cs, ⟨Same.refl _, List.nodup_nil, rfl, fun _ z => (by cases z), fun _ _ _ z => (by cases z)⟩, .cons ?_ .nil, e, fun F' ρ' H' v _ r => ?_⟩
    · refine Dp.lst hS ?_
      clear e hS hl
      induction ns with
      | nil => exact .nil
      | cons z zs ih => exact .cons (.int z) ih
    · have r : Dp (K w.params) F' v (.bool true) := r
      cases r
      rfl
end R

namespace R
open PySem L2
/-! ### plain: the interpreter's answers -/
/-- an equation that is not taken as a mere unfolding -/
theorem nr {α : Sort u} {a b : α} (h : a = b) : a = b := h
/-- it answers, with Q of the answer -/
@[irreducible] def Ok {α : Type} (x : Res α) (Q : α → Prop) : Prop :=
  match x with
  | .ok a => Q a
  | _ => False
section
variable {α β : Type} {x : Res α} {Q Q' : α → Prop}
theorem ok_ok {a : α} : Ok (.ok a) Q = Q a := nr (by with_unfolding_all rfl)
theorem ok_no : Ok (.no : Res α) Q = False := nr (by with_unfolding_all rfl)
theorem ok_bind {f : α → Res β} {Q : β → Prop} : Ok (x.bind f) Q = Ok x (fun a => Ok (f a) Q) := by cases x <;> (with_unfolding_all rfl)
theorem Ok.imp (h : Ok x Q) (k : ∀ a, Q a → Q' a) : Ok x Q' := by
  cases x with
  | ok a =>
    rw [ok_ok] at h ⊢
    exact k a h
  | ex c a =>
    unfold Ok at h
    exact h.elim
  | no =>
    rw [ok_no] at h
    exact h.elim
theorem Ok.ex (h : Ok x Q) : ∃ a, x = .ok a ∧ Q a := by
  cases x with
  | ok a =>
    rw [ok_ok] at h
    exact ⟨a, rfl, h⟩
  | ex c a =>
    unfold Ok at h
    exact h.elim
  | no =>
    rw [ok_no] at h
    exact h.elim
theorem Ok.of {a : α} (e : x = .ok a) (h : Q a) : Ok x Q := by rw [e, ok_ok]; exact h
theorem ok_ite {c : Prop} [Decidable c] {x y : Res α} (h1 : c → Ok x Q) (h2 : ¬ c → Ok y Q) : Ok (if c then x else y) Q := by
  split
  · exact h1 ‹_›
  · exact h2 ‹_›
end
/-- a def's end -/
def fin (o : Res Out) : Res (MV × Cells) := o.bind fun r => (match r.1 with
  | .rt x => .ok (x, r.2.2)
  | .nx => .ok (.d .none, r.2.2)
  | _ => .no)
def onFin (Q : MV × Cells → Prop) : Out → Prop := fun r => match r.1 with
  | .rt x => Q (x, r.2.2)
  | .nx => Q (.d .none, r.2.2)
  | _ => False
theorem ok_fin {o : Res Out} {Q : MV × Cells → Prop} : Ok (fin o) Q = Ok o (onFin Q) := by
  unfold fin
  rw [ok_bind]
  cases o with
  | ok a =>
    obtain ⟨f, e, c⟩ := a
    cases f <;> (with_unfolding_all rfl)
  | ex c a => with_unfolding_all rfl
  | no => with_unfolding_all rfl
theorem onFin_rt {Q : MV × Cells → Prop} {x : MV} {env : Env} {cs : Cells} : onFin Q (.rt x, env, cs) = Q (x, cs) := nr (by with_unfolding_all rfl)
theorem onFin_nx {Q : MV × Cells → Prop} {env : Env} {cs : Cells} : onFin Q (.nx, env, cs) = Q (.d .none, cs) := nr (by with_unfolding_all rfl)
/-- what comes behind a statement -/
def seqQ (C : Cxt) (ss : Ss) (Q : Out → Prop) : Out → Prop := fun r => match r.1 with
  | .nx => Ok (evSs C ss r.2.1 r.2.2) Q
  | f => Q (f, r.2.1, r.2.2)
section
variable {C : Cxt} {s : S} {ss : Ss} {env : Env} {cs : Cells} {Q : Out → Prop} {c : E} {a b : Ss} {x : MV}
theorem seqQ_nx : seqQ C ss Q (.nx, env, cs) = Ok (evSs C ss env cs) Q := nr (by with_unfolding_all rfl)
theorem seqQ_rt : seqQ C ss Q (.rt x, env, cs) = Q (.rt x, env, cs) := nr (by with_unfolding_all rfl)
theorem seqQ_bk : seqQ C ss Q (.bk, env, cs) = Q (.bk, env, cs) := nr (by with_unfolding_all rfl)
theorem seqQ_ct : seqQ C ss Q (.ct, env, cs) = Q (.ct, env, cs) := nr (by with_unfolding_all rfl)
theorem ok_nil : Ok (evSs C .nil env cs) Q = Q (.nx, env, cs) := by simp only [evSs, ok_ok]
theorem ok_cons : Ok (evSs C (.cons s ss) env cs) Q = Ok (evS C s env cs) (seqQ C ss Q) := by
  simp only [evSs]
  rw [ok_bind]
  cases evS C s env cs with
  | ok a =>
    obtain ⟨f, e, c⟩ := a
    cases f <;> (with_unfolding_all rfl)
  | ex c a => with_unfolding_all rfl
  | no => with_unfolding_all rfl
end
/-! ### loops -/
theorem ok_loopL {step : PyData → Env → Cells → Res Out} {Q : Out → Prop} (I : Nat → Env → Cells → Prop) : ∀ (xs : List PyData) (k : Nat) (env : Env) (cs : Cells), I k env cs →
    (∀ i x env cs, xs[i]? = some x → I (k + i) env cs → Ok (step x env cs) fun r => match r.1 with
      | .nx => I (k + i + 1) r.2.1 r.2.2
      | .ct => I (k + i + 1) r.2.1 r.2.2
      | .bk => Q (.nx, r.2.1, r.2.2)
      | .rt y => Q (.rt y, r.2.1, r.2.2)) →
    (∀ env cs, I (k + xs.length) env cs → Q (.nx, env, cs)) → Ok (loopL step xs env cs) Q
  | [], k, env, cs, h, _, e => by
    unfold loopL
    rw [ok_ok]
    exact e env cs h
  | x :: xs, k, env, cs, h, hs, e => by
    unfold loopL
    rw [ok_bind]
    refine (hs 0 x env cs rfl h).imp fun r hr => ?_
    obtain ⟨f, env', cs'⟩ := r
    have go : I (k + 1) env' cs' → Ok (loopL step xs env' cs') Q := fun hi => by
      refine ok_loopL I xs (k + 1) env' cs' hi (fun i y env cs hy h2 => ?_) (fun env cs h2 => e env cs (by rw [List.length_cons, ← Nat.add_assoc, Nat.add_right_comm]; exact h2))
      have := hs (i + 1) y env cs (by simpa using hy) (by rw [← Nat.add_assoc, Nat.add_right_comm]; exact h2)
      rw [← Nat.add_assoc, Nat.add_right_comm k i 1] at this
      exact this
    cases f with
    | nx => exact go hr
    | ct => exact go hr
    | bk =>
      show Ok (.ok (Fl.nx, env', cs')) Q
      rw [ok_ok]
      exact hr
    | rt y =>
      show Ok (.ok (Fl.rt y, env', cs')) Q
      rw [ok_ok]
      exact hr
theorem ok_loopW {c : Env → Cells → Res (Bool × Cells)} {step : Env → Cells → Res Out} {Q : Out → Prop} (I : Nat → Env → Cells → Prop) : ∀ (W k : Nat) (env : Env) (cs : Cells), k < W → I k env cs →
    (∀ k env cs, I k env cs → Ok (c env cs) fun t => if t.1 = true then Ok (step env t.2) fun r => (match r.1 with
      | .nx => ∃ j, j < k ∧ I j r.2.1 r.2.2
      | .ct => ∃ j, j < k ∧ I j r.2.1 r.2.2
      | .bk => Q (.nx, r.2.1, r.2.2)
      | .rt y => Q (.rt y, r.2.1, r.2.2)) else Q (.nx, env, t.2)) → Ok (loopW c step W env cs) Q
  | 0, k, env, cs, hk, _, _ => absurd hk (Nat.not_lt_zero _)
  | W + 1, k, env, cs, hk, h, hs => by
    unfold loopW
    rw [ok_bind]
    refine (hs k env cs h).imp fun t ht => ?_
    obtain ⟨t, cs1⟩ := t
    cases t with
    | false =>
      show Ok (.ok (Fl.nx, env, cs1)) Q
      rw [ok_ok]
      exact ht
    | true =>
      show Ok (if true = true then _ else _) Q
      rw [if_pos rfl, ok_bind]
      refine Ok.imp (show Ok (step env cs1) _ from ht) fun r hr => ?_
      obtain ⟨f, env', cs'⟩ := r
      cases f with
      | nx =>
        obtain ⟨j, hj, hi⟩ := hr
        exact ok_loopW I W j env' cs' (by omega) hi hs
      | ct =>
        obtain ⟨j, hj, hi⟩ := hr
        exact ok_loopW I W j env' cs' (by omega) hi hs
      | bk =>
        show Ok (.ok (Fl.nx, env', cs')) Q
        rw [ok_ok]
        exact hr
      | rt y =>
        show Ok (.ok (Fl.rt y, env', cs')) Q
        rw [ok_ok]
        exact hr
/-- a comprehension that maps -/
theorem lcL_map {step : PyData → Cells → Res (Option PyData × Cells)} {cs : Cells} (f : PyData → Option PyData) : ∀ (xs acc : List PyData), (∀ x ∈ xs, step x cs = .ok (f x, cs)) → acc.length + xs.length ≤ sizeLine → lcL step xs acc cs = .ok (acc ++ xs.filterMap f, cs)
  | [], acc, _, _ => by simp [lcL]
  | x :: xs, acc, h, hl => by
    unfold lcL
    rw [h x List.mem_cons_self, Res.bind_ok]
    rw [List.length_cons] at hl
    cases e : f x with
    | none =>
      rw [List.filterMap_cons_none e]
      exact lcL_map f xs acc (fun y hy => h y (List.mem_cons_of_mem _ hy)) (by omega)
    | some y =>
      have hk : lenOk (acc.length + 1) = true := by unfold lenOk; exact decide_eq_true (by omega)
      show (if lenOk (acc.length + 1) = true then lcL step xs (acc ++ [y]) cs else Res.no) = _
      rw [if_pos hk, lcL_map f xs (acc ++ [y]) (fun z hz => h z (List.mem_cons_of_mem _ hz)) (by rw [List.length_append, List.length_singleton]; omega), List.filterMap_cons_some e, List.append_assoc]
      with_unfolding_all rfl
/-- a comprehension whose items are made with changes on the way -/
theorem ok_lcL {step : PyData → Cells → Res (Option PyData × Cells)} {Q : List PyData × Cells → Prop} (I : Nat → List PyData → Cells → Prop) : ∀ (xs : List PyData) (k : Nat) (acc : List PyData) (cs : Cells), I k acc cs →
    (∀ i x acc cs, xs[i]? = some x → I (k + i) acc cs → Ok (step x cs) fun r => match r.1 with
      | some y => acc.length + 1 ≤ sizeLine ∧ I (k + i + 1) (acc ++ [y]) r.2
      | none => I (k + i + 1) acc r.2) →
    (∀ acc cs, I (k + xs.length) acc cs → Q (acc, cs)) → Ok (lcL step xs acc cs) Q
  | [], k, acc, cs, h, _, e => by
    unfold lcL
    rw [ok_ok]
    exact e acc cs h
  | x :: xs, k, acc, cs, h, hs, e => by
    unfold lcL
    rw [ok_bind]
    refine (hs 0 x acc cs rfl h).imp fun r hr => ?_
    obtain ⟨y, cs'⟩ := r
    have go : ∀ acc', I (k + 1) acc' cs' → Ok (lcL step xs acc' cs') Q := fun acc' hi => by
      refine ok_lcL I xs (k + 1) acc' cs' hi (fun i y acc cs hy h2 => ?_) (fun acc cs h2 => e acc cs (by rw [List.length_cons, ← Nat.add_assoc, Nat.add_right_comm]; exact h2))
      have := hs (i + 1) y acc cs (by simpa using hy) (by rw [← Nat.add_assoc, Nat.add_right_comm]; exact h2)
      rw [← Nat.add_assoc, Nat.add_right_comm k i 1] at this
      exact this
    cases y with
    | none => exact go acc hr
    | some y =>
      show Ok (if lenOk (acc.length + 1) = true then lcL step xs (acc ++ [y]) cs' else Res.no) Q
      have hk : lenOk (acc.length + 1) = true := by unfold lenOk; exact decide_eq_true hr.1
      rw [if_pos hk]
      exact go _ hr.2
theorem rngL_length : ∀ (n : Nat) (lo : Int), (rngL lo n).length = n
  | 0, _ => rfl
  | n + 1, lo => by rw [rngL, List.length_cons, rngL_length n]
theorem rngL_at : ∀ (n : Nat) (lo : Int) (i : Nat) (x : PyData), (rngL lo n)[i]? = some x → x = .int (lo + i) ∧ i < n
  | 0, _, _, _, h => by simp [rngL] at h
  | n + 1, lo, 0, x, h => by simp [rngL] at h; exact ⟨by rw [← h]; simp, Nat.zero_lt_succ _⟩
  | n + 1, lo, i + 1, x, h => by
    obtain ⟨a, b⟩ := rngL_at n (lo + 1) i x (by simpa [rngL] using h)
    exact ⟨by rw [a]; congr 1; push_cast; omega, by omega⟩
theorem rngL_mem {n : Nat} {lo : Int} {x : PyData} (h : x ∈ rngL lo n) : ∃ i : Nat, i < n ∧ x = .int (lo + i) := by
  obtain ⟨i, hi, e⟩ := List.getElem_of_mem h
  obtain ⟨a, b⟩ := rngL_at n lo i x (by rw [List.getElem?_eq_getElem hi, e])
  exact ⟨i, b, a⟩
/-! ### items at a place -/
theorem atD_nat {xs : List PyData} {i : Int} {n : Nat} {x : PyData} (hi : i = n) (h : xs[n]? = some x) : atD xs i = .ok (.d x) := by
  subst hi
  have hn : n < xs.length := (List.getElem?_eq_some_iff.mp h).1
  have e : atI xs (n : Int) = some x := by
    unfold atI ixN
    rw [if_pos (by omega), if_pos (by omega)]
    simpa using h
  unfold atD
  rw [e]
section
variable {a b c d e f g : PyData} {xs : List PyData}
theorem at0 : atD (a :: xs) 0 = .ok (.d a) := atD_nat (n := 0) rfl rfl
theorem at1 : atD (a :: b :: xs) 1 = .ok (.d b) := atD_nat (n := 1) rfl rfl
theorem at2 : atD (a :: b :: c :: xs) 2 = .ok (.d c) := atD_nat (n := 2) rfl rfl
theorem at3 : atD (a :: b :: c :: d :: xs) 3 = .ok (.d d) := atD_nat (n := 3) rfl rfl
theorem at4 : atD (a :: b :: c :: d :: e :: xs) 4 = .ok (.d e) := atD_nat (n := 4) rfl rfl
theorem at5 : atD (a :: b :: c :: d :: e :: f :: xs) 5 = .ok (.d f) := atD_nat (n := 5) rfl rfl
theorem at6 : atD (a :: b :: c :: d :: e :: f :: g :: xs) 6 = .ok (.d g) := atD_nat (n := 6) rfl rfl
end
theorem ixN_nat {n : Nat} {j : Int} {m : Nat} (hj : j = m) (h : m < n) : ixN n j = some m := by
  subst hj
  unfold ixN
  rw [if_pos (by omega), if_pos (by omega)]
  simp
theorem ix0 {n : Nat} : ixN (n + 1) 0 = some 0 := ixN_nat rfl (by omega)
theorem ix1 {n : Nat} : ixN (n + 2) 1 = some 1 := ixN_nat rfl (by omega)
theorem ix2 {n : Nat} : ixN (n + 3) 2 = some 2 := ixN_nat rfl (by omega)
/-! ### the rules of the interpreter, by what is wanted of the answer -/
theorem ok_if {α : Type} {c : Prop} [Decidable c] {x y : Res α} {Q : α → Prop} : Ok (if c then x else y) Q = if c then Ok x Q else Ok y Q := by split <;> (with_unfolding_all rfl)
theorem ok_guard {α : Type} {c : Prop} [Decidable c] {a : α} {Q : α → Prop} : Ok (if c then .ok a else .no) Q = (c ∧ Q a) := by
  split
  · rename_i h
    rw [ok_ok]
    exact propext ⟨fun q => ⟨h, q⟩, fun q => q.2⟩
  · rename_i h
    rw [ok_no]
    exact propext ⟨fun q => q.elim, fun q => absurd q.1 h⟩
/-- a test -/
def tst (C : Cxt) (e : E) (env : Env) (cs : Cells) : Res (Bool × Cells) := (evE C e env cs).bind fun r => (truth r.1).bind fun t => .ok (t, r.2)
section
variable {C : Cxt} {env : Env} {cs : Cells} {Q : MV × Cells → Prop} {T : Bool × Cells → Prop} {O : Out → Prop} {L : List PyData × Cells → Prop} {M : List MV × Cells → Prop} {i j : Nat} {e e' a b c : E} {es : Es} {p : Prim} {t : TG} {ss ss' : Ss} {x : MV} {sr : SR}
theorem ok_var : Ok (evE C (.var i) env cs) Q = match env[i]? with
    | some (.v x) => Q (x, cs)
    | _ => False := by
  simp only [evE]
  cases env[i]? with
  | none => with_unfolding_all rfl
  | some s => cases s <;> (with_unfolding_all rfl)
theorem ok_own : Ok (evE C (.own i) env cs) Q = match env[i]? with
    | some (.ol xs) => Q (.d (.list xs), cs)
    | some (.ok kvs) => Q (.k kvs, cs)
    | some (.ot kvs) => Q (.t kvs, cs)
    | _ => False := by
  simp only [evE]
  cases env[i]? with
  | none => with_unfolding_all rfl
  | some s => cases s <;> (with_unfolding_all rfl)
theorem ok_k {k : Kon} : Ok (evE C (.k k) env cs) Q = Q (konV k, cs) := by simp only [evE]; with_unfolding_all rfl
theorem ok_glob {g : Nat} : Ok (evE C (.glob g) env cs) Q = match C.gl.v[g]? with
    | some (.d x) => Q (.d x, cs)
    | _ => False := by
  simp only [evE]
  cases C.gl.v[g]? with
  | none => with_unfolding_all rfl
  | some x => cases x <;> (with_unfolding_all rfl)
def gdkQ (Q : MV × Cells → Prop) (t : Option MV) : MV × Cells → Prop := fun r => match r.1, t with
  | .d (.str z), some (.k kvs) => (match lookS kvs z with
    | some y => Q (.d y, r.2)
    | none => False)
  | _, _ => False
theorem gdkQ_s {z : Str} {kvs : List (Key × PyData)} : gdkQ Q (some (.k kvs)) (.d (.str z), cs) = match lookS kvs z with
    | some y => Q (.d y, cs)
    | none => False := nr rfl
theorem ok_gdk {g : Nat} : Ok (evE C (.gdk g e) env cs) Q = Ok (evE C e env cs) (gdkQ Q C.gl.v[g]?) := by
  simp only [evE, ok_bind]
  congr
  funext r
  obtain ⟨x, cs⟩ := r
  generalize C.gl.v[g]? = o
  cases x with
  | d y =>
    cases y with
    | str z =>
      cases o with
      | none => with_unfolding_all rfl
      | some t =>
        cases t with
        | k kvs =>
          simp only [gdkQ]
          generalize lookS kvs z = o2
          cases o2 <;> with_unfolding_all rfl
        | _ => with_unfolding_all rfl
    | _ => with_unfolding_all rfl
  | _ => with_unfolding_all rfl
theorem ok_dct {kvs : List (Str × Kon)} : Ok (evE C (.dct kvs) env cs) Q = Q (.k (dctV kvs), cs) := by simp only [evE, ok_ok]
def dixQ (Q : MV × Cells → Prop) (r q : MV) (cs : Cells) : Prop := match r, q with
  | .k kvs, .d y => (match (keyD y).bind (lookK kvs) with
    | some v => Q (.d v, cs)
    | none => False)
  | .t kvs, .d y => (match lookT kvs y with
    | some v => Q (.d v, cs)
    | none => False)
  | _, _ => False
theorem dixQ_t {kvs : List (PyData × PyData)} {y : PyData} : dixQ Q (.t kvs) (.d y) cs = match lookT kvs y with
    | some v => Q (.d v, cs)
    | none => False := nr rfl
theorem dixQ_k {kvs : List (Key × PyData)} {y : PyData} : dixQ Q (.k kvs) (.d y) cs = match (keyD y).bind (lookK kvs) with
    | some v => Q (.d v, cs)
    | none => False := nr rfl
theorem ok_dix : Ok (evE C (.dix a b) env cs) Q = Ok (evE C a env cs) fun r => Ok (evE C b env r.2) fun q => dixQ Q r.1 q.1 q.2 := by
  simp only [evE, ok_bind]
  congr
  funext r
  congr
  funext q
  obtain ⟨r, _⟩ := r
  obtain ⟨q, cs⟩ := q
  cases r with
  | k kvs =>
    cases q with
    | d z =>
      simp only [dixQ]
      generalize (keyD z).bind (lookK kvs) = o
      cases o <;> with_unfolding_all rfl
    | _ => with_unfolding_all rfl
  | t kvs =>
    cases q with
    | d z =>
      simp only [dixQ]
      generalize lookT kvs z = o
      cases o <;> with_unfolding_all rfl
    | _ => with_unfolding_all rfl
  | _ => with_unfolding_all rfl
def kwQ (C : Cxt) (Q : MV × Cells → Prop) (o : Option KForm) (xs ys : List MV) (cs : Cells) : Prop := match o with
  | some fo => (xs.length = fo.n ∧ ys.length = fo.ks.length) ∧ (match arF xs ys fo.ar with
    | some vs => Ok (C.cl fo.f vs cs) Q
    | none => False)
  | none => False
theorem kwQ_s {fo : KForm} {xs ys : List MV} : kwQ C Q (some fo) xs ys cs = ((xs.length = fo.n ∧ ys.length = fo.ks.length) ∧ (match arF xs ys fo.ar with
    | some vs => Ok (C.cl fo.f vs cs) Q
    | none => False)) := nr rfl
theorem ok_callK {kes : Es} : Ok (evE C (.callK j es kes) env cs) Q = Ok (evEs C es env cs) fun r => Ok (evEs C kes env r.2) fun q => kwQ C Q C.gl.kw[j]? r.1 q.1 q.2 := by
  simp only [evE, ok_bind]
  congr
  funext r
  congr
  funext q
  generalize C.gl.kw[j]? = o
  cases o with
  | none => with_unfolding_all rfl
  | some fo =>
    simp only [kwQ]
    generalize arF r.1 q.1 fo.ar = o2
    by_cases h : r.1.length = fo.n ∧ q.1.length = fo.ks.length
    · rw [if_pos (by simp only [Bool.and_eq_true, decide_eq_true_eq]; exact h)]
      cases o2 with
      | none =>
        show Ok Res.no Q = (_ ∧ False)
        rw [ok_no]
        exact propext ⟨fun z => z.elim, fun z => z.2⟩
      | some vs => exact propext ⟨fun z => ⟨h, z⟩, fun z => z.2⟩
    · rw [if_neg (by simp only [Bool.and_eq_true, decide_eq_true_eq]; exact h), ok_no]
      exact propext ⟨fun z => z.elim, fun z => absurd z.1 h⟩
theorem ok_prim : Ok (evE C (.prim p es) env cs) Q = Ok (evEs C es env cs) fun r => Ok (primF p r.1) fun y => Q (y, r.2) := by simp only [evE, ok_bind]; with_unfolding_all rfl
theorem ok_and : Ok (evE C (.and a b) env cs) Q = Ok (evE C a env cs) fun r => Ok (truth r.1) fun t => if t = true then Ok (evE C b env r.2) Q else Q r := by simp only [evE, ok_bind, ok_if]; with_unfolding_all rfl
theorem ok_or : Ok (evE C (.or a b) env cs) Q = Ok (evE C a env cs) fun r => Ok (truth r.1) fun t => if t = true then Q r else Ok (evE C b env r.2) Q := by simp only [evE, ok_bind, ok_if]; with_unfolding_all rfl
theorem ok_not : Ok (evE C (.not a) env cs) Q = Ok (tst C a env cs) fun t => Q (.d (.bool (!t.1)), t.2) := by simp only [evE, tst, ok_bind]; with_unfolding_all rfl
theorem ok_iteE : Ok (evE C (.ite c a b) env cs) Q = Ok (tst C c env cs) fun t => if t.1 = true then Ok (evE C a env t.2) Q else Ok (evE C b env t.2) Q := by simp only [evE, tst, ok_bind, ok_if]; with_unfolding_all rfl
theorem ok_chain {o o' : CO} : Ok (evE C (.chain o o' a b c) env cs) Q = Ok (evE C a env cs) fun r => Ok (evE C b env r.2) fun q => Ok (primF (.cmp o) [r.1, q.1]) fun t => Ok (truth t) fun t =>
    if t = true then Ok (evE C c env q.2) fun u => Ok (primF (.cmp o') [q.1, u.1]) fun y => Q (y, u.2) else Q (.d (.bool false), q.2) := by simp only [evE, ok_bind, ok_if]; with_unfolding_all rfl
theorem ok_call : Ok (evE C (.call i es) env cs) Q = Ok (evEs C es env cs) fun r => Ok (C.cl i r.1 r.2) Q := by simp only [evE, ok_bind]
def cidQ (Q : MV × Cells → Prop) (r q : MV) (cs : Cells) : Prop := match r, q with
  | .r n, .d (.int j) => (match cs[n]? with
    | some (.lst xs) => Ok (atD xs j) fun y => Q (y, cs)
    | none => False)
  | _, _ => False
theorem ok_cidx : Ok (evE C (.cidx a b) env cs) Q = Ok (evE C a env cs) fun r => Ok (evE C b env r.2) fun q => cidQ Q r.1 q.1 q.2 := by
  simp only [evE, ok_bind]
  congr
  funext r
  congr
  funext q
  obtain ⟨r, _⟩ := r
  obtain ⟨q, cs⟩ := q
  cases r with
  | r n =>
    cases q with
    | d z =>
      cases z with
      | int j =>
        simp only [cidQ]
        generalize cs[n]? = o
        cases o with
        | none => with_unfolding_all rfl
        | some c => cases c; simp only [ok_bind]; with_unfolding_all rfl
      | _ => with_unfolding_all rfl
    | _ => with_unfolding_all rfl
  | _ => with_unfolding_all rfl
theorem cidQ_r {xs : List PyData} {k : Int} (h : cs[i]? = some (.lst xs)) : cidQ Q (.r i) (.d (.int k)) cs = Ok (atD xs k) fun y => Q (y, cs) := by
  simp only [cidQ, h]
def itQ (Q : Option PyData × Cells → Prop) : MV × Cells → Prop := fun u => match u.1 with
  | .d y => Q (some y, u.2)
  | _ => False
theorem itQ_d {Q : Option PyData × Cells → Prop} {y : PyData} : itQ Q (.d y, cs) = Q (some y, cs) := nr (by with_unfolding_all rfl)
/-- one item of a comprehension -/
def cstep (C : Cxt) (env : Env) (vs : List (Str × Nat)) (tg : TG) (cnd : Es) (elt : E) : PyData → Cells → Res (Option PyData × Cells) := fun x cs =>
  (asgT tg (.d x) (wipeE env (vs.map (·.2)))).bind fun env' => (evT C cnd env' cs).bind fun q => if q.1 = true then (evE C elt env' q.2).bind fun u => (match u.1 with
        | .d y => .ok (some y, u.2)
        | _ => .no) else .ok (none, q.2)
theorem ok_comp {vs : List (Str × Nat)} {cnd : Es} : Ok (evE C (.comp vs t sr cnd e) env cs) Q = Ok (evSR C sr env cs) fun r => Ok (lcL (cstep C env vs t cnd e) r.1 [] r.2) fun q => Q (.d (.list q.1), q.2) := by
  simp only [evE, ok_bind]
  with_unfolding_all rfl
theorem ok_cstep {vs : List (Str × Nat)} {cnd : Es} {y : PyData} {Q : Option PyData × Cells → Prop} : Ok (cstep C env vs t cnd e y cs) Q = Ok (asgT t (.d y) (wipeE env (vs.map (·.2)))) fun env' => Ok (evT C cnd env' cs) fun q => if q.1 = true then Ok (evE C e env' q.2) (itQ Q) else Q (none, q.2) := by
  unfold cstep
  simp only [ok_bind, ok_if, ok_ok]
  congr
  funext env'
  congr
  funext q
  split
  · congr
    funext u
    unfold itQ
    obtain ⟨u, _⟩ := u
    cases u <;> (with_unfolding_all rfl)
  · rfl
theorem ok_esnil {M : List MV × Cells → Prop} : Ok (evEs C .nil env cs) M = M ([], cs) := by simp only [evEs]; with_unfolding_all rfl
theorem ok_escons : Ok (evEs C (.cons e es) env cs) M = Ok (evE C e env cs) fun r => Ok (evEs C es env r.2) fun q => M (r.1 :: q.1, q.2) := by simp only [evEs, ok_bind]; with_unfolding_all rfl
theorem ok_t0 : Ok (evT C .nil env cs) T = T (true, cs) := by simp only [evT]; with_unfolding_all rfl
theorem ok_t1 : Ok (evT C (.cons e .nil) env cs) T = Ok (tst C e env cs) T := by simp only [evT, tst, ok_bind]
/-- the items of what is walked -/
def seqQQ (L : List PyData × Cells → Prop) : MV × Cells → Prop := fun r => match r.1 with
  | .d (.list xs) => L (xs, r.2)
  | .d (.tuple xs) => L (xs, r.2)
  | .d (.str z) => L (z.cps.toList.map fun c => PyData.str ⟨#[c]⟩, r.2)
  | _ => False
theorem seqQQ_l {xs : List PyData} : seqQQ L (.d (.list xs), cs) = L (xs, cs) := nr (by with_unfolding_all rfl)
theorem seqQQ_t {xs : List PyData} : seqQQ L (.d (.tuple xs), cs) = L (xs, cs) := nr (by with_unfolding_all rfl)
theorem seqQQ_s {z : Str} : seqQQ L (.d (.str z), cs) = L (z.cps.toList.map fun c => PyData.str ⟨#[c]⟩, cs) := nr (by with_unfolding_all rfl)
theorem ok_seq : Ok (evSR C (.seq e) env cs) L = Ok (evE C e env cs) (seqQQ L) := by
  simp only [evSR, ok_bind]
  congr
  funext r
  obtain ⟨x, cs⟩ := r
  cases x with
  | d y => cases y <;> (with_unfolding_all rfl)
  | _ => with_unfolding_all rfl
def rngQ (L : List PyData × Cells → Prop) (r q : MV) (cs : Cells) : Prop := match r, q with
  | .d (.int i), .d (.int j) => rngOk i j = true ∧ L (rngL i (j - i).toNat, cs)
  | _, _ => False
theorem rngQ_i {k l : Int} : rngQ L (.d (.int k)) (.d (.int l)) cs = (rngOk k l = true ∧ L (rngL k (l - k).toNat, cs)) := nr (by with_unfolding_all rfl)
theorem ok_rng : Ok (evSR C (.rng e) env cs) L = Ok (evE C e env cs) fun r => rngQ L (.d (.int 0)) r.1 r.2 := by
  simp only [evSR, ok_bind]
  congr
  funext r
  obtain ⟨x, cs⟩ := r
  cases x with
  | d y => cases y with
    | int k =>
      show Ok (if rngOk 0 k = true then _ else _) L = _
      rw [ok_guard]
      simp only [rngQ, Int.sub_zero]
    | _ => with_unfolding_all rfl
  | _ => with_unfolding_all rfl
theorem ok_rng2 : Ok (evSR C (.rng2 e e') env cs) L = Ok (evE C e env cs) fun r => Ok (evE C e' env r.2) fun q => rngQ L r.1 q.1 q.2 := by
  simp only [evSR, ok_bind]
  congr
  funext r
  congr
  funext q
  obtain ⟨r, _⟩ := r
  obtain ⟨q, cs⟩ := q
  cases r with
  | d y =>
    cases y with
    | int i =>
      cases q with
      | d z =>
        cases z with
        | int j => exact ok_guard
        | _ => with_unfolding_all rfl
      | _ => with_unfolding_all rfl
    | _ => with_unfolding_all rfl
  | _ => with_unfolding_all rfl
theorem ok_tst : Ok (tst C e env cs) T = Ok (evE C e env cs) fun r => Ok (truth r.1) fun t => T (t, r.2) := by simp only [tst, ok_bind]; with_unfolding_all rfl
theorem ok_tand : Ok (tst C (.and a b) env cs) T = Ok (tst C a env cs) fun t => if t.1 = true then Ok (tst C b env t.2) T else T (false, t.2) := by
  simp only [ok_tst, ok_and]
  congr
  funext r
  cases h : truth r.1 with
  | ok t => cases t <;> simp [ok_ok, h]
  | _ => with_unfolding_all rfl
theorem ok_tor : Ok (tst C (.or a b) env cs) T = Ok (tst C a env cs) fun t => if t.1 = true then T (true, t.2) else Ok (tst C b env t.2) T := by
  simp only [ok_tst, ok_or]
  congr
  funext r
  cases h : truth r.1 with
  | ok t => cases t <;> simp [ok_ok, h]
  | _ => with_unfolding_all rfl
theorem ok_tnot : Ok (tst C (.not a) env cs) T = Ok (tst C a env cs) fun t => T (!t.1, t.2) := by
  simp only [ok_tst, ok_not]
  with_unfolding_all rfl
/-! statements -/
theorem ok_asg : Ok (evS C (.asg t e) env cs) O = Ok (evE C e env cs) fun r => Ok (asgT t r.1 env) fun env' => O (.nx, env', r.2) := by simp only [evS, ok_bind]; with_unfolding_all rfl
theorem ok_par {ms : List (Bool × Nat)} : Ok (evS C (.par ms es) env cs) O = Ok (evEs C es env cs) fun r => Ok (stAll ms r.1 env) fun env' => O (.nx, env', r.2) := by simp only [evS, ok_bind]; with_unfolding_all rfl
theorem ok_ownS : Ok (evS C (.own i e) env cs) O = Ok (evE C e env cs) fun r => Ok (R.stM true i r.1 env) fun env' => O (.nx, env', r.2) := by simp only [evS, ok_bind]; with_unfolding_all rfl
def newQ (O : Out → Prop) (i : Nat) (env : Env) : MV × Cells → Prop := fun r => match r.1 with
  | .d (.list xs) => O (.nx, env.set i (.v (.r r.2.length)), r.2 ++ [.lst xs])
  | _ => False
theorem newQ_l {xs : List PyData} : newQ O i env (.d (.list xs), cs) = O (.nx, env.set i (.v (.r cs.length)), cs ++ [.lst xs]) := nr (by with_unfolding_all rfl)
theorem ok_newc : Ok (evS C (.newc i e) env cs) O = Ok (evE C e env cs) (newQ O i env) := by
  simp only [evS, ok_bind]
  congr
  funext r
  obtain ⟨x, cs⟩ := r
  cases x with
  | d y => cases y <;> (with_unfolding_all rfl)
  | _ => with_unfolding_all rfl
def csetQ (O : Out → Prop) (env : Env) (u r q : MV) (cs : Cells) : Prop := match u, r, q with
  | .d y, .r n, .d (.int j) => (match cs[n]? with
    | some (.lst xs) => (match ixN xs.length j with
      | some m => O (.nx, env, cs.set n (.lst (xs.set m y)))
      | none => False)
    | none => False)
  | _, _, _ => False
theorem csetQ_r {xs : List PyData} {k : Int} {y : PyData} {m : Nat} (h : cs[i]? = some (.lst xs)) (h2 : ixN xs.length k = some m) : csetQ O env (.d y) (.r i) (.d (.int k)) cs = O (.nx, env, cs.set i (.lst (xs.set m y))) := by
  unfold csetQ
  simp only [h, h2]
theorem ok_cset : Ok (evS C (.cset a b e) env cs) O = Ok (evE C e env cs) fun u => Ok (evE C a env u.2) fun r => Ok (evE C b env r.2) fun q => csetQ O env u.1 r.1 q.1 q.2 := by
  simp only [evS, ok_bind]
  congr
  funext u
  congr
  funext r
  congr
  funext q
  obtain ⟨u, _⟩ := u
  obtain ⟨r, _⟩ := r
  obtain ⟨q, cs⟩ := q
  cases u with
  | d y =>
    cases r with
    | r n =>
      cases q with
      | d z =>
        cases z with
        | int j =>
          simp only [csetQ]
          generalize cs[n]? = o
          cases o with
          | none => with_unfolding_all rfl
          | some c =>
            cases c with
            | lst xs =>
              simp only
              generalize ixN xs.length j = o2
              cases o2 <;> (with_unfolding_all rfl)
        | _ => with_unfolding_all rfl
      | _ => with_unfolding_all rfl
    | _ => with_unfolding_all rfl
  | _ => with_unfolding_all rfl
def appQ (O : Out → Prop) (i : Nat) (env : Env) (s : Option Sl) : MV × Cells → Prop := fun r => match r.1, s with
  | .d y, some (.ol xs) => xs.length + 1 ≤ sizeLine ∧ O (.nx, env.set i (.ol (xs ++ [y])), r.2)
  | _, _ => False
theorem appQ_o {xs : List PyData} {y : PyData} : appQ O i env (some (.ol xs)) (.d y, cs) = (xs.length + 1 ≤ sizeLine ∧ O (.nx, env.set i (.ol (xs ++ [y])), cs)) := nr (by with_unfolding_all rfl)
theorem ok_app : Ok (evS C (.app i e) env cs) O = Ok (evE C e env cs) (appQ O i env env[i]?) := by
  simp only [evS, ok_bind]
  congr
  funext r
  obtain ⟨x, cs⟩ := r
  unfold appQ
  cases h : env[i]? with
  | none => cases x <;> (with_unfolding_all rfl)
  | some s =>
    cases x with
    | d y =>
      cases s with
      | ol xs =>
        simp only [ok_guard, lenOk, decide_eq_true_eq]
      | _ => with_unfolding_all rfl
    | _ => cases s <;> (with_unfolding_all rfl)
def lsetQ (O : Out → Prop) (i : Nat) (env : Env) (s : Option Sl) (r q : MV) (cs : Cells) : Prop := match r, q, s with
  | .d y, .d (.int j), some (.ol xs) => (match ixN xs.length j with
    | some m => O (.nx, env.set i (.ol (xs.set m y)), cs)
    | none => False)
  | _, _, _ => False
theorem lsetQ_o {xs : List PyData} {y : PyData} {k : Int} : lsetQ O i env (some (.ol xs)) (.d y) (.d (.int k)) cs = match ixN xs.length k with
    | some m => O (.nx, env.set i (.ol (xs.set m y)), cs)
    | none => False := nr rfl
theorem ok_lset : Ok (evS C (.lset i a e) env cs) O = Ok (evE C e env cs) fun r => Ok (evE C a env r.2) fun q => lsetQ O i env env[i]? r.1 q.1 q.2 := by
  simp only [evS, ok_bind]
  congr
  funext r
  congr
  funext q
  obtain ⟨r, _⟩ := r
  obtain ⟨q, cs⟩ := q
  generalize env[i]? = o
  cases r with
  | d y =>
    cases q with
    | d z =>
      cases z with
      | int j =>
        cases o with
        | none => with_unfolding_all rfl
        | some t =>
          cases t with
          | ol xs =>
            simp only [lsetQ]
            generalize ixN xs.length j = o2
            cases o2 <;> with_unfolding_all rfl
          | _ => with_unfolding_all rfl
      | _ => with_unfolding_all rfl
    | _ => with_unfolding_all rfl
  | _ => with_unfolding_all rfl
def insQ (O : Out → Prop) (i : Nat) (env : Env) (s : Option Sl) (q : MV) : MV × Cells → Prop := fun r => match q, r.1, s with
  | .d (.int j), .d y, some (.ol xs) => (xs.length + 1 ≤ sizeLine ∧ 0 ≤ j ∧ j.toNat ≤ xs.length) ∧ O (.nx, env.set i (.ol (xs.take j.toNat ++ y :: xs.drop j.toNat)), r.2)
  | _, _, _ => False
theorem insQ_o {xs : List PyData} {y : PyData} {k : Int} : insQ O i env (some (.ol xs)) (.d (.int k)) (.d y, cs) = ((xs.length + 1 ≤ sizeLine ∧ 0 ≤ k ∧ k.toNat ≤ xs.length) ∧ O (.nx, env.set i (.ol (xs.take k.toNat ++ y :: xs.drop k.toNat)), cs)) := nr (by with_unfolding_all rfl)
theorem ok_ins : Ok (evS C (.ins i a e) env cs) O = Ok (evE C a env cs) fun q => Ok (evE C e env q.2) (insQ O i env env[i]? q.1) := by
  simp only [evS, ok_bind]
  congr
  funext q
  congr
  funext r
  obtain ⟨x, cs⟩ := r
  obtain ⟨z, _⟩ := q
  unfold insQ
  cases h : env[i]? with
  | none => cases z with
    | d z => cases z <;> (cases x <;> (with_unfolding_all rfl))
    | _ => with_unfolding_all rfl
  | some s =>
    cases z with
    | d z =>
      cases z with
      | int k =>
        cases x with
        | d y =>
          cases s with
          | ol xs => simp only [ok_guard, lenOk, decide_eq_true_eq, Bool.and_eq_true, and_assoc]
          | _ => with_unfolding_all rfl
        | _ => with_unfolding_all rfl
      | _ => cases x <;> (cases s <;> (with_unfolding_all rfl))
    | _ => with_unfolding_all rfl
def frzQ (O : Out → Prop) (i : Nat) (env : Env) (cs : Cells) (s : Option Sl) : Prop := match s with
  | some (.ol xs) => O (.nx, env.set i (.v (.d (.list xs))), cs)
  | some (.ok kvs) => O (.nx, env.set i (.v (.k kvs)), cs)
  | some (.ot kvs) => O (.nx, env.set i (.v (.t kvs)), cs)
  | some (.v _) => O (.nx, env, cs)
  | _ => False
theorem frzQ_v : frzQ O i env cs (some (.v x)) = O (.nx, env, cs) := nr (by with_unfolding_all rfl)
theorem frzQ_o {xs : List PyData} : frzQ O i env cs (some (.ol xs)) = O (.nx, env.set i (.v (.d (.list xs))), cs) := nr (by with_unfolding_all rfl)
theorem frzQ_t {kvs : List (PyData × PyData)} : frzQ O i env cs (some (.ot kvs)) = O (.nx, env.set i (.v (.t kvs)), cs) := nr (by with_unfolding_all rfl)
theorem frzQ_k {kvs : List (Key × PyData)} : frzQ O i env cs (some (.ok kvs)) = O (.nx, env.set i (.v (.k kvs)), cs) := nr (by with_unfolding_all rfl)
theorem ok_frz : Ok (evS C (.frz i) env cs) O = frzQ O i env cs env[i]? := by
  simp only [evS]
  unfold frzQ
  cases env[i]? with
  | none => with_unfolding_all rfl
  | some s => cases s <;> (with_unfolding_all rfl)
theorem ok_iteS : Ok (evS C (.ite c ss ss') env cs) O = Ok (tst C c env cs) fun t => if t.1 = true then Ok (evSs C ss env t.2) O else Ok (evSs C ss' env t.2) O := by simp only [evS, tst, ok_bind, ok_if]; with_unfolding_all rfl
def lstep (C : Cxt) (t : TG) (ss : Ss) : PyData → Env → Cells → Res Out := fun x env cs => (asgT t (.d x) env).bind fun env' => evSs C ss env' cs
theorem ok_for : Ok (evS C (.forr t sr ss) env cs) O = Ok (evSR C sr env cs) fun r => Ok (loopL (lstep C t ss) r.1 env r.2) O := by simp only [evS, ok_bind]; with_unfolding_all rfl
theorem ok_lstep {y : PyData} : Ok (lstep C t ss y env cs) O = Ok (asgT t (.d y) env) fun env' => Ok (evSs C ss env' cs) O := by unfold lstep; rw [ok_bind]
theorem ok_whil : Ok (evS C (.whil c ss) env cs) O = Ok (loopW (tst C c) (evSs C ss) C.W env cs) O := by simp only [evS]; with_unfolding_all rfl
theorem ok_ret : Ok (evS C (.ret e) env cs) O = Ok (evE C e env cs) fun r => O (.rt r.1, env, r.2) := by simp only [evS, ok_bind]; with_unfolding_all rfl
theorem ok_retN : Ok (evS C .retN env cs) O = O (.rt (.d .none), env, cs) := by simp only [evS]; with_unfolding_all rfl
theorem ok_expr : Ok (evS C (.expr e) env cs) O = Ok (evE C e env cs) fun r => O (.nx, env, r.2) := by simp only [evS, ok_bind]; with_unfolding_all rfl
theorem ok_brk : Ok (evS C .brk env cs) O = O (.bk, env, cs) := by simp only [evS]; with_unfolding_all rfl
theorem ok_cont : Ok (evS C .cont env cs) O = O (.ct, env, cs) := by simp only [evS]; with_unfolding_all rfl
theorem ok_pass : Ok (evS C .pass env cs) O = O (.nx, env, cs) := by simp only [evS]; with_unfolding_all rfl
end
/-! ### operations -/
theorem eqD_int {i j : Int} : eqD (.int i) (.int j) = .ok (decide (i = j)) := by
  show Res.ok (PyData.eqv (.int i) (.int j)) = _
  congr
theorem eqD_bool {i j : Bool} : eqD (.bool i) (.bool j) = .ok (decide (i = j)) := by cases i <;> cases j <;> rfl
theorem eqD_str {i j : Str} : eqD (.str i) (.str j) = .ok (decide (i = j)) := by
  show Res.ok (PyData.eqv (.str i) (.str j)) = _
  congr
theorem eqD_none : eqD .none .none = .ok true := nr rfl
theorem eqD_nil : eqD (.list []) (.list []) = .ok true := nr rfl
section
variable {Q : MV × Cells → Prop} {O : Out → Prop} {env : Env} {rest : Cells} {xs ys : List PyData} {i j k l : Int} {y x : PyData} {b b' : Bool} {z z' : Str} {v : MV} {n : Nat} {vs : List MV}
theorem cidQ0 : cidQ Q (.r 0) (.d (.int k)) (.lst xs :: rest) = Ok (atD xs k) fun y => Q (y, .lst xs :: rest) := nr rfl
theorem csetQ0 : csetQ O env (.d y) (.r 0) (.d (.int k)) (.lst xs :: rest) = match ixN xs.length k with
    | some m => O (.nx, env, .lst (xs.set m y) :: rest)
    | none => False := nr rfl
theorem p_add : primF .add [.d (.int i), .d (.int j)] = .ok (.d (.int (i + j))) := nr rfl
theorem p_addL : primF .add [.d (.list xs), .d (.list ys)] = if xs.length + ys.length ≤ sizeLine then .ok (.d (.list (xs ++ ys))) else .no := by
  show (if lenOk (xs.length + ys.length) = true then _ else _) = _
  simp only [lenOk, decide_eq_true_eq]
theorem p_addT : primF .add [.d (.tuple xs), .d (.tuple ys)] = if xs.length + ys.length ≤ sizeLine then .ok (.d (.tuple (xs ++ ys))) else .no := by
  show (if lenOk (xs.length + ys.length) = true then _ else _) = _
  simp only [lenOk, decide_eq_true_eq]
theorem p_addS : primF .add [.d (.str z), .d (.str z')] = if z.length + z'.length ≤ sizeLine then .ok (.d (.str (z ++ z'))) else .no := by
  show (if lenOk (z.length + z'.length) = true then _ else _) = _
  simp only [lenOk, decide_eq_true_eq]
theorem p_sub : primF .sub [.d (.int i), .d (.int j)] = .ok (.d (.int (i - j))) := nr rfl
theorem p_mul : primF .mul [.d (.int i), .d (.int j)] = if (-18446744073709551616 < i ∧ i < 18446744073709551616) ∨ (-18446744073709551616 < j ∧ j < 18446744073709551616) then .ok (.d (.int (i * j))) else .no := by
  show (if mulOk i j = true then _ else _) = _
  simp only [mulOk, decide_eq_true_eq, Int.reducePow, Int.reduceNeg]
theorem p_fdiv : primF .fdiv [.d (.int i), .d (.int j)] = if 0 < j ∧ j.natAbs.log2 < 9000 then .ok (.d (.int (i / j))) else .no := by
  show (if (decide (0 < j) && decide (j.natAbs.log2 < 9000)) = true then _ else _) = _
  simp only [Bool.and_eq_true, decide_eq_true_eq]
theorem p_mod : primF .mod [.d (.int i), .d (.int j)] = if 0 < j then .ok (.d (.int (i % j))) else .no := by
  show (if decide (0 < j) = true then _ else _) = _
  simp only [decide_eq_true_eq]
theorem p_pow : primF .pow [.d (.int i), .d (.int j)] = if 0 ≤ j ∧ j ≤ 1000000 ∧ -18446744073709551616 < i ∧ i < 18446744073709551616 then .ok (.d (.int (i ^ j.toNat))) else .no := by
  show (if decide (0 ≤ j ∧ j ≤ 1000000 ∧ i.natAbs < 2 ^ 64) = true then _ else _) = _
  simp only [decide_eq_true_eq]
  by_cases h : 0 ≤ j ∧ j ≤ 1000000 ∧ i.natAbs < 2 ^ 64
  · rw [if_pos h, if_pos (by omega)]
  · rw [if_neg h, if_neg (by omega)]
theorem p_neg : primF .neg [.d (.int i)] = .ok (.d (.int (-i))) := nr rfl
theorem p_eq : primF (.cmp .eq) [.d x, .d y] = (eqD x y).bind fun b => .ok (.d (.bool b)) := nr rfl
theorem p_ne : primF (.cmp .ne) [.d x, .d y] = (eqD x y).bind fun b => .ok (.d (.bool (!b))) := by
  show ((eqD x y).bind fun b => Res.ok (!b)).bind (fun b => Res.ok (MV.d (.bool b))) = _
  cases eqD x y <;> rfl
theorem p_lt : primF (.cmp .lt) [.d (.int i), .d (.int j)] = .ok (.d (.bool (decide (i < j)))) := nr rfl
theorem p_le : primF (.cmp .le) [.d (.int i), .d (.int j)] = .ok (.d (.bool (decide (i ≤ j)))) := nr rfl
theorem p_gt : primF (.cmp .gt) [.d (.int i), .d (.int j)] = .ok (.d (.bool (decide (j < i)))) := nr rfl
theorem p_ge : primF (.cmp .ge) [.d (.int i), .d (.int j)] = .ok (.d (.bool (decide (j ≤ i)))) := nr rfl
theorem p_in : primF (.cmp .isin) [.d x, .d y] = (inD x y).bind fun b => .ok (.d (.bool b)) := nr rfl
theorem p_isN : primF (.cmp .isN) [.d x, .d .none] = .ok (.d (.bool (isNoneD x))) := nr rfl
theorem p_notN : primF (.cmp .notN) [.d x, .d .none] = .ok (.d (.bool (!isNoneD x))) := nr rfl
theorem p_isB : primF (.cmp .isN) [.d (.bool b), .d (.bool b')] = .ok (.d (.bool (decide (b = b')))) := nr rfl
theorem p_idxL : primF .idx [.d (.list xs), .d (.int i)] = atD xs i := nr rfl
theorem p_idxT : primF .idx [.d (.tuple xs), .d (.int i)] = atD xs i := nr rfl
theorem p_tup : primF .tup vs = match allD vs with
    | some xs => if xs.length ≤ sizeLine then .ok (.d (.tuple xs)) else .no
    | none => .no := by
  show (match allD vs with
    | some xs => if lenOk xs.length = true then _ else _
    | none => _) = _
  simp only [lenOk, decide_eq_true_eq]
theorem p_lst : primF .lst vs = match allD vs with
    | some xs => if xs.length ≤ sizeLine then .ok (.d (.list xs)) else .no
    | none => .no := by
  show (match allD vs with
    | some xs => if lenOk xs.length = true then _ else _
    | none => _) = _
  simp only [lenOk, decide_eq_true_eq]
theorem p_lst0 : primF .lst [] = .ok (.d (.list [])) := nr rfl
theorem line1 : 1 ≤ sizeLine := by decide
theorem line_le {n : Nat} (h : n ≤ 1000000) : n ≤ sizeLine := Nat.le_trans h (by decide)
section
variable {a b c d e f g : PyData}
theorem p_lst1 : primF .lst [.d a] = .ok (.d (.list [a])) := nr rfl
theorem p_lst2 : primF .lst [.d a, .d b] = .ok (.d (.list [a, b])) := nr rfl
theorem p_lst3 : primF .lst [.d a, .d b, .d c] = .ok (.d (.list [a, b, c])) := nr rfl
theorem p_lst4 : primF .lst [.d a, .d b, .d c, .d d] = .ok (.d (.list [a, b, c, d])) := nr rfl
theorem p_lst5 : primF .lst [.d a, .d b, .d c, .d d, .d e] = .ok (.d (.list [a, b, c, d, e])) := nr rfl
theorem p_lst6 : primF .lst [.d a, .d b, .d c, .d d, .d e, .d f] = .ok (.d (.list [a, b, c, d, e, f])) := nr rfl
theorem p_lst7 : primF .lst [.d a, .d b, .d c, .d d, .d e, .d f, .d g] = .ok (.d (.list [a, b, c, d, e, f, g])) := nr rfl
theorem p_tup0 : primF .tup [] = .ok (.d (.tuple [])) := nr rfl
theorem p_tup1 : primF .tup [.d a] = .ok (.d (.tuple [a])) := nr rfl
theorem p_tup2 : primF .tup [.d a, .d b] = .ok (.d (.tuple [a, b])) := nr rfl
theorem p_tup3 : primF .tup [.d a, .d b, .d c] = .ok (.d (.tuple [a, b, c])) := nr rfl
theorem p_tup4 : primF .tup [.d a, .d b, .d c, .d d] = .ok (.d (.tuple [a, b, c, d])) := nr rfl
theorem p_tup5 : primF .tup [.d a, .d b, .d c, .d d, .d e] = .ok (.d (.tuple [a, b, c, d, e])) := nr rfl
end
theorem p_lenL : primF .len [.d (.list xs)] = .ok (.d (.int xs.length)) := nr rfl
theorem p_lenT : primF .len [.d (.tuple xs)] = .ok (.d (.int xs.length)) := nr rfl
theorem p_listL : primF .listOf [.d (.list xs)] = .ok (.d (.list xs)) := nr rfl
theorem p_listT : primF .listOf [.d (.tuple xs)] = .ok (.d (.list xs)) := nr rfl
theorem p_tupleL : primF .tupleOf [.d (.list xs)] = .ok (.d (.tuple xs)) := nr rfl
theorem p_tupleT : primF .tupleOf [.d (.tuple xs)] = .ok (.d (.tuple xs)) := nr rfl
theorem p_abs : primF .abs [.d (.int i)] = .ok (.d (.int (if i < 0 then -i else i))) := nr rfl
theorem p_max2 : primF .max2 [.d (.int i), .d (.int j)] = .ok (.d (.int (if j > i then j else i))) := nr rfl
theorem p_min2 : primF .min2 [.d (.int i), .d (.int j)] = .ok (.d (.int (if j < i then j else i))) := nr rfl
theorem p_max4 : primF .max4 [.d (.int i), .d (.int j), .d (.int k), .d (.int l)] = .ok (.d (.int (max (max (max i j) k) l))) := nr rfl
theorem p_intI : primF .int1 [.d (.int i)] = .ok (.d (.int i)) := nr rfl
theorem p_intB : primF .int1 [.d (.bool b)] = .ok (.d (.int (if b then 1 else 0))) := nr rfl
theorem p_isi {ts : List TY} : primF (.isi ts) [.d x] = .ok (.d (.bool (isiD ts x))) := nr rfl
theorem p_rev : primF .rev [.d (.list xs)] = .ok (.d (.list xs.reverse)) := nr rfl
theorem t_b : truth (.d (.bool b)) = .ok b := nr rfl
theorem t_i : truth (.d (.int i)) = .ok (decide (i ≠ 0)) := by
  show Res.ok (i != 0) = _
  congr
  by_cases h : i = 0
  · subst h; rfl
  · simp [h]
theorem t_n : truth (.d .none) = .ok false := nr rfl
theorem a_n : asgT (.n n) v env = .ok (env.set n (.v v)) := nr rfl
theorem a_t {is : List Nat} : asgT (.t is) (.d (.tuple xs)) env = if is.length = xs.length then .ok (setAll is xs env) else .no := nr rfl
theorem a_l {is : List Nat} : asgT (.t is) (.d (.list xs)) env = if is.length = xs.length then .ok (setAll is xs env) else .no := nr rfl
theorem sM_d {kvs : List (PyData × PyData)} : R.stM true n (.t kvs) env = .ok (env.set n (.ot kvs)) := nr rfl
theorem sM_k {kvs : List (Key × PyData)} : R.stM true n (.k kvs) env = .ok (env.set n (.ok kvs)) := nr rfl
theorem sM_t : R.stM true n (.d (.list xs)) env = .ok (env.set n (.ol xs)) := nr rfl
theorem sM_f : R.stM false n v env = .ok (env.set n (.v v)) := nr rfl
theorem sA_0 : stAll [] [] env = .ok env := nr rfl
theorem sA_1 {m : Bool × Nat} {ms : List (Bool × Nat)} : stAll (m :: ms) (v :: vs) env = (R.stM m.1 m.2 v env).bind fun env' => stAll ms vs env' := nr rfl
theorem wE_0 : wipeE env [] = env := nr rfl
theorem wE_1 {v : Nat} {vs : List Nat} : wipeE env (v :: vs) = (wipeE env vs).set v .no := nr rfl
end
section
variable {C : Cxt} {env : Env} {cs : Cells} {T : Bool × Cells → Prop}
theorem tst_var {i : Nat} : Ok (tst C (.var i) env cs) T = Ok (evE C (.var i) env cs) fun r => Ok (truth r.1) fun t => T (t, r.2) := ok_tst
theorem tst_own {i : Nat} : Ok (tst C (.own i) env cs) T = Ok (evE C (.own i) env cs) fun r => Ok (truth r.1) fun t => T (t, r.2) := ok_tst
theorem tst_k {k : Kon} : Ok (tst C (.k k) env cs) T = Ok (evE C (.k k) env cs) fun r => Ok (truth r.1) fun t => T (t, r.2) := ok_tst
theorem tst_prim {p : Prim} {es : Es} : Ok (tst C (.prim p es) env cs) T = Ok (evE C (.prim p es) env cs) fun r => Ok (truth r.1) fun t => T (t, r.2) := ok_tst
theorem tst_ite {a b c : E} : Ok (tst C (.ite a b c) env cs) T = Ok (evE C (.ite a b c) env cs) fun r => Ok (truth r.1) fun t => T (t, r.2) := ok_tst
theorem tst_chain {o o' : CO} {a b c : E} : Ok (tst C (.chain o o' a b c) env cs) T = Ok (evE C (.chain o o' a b c) env cs) fun r => Ok (truth r.1) fun t => T (t, r.2) := ok_tst
theorem tst_call {f : Nat} {es : Es} : Ok (tst C (.call f es) env cs) T = Ok (evE C (.call f es) env cs) fun r => Ok (truth r.1) fun t => T (t, r.2) := ok_tst
theorem tst_callK {j : Nat} {es kes : Es} : Ok (tst C (.callK j es kes) env cs) T = Ok (evE C (.callK j es kes) env cs) fun r => Ok (truth r.1) fun t => T (t, r.2) := ok_tst
theorem tst_cidx {a b : E} : Ok (tst C (.cidx a b) env cs) T = Ok (evE C (.cidx a b) env cs) fun r => Ok (truth r.1) fun t => T (t, r.2) := ok_tst
end
theorem atI_some {α : Type} {xs : List α} {i : Int} (h0 : 0 ≤ i) (h1 : i < xs.length) : ∃ x, atI xs i = some x ∧ xs[i.toNat]? = some x := by
  have hn : i.toNat < xs.length := by omega
  refine ⟨xs[i.toNat], ?_, List.getElem?_eq_getElem hn⟩
  unfold atI ixN
  rw [if_pos h0, if_pos h1]
  exact List.getElem?_eq_getElem hn
theorem ok_at {xs : List PyData} {i : Int} {Q : MV → Prop} (h0 : 0 ≤ i) (h1 : i < xs.length) (k : ∀ x, xs[i.toNat]? = some x → Q (.d x)) : Ok (atD xs i) Q := by
  obtain ⟨x, e1, e2⟩ := atI_some h0 h1
  unfold atD
  rw [e1]
  show Ok (.ok (MV.d x)) Q
  rw [ok_ok]
  exact k x e2
theorem rngOk_of {i j : Int} (h1 : -4611686018427387904 ≤ i) (h2 : i < 4611686018427387904) (h3 : -4611686018427387904 ≤ j) (h4 : j < 4611686018427387904) : rngOk i j = true := by
  unfold rngOk
  simp only [Int.reducePow, Int.reduceNeg, decide_eq_true_eq]
  exact ⟨h1, h2, h3, h4⟩
/-- a comprehension that changes nothing -/
theorem ok_lcM {step : PyData → Cells → Res (Option PyData × Cells)} {cs : Cells} {Q : List PyData × Cells → Prop} (f : PyData → Option PyData) (xs : List PyData) (h : ∀ x ∈ xs, ∀ T : Option PyData × Cells → Prop, T (f x, cs) → Ok (step x cs) T) (hl : xs.length ≤ sizeLine) (q : Q (xs.filterMap f, cs)) :
    Ok (lcL step xs [] cs) Q := by
  refine Ok.of (lcL_map f xs [] (fun x hx => ?_) (by simpa using hl)) (by simpa using q)
  obtain ⟨a, e, rfl⟩ := (h x hx (fun a => a = (f x, cs)) rfl).ex
  exact e
def enumQ (L : List PyData × Cells → Prop) : MV × Cells → Prop := fun r => match r.1 with
  | .d (.list xs) => L (enumL 0 xs, r.2)
  | _ => False
theorem enumQ_l {L : List PyData × Cells → Prop} {xs : List PyData} {cs : Cells} : enumQ L (.d (.list xs), cs) = L (enumL 0 xs, cs) := nr rfl
theorem ok_enum {C : Cxt} {e : E} {env : Env} {cs : Cells} {L : List PyData × Cells → Prop} : Ok (evSR C (.enum e) env cs) L = Ok (evE C e env cs) (enumQ L) := by
  simp only [evSR, ok_bind]
  congr
  funext r
  obtain ⟨x, cs⟩ := r
  cases x with
  | d y => cases y <;> with_unfolding_all rfl
  | _ => with_unfolding_all rfl
theorem p_rep {xs : List PyData} {k : Int} : primF .rep [.d (.list xs), .d (.int k)] = if (0 ≤ k ∧ k ≤ 1000) ∧ xs.length ≤ 1000 then .ok (.d (.list (List.replicate k.toNat xs).flatten)) else .no := by
  show (if (decide (0 ≤ k ∧ k ≤ 1000) && decide (xs.length ≤ 1000)) = true then _ else _) = _
  simp only [Bool.and_eq_true, decide_eq_true_eq]
theorem p_sorted {xs : List PyData} : primF .sorted1 [.d (.list xs)] = if sortOk xs = true then .ok (.d (.list (sortD xs))) else .no := nr rfl
theorem eqv_self {x : PyData} (h : PySem.W.alike x x = true) : PyData.eqv x x = true := PySem.W.eqv_refl_alike x h
theorem eqD_self {x : PyData} (h : SeqAt.shaped x = true) (h2 : PySem.W.alike x x = true) : eqD x x = .ok true := by
  unfold eqD
  rw [eqv_self h2, h]
  simp
theorem eqD_pair {a b c d : Int} : eqD (.tuple [.int a, .int b]) (.tuple [.int c, .int d]) = .ok (decide (a = c) && decide (b = d)) := by
  have e : eqD (.tuple [.int a, .int b]) (.tuple [.int c, .int d]) = .ok (PyData.eqv (.tuple [.int a, .int b]) (.tuple [.int c, .int d])) := nr rfl
  rw [e]
  congr 1
  simp only [PyData.eqv, PyData.eqvAll, Bool.and_true]
  rfl
theorem lcL_E {α : Type} {step : PyData → Cells → Res (Option PyData × Cells)} {cs : Cells} (enc : α → PyData) (f : α → Option PyData) : ∀ (xs : List α) (acc : List PyData), (∀ x ∈ xs, step (enc x) cs = .ok (f x, cs)) → acc.length + xs.length ≤ sizeLine → lcL step (xs.map enc) acc cs = .ok (acc ++ xs.filterMap f, cs)
  | [], acc, _, _ => by simp [lcL]
  | x :: xs, acc, h, hl => by
    rw [List.map_cons]
    unfold lcL
    rw [h x List.mem_cons_self, Res.bind_ok]
    rw [List.length_cons] at hl
    cases e : f x with
    | none =>
      rw [List.filterMap_cons_none e]
      exact lcL_E enc f xs acc (fun y hy => h y (List.mem_cons_of_mem _ hy)) (by omega)
    | some y =>
      have hk : lenOk (acc.length + 1) = true := by unfold lenOk; exact decide_eq_true (by omega)
      show (if lenOk (acc.length + 1) = true then lcL step (xs.map enc) (acc ++ [y]) cs else Res.no) = _
      rw [if_pos hk, lcL_E enc f xs (acc ++ [y]) (fun z hz => h z (List.mem_cons_of_mem _ hz)) (by rw [List.length_append, List.length_singleton]; omega), List.filterMap_cons_some e, List.append_assoc]
      rfl
/-- a comprehension over things that stand for data -/
theorem ok_lcE {α : Type} {step : PyData → Cells → Res (Option PyData × Cells)} {cs : Cells} {Q : List PyData × Cells → Prop} (enc : α → PyData) (f : α → Option PyData) (xs : List α) (h : ∀ x ∈ xs, ∀ T : Option PyData × Cells → Prop, T (f x, cs) → Ok (step (enc x) cs) T) (hl : xs.length ≤ sizeLine) (q : Q (xs.filterMap f, cs)) :
    Ok (lcL step (xs.map enc) [] cs) Q := by
  refine Ok.of (lcL_E enc f xs [] (fun x hx => ?_) (by simpa using hl)) (by simpa using q)
  obtain ⟨a, e, rfl⟩ := (h x hx (fun a => a = (f x, cs)) rfl).ex
  exact e
theorem p_sl10 {xs : List PyData} {a : Int} : primF .sl10 [.d (.list xs), .d (.int a)] = .ok (.d (.list (cutD xs (some a) none))) := nr rfl
theorem p_sl01 {xs : List PyData} {a : Int} : primF .sl01 [.d (.list xs), .d (.int a)] = .ok (.d (.list (cutD xs none (some a)))) := nr rfl
theorem cut_from {xs : List PyData} {a : Int} (h0 : 0 ≤ a) (h1 : a ≤ xs.length) : cutD xs (some a) none = xs.drop a.toNat := by
  have e1 : HT.sIx xs.length 0 (some a) = a.toNat := by
    show (if a < 0 then (a + (xs.length : Int)).toNat else min a.toNat xs.length) = a.toNat
    rw [if_neg (by omega)]
    omega
  have e2 : HT.sIx xs.length xs.length none = xs.length := rfl
  unfold cutD
  rw [e1, e2]
  exact List.take_of_length_le (by rw [List.length_drop]; omega)
theorem ite_p {c : Prop} [Decidable c] {a b : Prop} (h1 : c → a) (h2 : ¬ c → b) : if c then a else b := by
  split
  · exact h1 ‹_›
  · exact h2 ‹_›
end R

namespace R
open PySem L2
/-- data that is set against data: ints, texts, None, bools, of at most n layers -/
def Cm : Nat → PyData → Prop
  | _, .none => True
  | _, .bool _ => True
  | _, .int _ => True
  | _, .str z => PyData.strOk z = true
  | n + 1, .list xs => ∀ x ∈ xs, Cm n x
  | n + 1, .tuple xs => ∀ x ∈ xs, Cm n x
  | _, _ => False
theorem cm_all : ∀ xs : List PyData, (∀ x ∈ xs, x.canLay0 = true ∧ PySem.W.alike x x = true) → PyData.canLayAll0 xs = true ∧ PySem.W.alikeAll xs xs = true
  | [], _ => by simp [PyData.canLayAll0, PySem.W.alikeAll]
  | x :: xs, h => by
    have a := h x List.mem_cons_self
    have b := cm_all xs fun y hy => h y (List.mem_cons_of_mem _ hy)
    simp only [PyData.canLayAll0, PySem.W.alikeAll, a.1, a.2, b.1, b.2, Bool.and_self, and_self]
theorem cm_deep {n : Nat} : ∀ xs : List PyData, (∀ x ∈ xs, x.depth ≤ n) → PyData.depthAll xs ≤ n
  | [], _ => by simp [PyData.depthAll]
  | x :: xs, h => by
    have a := h x List.mem_cons_self
    have b := cm_deep xs fun y hy => h y (List.mem_cons_of_mem _ hy)
    simp only [PyData.depthAll]
    omega
theorem cm_of : ∀ (n : Nat) (x : PyData), Cm n x → (x.canLay0 = true ∧ PySem.W.alike x x = true) ∧ x.depth ≤ n
  | n, .none, _ => by simp [PyData.canLay0, PySem.W.alike, PyData.depth]
  | n, .bool _, _ => by simp [PyData.canLay0, PySem.W.alike, PyData.depth]
  | n, .int _, _ => by simp [PyData.canLay0, PySem.W.alike, PyData.depth]
  | n, .str z, h => by
    have h' : PyData.strOk z = true := by cases n <;> exact h
    simp [PyData.canLay0, PySem.W.alike, PyData.depth, h']
  | 0, .list xs, h => h.elim
  | 0, .tuple xs, h => h.elim
  | n + 1, .list xs, h => by
    have h' : ∀ x ∈ xs, Cm n x := h
    have a := cm_all xs fun x hx => (cm_of n x (h' x hx)).1
    have b := cm_deep xs fun x hx => (cm_of n x (h' x hx)).2
    simp only [PyData.canLay0, PySem.W.alike, PyData.depth, a.1, a.2, and_self, true_and]
    omega
  | n + 1, .tuple xs, h => by
    have h' : ∀ x ∈ xs, Cm n x := h
    have a := cm_all xs fun x hx => (cm_of n x (h' x hx)).1
    have b := cm_deep xs fun x hx => (cm_of n x (h' x hx)).2
    simp only [PyData.canLay0, PySem.W.alike, PyData.depth, a.1, a.2, and_self, true_and]
    omega
  | 0, .dict _, h => h.elim
  | n + 1, .dict _, h => h.elim
theorem cm_shaped {n : Nat} {x : PyData} (h : Cm n x) (hn : n ≤ 60) : SeqAt.shaped x = true := by
  obtain ⟨⟨a, _⟩, c⟩ := cm_of n x h
  unfold SeqAt.shaped
  rw [a, Bool.true_and]
  exact decide_eq_true (by omega)
theorem eqD_cm {n m : Nat} {x y : PyData} (hx : Cm n x) (hy : Cm m y) (hn : n ≤ 60) (hm : m ≤ 60) : eqD x y = .ok (PyData.eqv x y) := by
  unfold eqD
  rw [cm_shaped hx hn, cm_shaped hy hm]
  simp
theorem eqD_same {n : Nat} {x : PyData} (hx : Cm n x) (hn : n ≤ 60) : eqD x x = .ok true := by
  rw [eqD_cm hx hx hn hn, eqv_self (cm_of n x hx).1.2]
/-- without bools: equal is the same -/
def Pu : Nat → PyData → Prop
  | _, .none => True
  | _, .int _ => True
  | _, .str z => PyData.strOk z = true
  | n + 1, .list xs => ∀ x ∈ xs, Pu n x
  | n + 1, .tuple xs => ∀ x ∈ xs, Pu n x
  | _, _ => False
theorem Pu.cm : ∀ (n : Nat) (x : PyData), Pu n x → Cm n x
  | 0, .none, _ => trivial
  | 0, .int _, _ => trivial
  | 0, .str _, h => h
  | n + 1, .none, _ => trivial
  | n + 1, .int _, _ => trivial
  | n + 1, .str _, h => h
  | n + 1, .list xs, h => fun x hx => Pu.cm n x (h x hx)
  | n + 1, .tuple xs, h => fun x hx => Pu.cm n x (h x hx)
  | 0, .bool _, h => h.elim
  | n + 1, .bool _, h => h.elim
  | 0, .list _, h => h.elim
  | 0, .tuple _, h => h.elim
  | 0, .dict _, h => h.elim
  | n + 1, .dict _, h => h.elim
theorem pu_all {n : Nat} (ih : ∀ x y : PyData, Pu n x → PyData.eqv x y = true → Pu n y → x = y) : ∀ xs ys : List PyData, (∀ x ∈ xs, Pu n x) → (∀ y ∈ ys, Pu n y) → PyData.eqvAll xs ys = true → xs = ys
  | [], [], _, _, _ => rfl
  | [], y :: ys, _, _, h => by simp [PyData.eqvAll] at h
  | x :: xs, [], _, _, h => by simp [PyData.eqvAll] at h
  | x :: xs, y :: ys, hx, hy, h => by
    rw [PySem.W.eqv_all_cons, Bool.and_eq_true] at h
    rw [ih x y (hx x List.mem_cons_self) h.1 (hy y List.mem_cons_self), pu_all ih xs ys (fun z hz => hx z (List.mem_cons_of_mem _ hz)) (fun z hz => hy z (List.mem_cons_of_mem _ hz)) h.2]
theorem pu_eq : ∀ (n : Nat) (x y : PyData), Pu n x → PyData.eqv x y = true → Pu n y → x = y := by
  intro n
  induction n with
  | zero =>
    intro x y hx h hy
    cases x <;> cases y <;> first | rfl | exact hx.elim | exact hy.elim | (simp [PyData.eqv] at h; try rw [h])
  | succ n ih =>
    intro x y hx h hy
    cases x with
    | list xs =>
      cases y with
      | list ys =>
        rw [PyData.eqv] at h
        rw [pu_all ih xs ys hx hy h]
      | _ => first | exact hy.elim | (simp [PyData.eqv] at h)
    | tuple xs =>
      cases y with
      | tuple ys =>
        rw [PyData.eqv] at h
        rw [pu_all ih xs ys hx hy h]
      | _ => first | exact hy.elim | (simp [PyData.eqv] at h)
    | _ => cases y <;> first | rfl | exact hx.elim | exact hy.elim | (simp [PyData.eqv] at h; try rw [h])
theorem eqD_pu {n : Nat} {x y : PyData} (hx : Pu n x) (hy : Pu n y) (hn : n ≤ 60) : ∃ b, eqD x y = .ok b ∧ (b = true ↔ x = y) := by
  refine ⟨_, eqD_cm (Pu.cm n x hx) (Pu.cm n y hy) hn hn, fun h => pu_eq n x y hx h hy, fun h => ?_⟩
  subst h
  exact eqv_self (cm_of n x (Pu.cm n x hx)).1.2
theorem at_last {xs : List PyData} {x : PyData} : atD (xs ++ [x]) (-1) = .ok (.d x) := by
  have e : atI (xs ++ [x]) (-1) = some x := by
    unfold atI ixN
    rw [if_neg (by omega), if_pos (by rw [List.length_append, List.length_singleton]; omega)]
    have : ((-1 : Int) + ((xs ++ [x]).length : Int)).toNat = xs.length := by rw [List.length_append, List.length_singleton]; omega
    rw [this]
    simp
  unfold atD
  rw [e]
theorem eqD_nilL {xs : List PyData} {n : Nat} (h : Cm n (.list xs)) (hn : n ≤ 60) : eqD (.list xs) (.list []) = .ok xs.isEmpty := by
  have hb : Cm 1 (.list []) := fun _ hx => by cases hx
  rw [eqD_cm h hb hn (by decide)]
  congr 1
  rw [PyData.eqv]
  cases xs <;> rfl
theorem cut_to {xs : List PyData} {a : Int} (h0 : 0 ≤ a) (h1 : a ≤ xs.length) : cutD xs none (some a) = xs.take a.toNat := by
  have e1 : HT.sIx xs.length xs.length (some a) = a.toNat := by
    show (if a < 0 then (a + (xs.length : Int)).toNat else min a.toNat xs.length) = a.toNat
    rw [if_neg (by omega)]
    omega
  have e2 : HT.sIx xs.length 0 none = 0 := rfl
  unfold cutD
  rw [e1, e2]
  rfl
theorem p_notB {a b : Bool} : primF (.cmp .notN) [.d (.bool a), .d (.bool b)] = .ok (.d (.bool (!decide (a = b)))) := nr rfl
def zipQ (L : List PyData × Cells → Prop) (r q : MV) (cs : Cells) : Prop := match r, q with
  | .d (.list xs), .d (.list ys) => L (zipL xs ys, cs)
  | .d (.tuple xs), .d (.tuple ys) => L (zipL xs ys, cs)
  | _, _ => False
theorem zipQ_l {L : List PyData × Cells → Prop} {xs ys : List PyData} {cs : Cells} : zipQ L (.d (.list xs)) (.d (.list ys)) cs = L (zipL xs ys, cs) := nr rfl
theorem zipQ_t {L : List PyData × Cells → Prop} {xs ys : List PyData} {cs : Cells} : zipQ L (.d (.tuple xs)) (.d (.tuple ys)) cs = L (zipL xs ys, cs) := nr rfl
theorem ok_zip {C : Cxt} {a b : E} {env : Env} {cs : Cells} {L : List PyData × Cells → Prop} : Ok (evSR C (.zip a b) env cs) L = Ok (evE C a env cs) fun r => Ok (evE C b env r.2) fun q => zipQ L r.1 q.1 q.2 := by
  simp only [evSR, ok_bind]
  congr
  funext r
  congr
  funext q
  obtain ⟨r, _⟩ := r
  obtain ⟨q, cs⟩ := q
  cases r with
  | d y =>
    cases q with
    | d z =>
      cases y with
      | list xs => cases z <;> with_unfolding_all rfl
      | tuple xs => cases z <;> with_unfolding_all rfl
      | _ => with_unfolding_all rfl
    | _ => cases y <;> with_unfolding_all rfl
  | _ => with_unfolding_all rfl
theorem p_count {xs : List PyData} {x : PyData} (h : (SeqAt.shaped (.list xs) && SeqAt.shaped x) = true) : primF .count [.d (.list xs), .d x] = .ok (.d (.int (xs.countP fun y => PyData.eqv y x : Nat))) := by
  show (if (SeqAt.shaped (.list xs) && SeqAt.shaped x) = true then _ else _) = _
  rw [if_pos h]
theorem p_notin {x y : PyData} : primF (.cmp .notin) [.d x, .d y] = (inD x y).bind fun b => .ok (.d (.bool (!b))) := by
  show ((inD x y).bind fun b => Res.ok (!b)).bind (fun b => Res.ok (MV.d (.bool b))) = _
  cases inD x y <;> rfl
theorem p_revT {xs : List PyData} : primF .rev [.d (.tuple xs)] = if xs.length ≤ sizeLine then .ok (.d (.tuple xs.reverse)) else .no := by
  show (if lenOk xs.length = true then _ else _) = _
  simp only [lenOk, decide_eq_true_eq]
theorem boolsD_map {α : Type} (f : α → Bool) : ∀ xs : List α, boolsD (xs.map fun x => .bool (f x)) = some (xs.map f)
  | [] => rfl
  | x :: xs => by rw [List.map_cons, boolsD, boolsD_map f xs]; rfl
theorem p_all {α : Type} (f : α → Bool) (xs : List α) : primF .all1 [.d (.list (xs.map fun x => .bool (f x)))] = .ok (.d (.bool (xs.all f))) := by
  show (match boolsD (xs.map fun x => PyData.bool (f x)) with
    | some bs => Res.ok (MV.d (.bool (bs.all id)))
    | none => .no) = _
  rw [boolsD_map]
  simp only [List.all_map]
  rfl
def popQ (O : Out → Prop) (i : Nat) (env : Env) (s : Option Sl) : MV × Cells → Prop := fun r => match r.1, s with
  | .d (.int j), some (.ol xs) => (0 ≤ j ∧ j.toNat < xs.length ∧ xs.length ≤ sizeLine) ∧ O (.nx, env.set i (.ol (xs.eraseIdx j.toNat)), r.2)
  | _, _ => False
theorem popQ_o {O : Out → Prop} {i : Nat} {env : Env} {xs : List PyData} {j : Int} {cs : Cells} : popQ O i env (some (.ol xs)) (.d (.int j), cs) = ((0 ≤ j ∧ j.toNat < xs.length ∧ xs.length ≤ sizeLine) ∧ O (.nx, env.set i (.ol (xs.eraseIdx j.toNat)), cs)) := nr rfl
theorem ok_popS {C : Cxt} {i : Nat} {a : E} {env : Env} {cs : Cells} {O : Out → Prop} : Ok (evS C (.popS i a) env cs) O = Ok (evE C a env cs) (popQ O i env env[i]?) := by
  simp only [evS, ok_bind]
  congr
  funext r
  obtain ⟨x, cs⟩ := r
  generalize env[i]? = o
  cases x with
  | d y =>
    cases y with
    | int j =>
      cases o with
      | none => with_unfolding_all rfl
      | some s =>
        cases s with
        | ol xs =>
          simp only [popQ]
          show Ok (if (decide (0 ≤ j) && decide (j.toNat < xs.length) && lenOk xs.length) = true then _ else _) O = _
          by_cases h : 0 ≤ j ∧ j.toNat < xs.length ∧ xs.length ≤ sizeLine
          · rw [if_pos (by simp only [lenOk, Bool.and_eq_true, decide_eq_true_eq]; exact ⟨⟨h.1, h.2.1⟩, h.2.2⟩), ok_ok]
            exact propext ⟨fun z => ⟨h, z⟩, fun z => z.2⟩
          · rw [if_neg (by simp only [lenOk, Bool.and_eq_true, decide_eq_true_eq]; exact fun z => h ⟨z.1.1, z.1.2, z.2⟩), ok_no]
            exact propext ⟨fun z => z.elim, fun z => absurd z.1 h⟩
        | _ => with_unfolding_all rfl
    | _ => cases o <;> with_unfolding_all rfl
  | _ => cases o <;> with_unfolding_all rfl
/-! ### dicts with tuple keys -/
theorem p_dictT {xs : List PyData} : primF .dictT [.d (.list xs)] = dictD xs := nr rfl
theorem p_sortT {kvs : List (PyData × PyData)} : primF .sortT [.t kvs] = if sortOk (kvs.map (·.1)) = true then .ok (.d (.list (sortD (kvs.map (·.1))))) else .no := nr rfl
theorem p_ninT {kvs : List (PyData × PyData)} {x : PyData} : primF .ninT [.d x, .t kvs] = if (nkD x).isSome = true then .ok (.d (.bool (!(lookT kvs x).isSome))) else .no := nr rfl
theorem p_ltT {xs ys : List PyData} : primF (.cmp .lt) [.d (.tuple xs), .d (.tuple ys)] = if ltOk (.tuple xs) (.tuple ys) = true then .ok (.d (.bool (PySem.W.dataLt (.tuple xs) (.tuple ys)))) else .no := by
  show (if ltOk (.tuple xs) (.tuple ys) = true then Res.ok (PySem.W.dataLt (.tuple xs) (.tuple ys)) else .no).bind (fun b => Res.ok (MV.d (.bool b))) = _
  split <;> rfl
theorem p_dictP {xs : List PyData} : primF .dictT [.p xs] = dictD xs := nr rfl
theorem p_tupP {xs : List PyData} : primF .tupleP [.d (.list xs)] = .ok (.p xs) := nr rfl
theorem p_dn {xs : List PyData} : primF .dn [.p xs] = .ok (.d (.tuple xs)) := nr rfl
theorem p_getT {kvs : List (PyData × PyData)} {x y : PyData} : primF .getT [.t kvs, .d x, .d y] = if (nkD x).isSome = true then .ok (.d ((lookT kvs x).getD y)) else .no := nr rfl
section
variable {C : Cxt} {i : Nat} {a e : E} {env : Env} {cs : Cells} {O : Out → Prop}
def dputQ (O : Out → Prop) (i : Nat) (env : Env) (s : Option Sl) (r q : MV) (cs : Cells) : Prop := match r, q, s with
  | .d y, .d k, some (.ot kvs) => ((nkD k).isSome = true ∧ kvs.length + 1 ≤ sizeLine) ∧ O (.nx, env.set i (.ot (putT kvs k y)), cs)
  | _, _, _ => False
theorem dputQ_o {kvs : List (PyData × PyData)} {y k : PyData} : dputQ O i env (some (.ot kvs)) (.d y) (.d k) cs = (((nkD k).isSome = true ∧ kvs.length + 1 ≤ sizeLine) ∧ O (.nx, env.set i (.ot (putT kvs k y)), cs)) := nr rfl
theorem ok_dput : Ok (evS C (.dput i a e) env cs) O = Ok (evE C e env cs) fun r => Ok (evE C a env r.2) fun q => dputQ O i env env[i]? r.1 q.1 q.2 := by
  simp only [evS, ok_bind]
  congr
  funext r
  congr
  funext q
  obtain ⟨x, _⟩ := r
  obtain ⟨y, cs⟩ := q
  generalize env[i]? = o
  cases x with
  | d y1 =>
    cases y with
    | d k =>
      cases o with
      | none => with_unfolding_all rfl
      | some s =>
        cases s with
        | ot kvs =>
          simp only [dputQ]
          show Ok (if ((nkD k).isSome && lenOk (kvs.length + 1)) = true then _ else _) O = _
          by_cases h : (nkD k).isSome = true ∧ kvs.length + 1 ≤ sizeLine
          · rw [if_pos (by simp only [lenOk, Bool.and_eq_true, decide_eq_true_eq]; exact h), ok_ok]
            exact propext ⟨fun z => ⟨h, z⟩, fun z => z.2⟩
          · rw [if_neg (by simp only [lenOk, Bool.and_eq_true, decide_eq_true_eq]; exact h), ok_no]
            exact propext ⟨fun z => z.elim, fun z => absurd z.1 h⟩
        | _ => with_unfolding_all rfl
    | _ => cases o <;> with_unfolding_all rfl
  | _ => cases o <;> with_unfolding_all rfl
def dsdQ (O : Out → Prop) (i : Nat) (env : Env) (s : Option Sl) (q r : MV) (cs : Cells) : Prop := match q, r, s with
  | .d k, .d y, some (.ot kvs) => ((nkD k).isSome = true ∧ kvs.length + 1 ≤ sizeLine) ∧ O (.nx, env.set i (.ot (if (lookT kvs k).isSome = true then kvs else putT kvs k y)), cs)
  | _, _, _ => False
theorem dsdQ_o {kvs : List (PyData × PyData)} {y k : PyData} : dsdQ O i env (some (.ot kvs)) (.d k) (.d y) cs = (((nkD k).isSome = true ∧ kvs.length + 1 ≤ sizeLine) ∧ O (.nx, env.set i (.ot (if (lookT kvs k).isSome = true then kvs else putT kvs k y)), cs)) := nr rfl
theorem ok_dsd : Ok (evS C (.dsd i a e) env cs) O = Ok (evE C a env cs) fun q => Ok (evE C e env q.2) fun r => dsdQ O i env env[i]? q.1 r.1 r.2 := by
  simp only [evS, ok_bind]
  congr
  funext q
  congr
  funext r
  obtain ⟨x, _⟩ := q
  obtain ⟨y, cs⟩ := r
  generalize env[i]? = o
  cases x with
  | d k =>
    cases y with
    | d y1 =>
      cases o with
      | none => with_unfolding_all rfl
      | some s =>
        cases s with
        | ot kvs =>
          simp only [dsdQ]
          show Ok (if ((nkD k).isSome && lenOk (kvs.length + 1)) = true then _ else _) O = _
          by_cases h : (nkD k).isSome = true ∧ kvs.length + 1 ≤ sizeLine
          · rw [if_pos (by simp only [lenOk, Bool.and_eq_true, decide_eq_true_eq]; exact h), ok_ok]
            exact propext ⟨fun z => ⟨h, z⟩, fun z => z.2⟩
          · rw [if_neg (by simp only [lenOk, Bool.and_eq_true, decide_eq_true_eq]; exact h), ok_no]
            exact propext ⟨fun z => z.elim, fun z => absurd z.1 h⟩
        | _ => with_unfolding_all rfl
    | _ => cases o <;> with_unfolding_all rfl
  | _ => cases o <;> with_unfolding_all rfl
end
end R

/-! R: plain rules for dicts whose keys are texts -/
namespace R
open PySem
theorem p_dictK {xs : List PyData} : primF .dictK [.d (.list xs)] = dictKD xs := nr rfl
theorem p_sortK {kvs : List (L2.Key × PyData)} : primF .sortK [.k kvs] = (match txK kvs with
      | some ks => if ks.length < 64 then .ok (.d (.list ((sortS ks).map .str))) else .no
      | none => .no) := nr rfl
theorem p_ninK {kvs : List (L2.Key × PyData)} {z : Str} : primF .ninK [.d (.str z), .k kvs] = .ok (.d (.bool (!(lookK kvs (.inr z)).isSome))) := nr rfl
theorem p_getK {kvs : List (L2.Key × PyData)} {z : Str} {y : PyData} : primF .getK [.k kvs, .d (.str z), .d y] = .ok (.d ((lookK kvs (.inr z)).getD y)) := nr rfl
theorem p_sum1 {xs : List PyData} : primF .sum1 [.d (.list xs)] = (match intsD xs with
      | some ns => .ok (.d (.int ns.sum))
      | none => .no) := nr rfl
theorem p_lenSet {xs : List PyData} : primF .lenSet [.d (.tuple xs)] = (match strsD xs with
      | some ks => if ks.length ≤ 60 ∧ ks.Nodup then .ok (.d (.int ks.length)) else .no
      | none => .no) := nr rfl
section
variable {C : Cxt} {i : Nat} {a e ke ve : E} {env : Env} {cs : Cells} {O : Out → Prop} {Q : MV × Cells → Prop} {t : TG} {sr : SR}
def kputQ (O : Out → Prop) (i : Nat) (env : Env) (s : Option Sl) (r q : MV) (cs : Cells) : Prop := match r, q, s with
  | .d y, .d x, some (.ok kvs) => (match keyD x with
    | some k => kvs.length + 1 ≤ sizeLine ∧ O (.nx, env.set i (.ok (putD kvs k y)), cs)
    | none => False)
  | _, _, _ => False
theorem kputQ_o {kvs : List (L2.Key × PyData)} {y : PyData} {z : Str} : kputQ O i env (some (.ok kvs)) (.d y) (.d (.str z)) cs = (kvs.length + 1 ≤ sizeLine ∧ O (.nx, env.set i (.ok (putD kvs (.inr z) y)), cs)) := nr rfl
theorem ok_kput : Ok (evS C (.kput i a e) env cs) O = Ok (evE C e env cs) fun r => Ok (evE C a env r.2) fun q => kputQ O i env env[i]? r.1 q.1 q.2 := by
  simp only [evS, ok_bind]
  congr
  funext r
  congr
  funext q
  obtain ⟨x, _⟩ := r
  obtain ⟨y, _⟩ := q
  generalize env[i]? = o
  cases x with
  | d x => cases y with
    | d y => cases o with
      | some s => cases s with
        | ok kvs =>
          unfold kputQ
          cases hk : keyD y with
          | none => simp only [hk]; exact ok_no
          | some k =>
            simp only [hk]
            by_cases hl : lenOk (kvs.length + 1) = true
            · rw [if_pos hl, ok_ok]
              have : kvs.length + 1 ≤ sizeLine := of_decide_eq_true hl
              exact (eq_true this ▸ (true_and _).symm)
            · rw [if_neg hl, ok_no]
              have : ¬ kvs.length + 1 ≤ sizeLine := fun z => hl (decide_eq_true z)
              exact (eq_false fun z => this z.1).symm
        | _ => exact ok_no
      | none => exact ok_no
    | _ => exact ok_no
  | _ => exact ok_no
def dspQ (Q : MV × Cells → Prop) (u w : MV) (cs : Cells) : Prop := match u, w with
  | .d y, .d z => (match keyD y with
    | some k => Q (.k [(k, z)], cs)
    | none => False)
  | _, _ => False
theorem dspQ_d {z : Str} {d : PyData} : dspQ Q (.d (.str z)) (.d d) cs = Q (.k [(.inr z, d)], cs) := nr rfl
theorem ok_disp : Ok (evE C (.disp ke ve) env cs) Q = Ok (evE C ke env cs) fun u => Ok (evE C ve env u.2) fun w => dspQ Q u.1 w.1 w.2 := by
  simp only [evE, ok_bind]
  congr
  funext u
  congr
  funext w
  obtain ⟨x, _⟩ := u
  obtain ⟨y, _⟩ := w
  cases x with
  | d x => cases y with
    | d y =>
      unfold dspQ
      cases hk : keyD x with
      | none => simp only [hk]; exact ok_no
      | some k => simp only [hk]; exact ok_ok
    | _ => exact ok_no
  | _ => exact ok_no
/-- one item of a dict comprehension -/
def dstep (C : Cxt) (env : Env) (vs : List (Str × Nat)) (tg : TG) (cnd : Es) (ke ve : E) : PyData → Cells → Res (Option (L2.Key × PyData) × Cells) := fun x cs =>
  (asgT tg (.d x) (wipeE env (vs.map (·.2)))).bind fun env' => (evT C cnd env' cs).bind fun q => if q.1 = true then (evE C ke env' q.2).bind fun u => (evE C ve env' u.2).bind fun w => (match u.1, w.1 with
        | .d y, .d z => (match keyD y with
          | some k => .ok (some (k, z), w.2)
          | none => .no)
        | _, _ => .no) else .ok (none, q.2)
theorem ok_dcomp {vs : List (Str × Nat)} {cnd : Es} : Ok (evE C (.dcomp vs t sr cnd ke ve) env cs) Q = Ok (evSR C sr env cs) fun r => Ok (dcL (dstep C env vs t cnd ke ve) r.1 [] r.2) fun q => Q (.k q.1, q.2) := by
  simp only [evE, ok_bind]
  with_unfolding_all rfl
def ditQ (Q : Option (L2.Key × PyData) × Cells → Prop) (u w : MV) (cs : Cells) : Prop := match u, w with
  | .d y, .d z => (match keyD y with
    | some k => Q (some (k, z), cs)
    | none => False)
  | _, _ => False
theorem ditQ_d {Q : Option (L2.Key × PyData) × Cells → Prop} {z : Str} {d : PyData} : ditQ Q (.d (.str z)) (.d d) cs = Q (some (.inr z, d), cs) := nr rfl
theorem ok_dstep {vs : List (Str × Nat)} {cnd : Es} {y : PyData} {Q : Option (L2.Key × PyData) × Cells → Prop} : Ok (dstep C env vs t cnd ke ve y cs) Q = Ok (asgT t (.d y) (wipeE env (vs.map (·.2)))) fun env' => Ok (evT C cnd env' cs) fun q => if q.1 = true then Ok (evE C ke env' q.2) (fun u => Ok (evE C ve env' u.2) fun w => ditQ Q u.1 w.1 w.2) else Q (none, q.2) := by
  unfold dstep
  simp only [ok_bind, ok_if, ok_ok]
  congr
  funext env'
  congr
  funext q
  split
  · congr
    funext u
    congr
    funext w
    obtain ⟨x, _⟩ := u
    obtain ⟨y, _⟩ := w
    cases x with
    | d x => cases y with
      | d y =>
        unfold ditQ
        cases hk : keyD x with
        | none => simp only [hk]; exact ok_no
        | some k => simp only [hk]; exact ok_ok
      | _ => exact ok_no
    | _ => exact ok_no
  · rfl
theorem dcL_E {α : Type} {step : PyData → Cells → Res (Option (L2.Key × PyData) × Cells)} {cs : Cells} (enc : α → PyData) (f : α → L2.Key × PyData) : ∀ (xs : List α) (acc : List (L2.Key × PyData)), (∀ x ∈ xs, step (enc x) cs = .ok (some (f x), cs)) → acc.length + xs.length ≤ sizeLine → dcL step (xs.map enc) acc cs = .ok (mergeD acc (xs.map f), cs)
  | [], acc, _, _ => rfl
  | x :: xs, acc, h, hl => by
    rw [List.length_cons] at hl
    rw [List.map_cons, dcL, h x List.mem_cons_self, Res.bind_ok]
    show (if lenOk (acc.length + 1) = true then dcL step (xs.map enc) (putD acc (f x).1 (f x).2) cs else .no) = _
    rw [if_pos (show lenOk (acc.length + 1) = true from decide_eq_true (by omega)), dcL_E enc f xs _ (fun y hy => h y (List.mem_cons_of_mem _ hy)) (by
      have : (putD acc (f x).1 (f x).2).length ≤ acc.length + 1 := by
        unfold putD
        split
        · rw [List.length_map]; omega
        · rw [List.length_append, List.length_cons, List.length_nil]; omega
      omega)]
    rfl
theorem ok_dcE {α : Type} {step : PyData → Cells → Res (Option (L2.Key × PyData) × Cells)} {cs : Cells} {Q : List (L2.Key × PyData) × Cells → Prop} (enc : α → PyData) (f : α → L2.Key × PyData) (xs : List α) (h : ∀ x ∈ xs, ∀ T : Option (L2.Key × PyData) × Cells → Prop, T (some (f x), cs) → Ok (step (enc x) cs) T) (hl : xs.length ≤ sizeLine) (q : Q (mergeD [] (xs.map f), cs)) :
    Ok (dcL step (xs.map enc) [] cs) Q := by
  refine Ok.of (dcL_E enc f xs [] (fun x hx => ?_) (by simpa using hl)) q
  obtain ⟨a, e, rfl⟩ := (h x hx (fun a => a = (some (f x), cs)) rfl).ex
  exact e
theorem ok_parT {is : List Nat} {es : Es} : Ok (evS C (.parT is es) env cs) O = Ok (evEs C es env cs) fun r => (is.length = r.1.length ∧ is.length ≤ 100) ∧ O (.nx, setAllM is r.1 env, r.2) := by
  simp only [evS, ok_bind]
  congr
  funext r
  by_cases h : is.length = r.1.length ∧ is.length ≤ 100
  · rw [if_pos (by simpa using h), ok_ok]
    exact (eq_true h ▸ (true_and _).symm)
  · rw [if_neg (by simpa using h), ok_no]
    exact (eq_false fun z => h z.1).symm
/-- for t in d[l.pop()][c] -/
def fpQ (C : Cxt) (t : TG) (l : Nat) (c : Int) (b : Ss) (env : Env) (cs : Cells) (O : Out → Prop) (sl sd : Option Sl) : Prop := match sl, sd with
  | some (.ol xs), some (.v (.k kvs)) => (match xs.getLast? with
    | some y => (match (keyD y).bind (lookK kvs) with
      | some (.tuple zs) => (match L2.atI zs c with
        | some (.tuple ws) => Ok (loopL (lstep C t b) ws (env.set l (.ol xs.dropLast)) cs) O
        | _ => False)
      | _ => False)
    | none => False)
  | _, _ => False
theorem ok_forPop {d l : Nat} {c : Int} {b : Ss} : Ok (evS C (.forPop t d l c b) env cs) O = fpQ C t l c b env cs O env[l]? env[d]? := by
  simp only [evS]
  generalize env[l]? = sl
  generalize env[d]? = sd
  unfold fpQ
  split
  · rename_i xs kvs
    cases hg : xs.getLast? with
    | none => simp only [hg]; exact ok_no
    | some y =>
      simp only [hg]
      cases hk : (keyD y).bind (lookK kvs) with
      | none => simp only [hk]; exact ok_no
      | some z => cases z with
        | tuple zs =>
          simp only [hk]
          cases ha : L2.atI zs c with
          | none => simp only [ha]; exact ok_no
          | some w => cases w with
            | tuple ws => simp only [ha]; rfl
            | _ => simp only [ha]; exact ok_no
        | _ => simp only [hk]; exact ok_no
  · rename_i h
    first
      | exact ok_no
      | (split
         · rename_i xs kvs
           exact absurd rfl (h xs kvs rfl)
         · exact ok_no)
end
end R

namespace K15
open PySem R
def top (i : Nat) : Stmt := PySem.Challenge.pw_tablerail_k15_whole_more_points_no_longe.main.body.getD i (.Pass ⟨0, 0, 0, 0⟩)
abbrev i_table_of : Nat := 0
abbrev i_way : Nat := 1
abbrev i_reached : Nat := 2
abbrev i__law_draw : Nat := 3
abbrev i__law_any_order : Nat := 4
abbrev i__law_plan : Nat := 5
abbrev i__law_blocks : Nat := 6
abbrev i_law : Nat := 7
def s_table_of_0 : R.S := (.ret (.dcomp [("name", 1), ("ticks", 2), ("following", 3)] (.t [1, 2, 3]) (.seq (.var 0)) .nil (.var 1) (.prim .tup (.cons (.var 2) (.cons (.var 3) .nil)))))
def b_table_of : R.Ss := (.cons s_table_of_0 .nil)
def s_way_0 : R.S := (.asg (.n 3) (.call i_table_of (.cons (.var 0) .nil)))
def s_way_1 : R.S := (.own 4 (.disp (.var 1) (.prim .tup (.cons (.k (.int 0)) (.cons (.prim .tup (.cons (.var 1) .nil)) .nil)))))
def s_way_2 : R.S := (.own 5 (.prim .lst (.cons (.var 1) .nil)))
def s_way_3_0 : R.S := (.asg (.n 6) (.prim .idx (.cons (.own 5) (.cons (.k (.int 0)) .nil))))
def s_way_3_1 : R.S := (.own 5 (.prim .sl10 (.cons (.own 5) (.cons (.k (.int 1)) .nil))))
def s_way_3_2_0 : R.S := (.asg (.n 8) (.prim .tup (.cons (.prim .add (.cons (.prim .idx (.cons (.dix (.own 4) (.var 6)) (.cons (.k (.int 0)) .nil))) (.cons (.prim .idx (.cons (.dix (.var 3) (.var 6)) (.cons (.k (.int 0)) .nil))) .nil))) (.cons (.prim .add (.cons (.prim .idx (.cons (.dix (.own 4) (.var 6)) (.cons (.k (.int 1)) .nil))) (.cons (.prim .tup (.cons (.var 7) .nil)) .nil))) .nil))))
def s_way_3_2_1t_0 : R.S := (.kput 4 (.var 7) (.var 8))
def s_way_3_2_1t_1 : R.S := (.app 5 (.var 7))
def b_way_3_2_1t : R.Ss := (.cons s_way_3_2_1t_0 (.cons s_way_3_2_1t_1 .nil))
def b_way_3_2_1e : R.Ss := .nil
def s_way_3_2_1 : R.S := (.ite (.or (.prim .ninK (.cons (.var 7) (.cons (.own 4) .nil))) (.prim (.cmp .lt) (.cons (.var 8) (.cons (.dix (.own 4) (.var 7)) .nil)))) b_way_3_2_1t b_way_3_2_1e)
def b_way_3_2 : R.Ss := (.cons s_way_3_2_0 (.cons s_way_3_2_1 .nil))
def s_way_3_2 : R.S := (.forr (.n 7) (.seq (.prim .idx (.cons (.dix (.var 3) (.var 6)) (.cons (.k (.int 1)) .nil)))) b_way_3_2)
def b_way_3 : R.Ss := (.cons s_way_3_0 (.cons s_way_3_1 (.cons s_way_3_2 .nil)))
def s_way_3 : R.S := (.whil (.prim (.cmp .ne) (.cons (.own 5) (.cons (.prim .lst .nil) .nil))) b_way_3)
def s_way_4 : R.S := (.ret (.prim .getK (.cons (.var 4) (.cons (.var 2) (.cons (.k .non) .nil)))))
def b_way : R.Ss := (.cons s_way_0 (.cons s_way_1 (.cons s_way_2 (.cons s_way_3 (.cons (.frz 4) (.cons (.frz 5) (.cons s_way_4 .nil)))))))
def s_reached_0 : R.S := (.asg (.n 2) (.call i_table_of (.cons (.var 0) .nil)))
def s_reached_1 : R.S := (.own 3 (.disp (.var 1) (.k (.bl true))))
def s_reached_2 : R.S := (.own 4 (.prim .lst (.cons (.var 1) .nil)))
def s_reached_3_0_0t_0 : R.S := (.kput 3 (.var 5) (.k (.bl true)))
def s_reached_3_0_0t_1 : R.S := (.app 4 (.var 5))
def b_reached_3_0_0t : R.Ss := (.cons s_reached_3_0_0t_0 (.cons s_reached_3_0_0t_1 .nil))
def b_reached_3_0_0e : R.Ss := .nil
def s_reached_3_0_0 : R.S := (.ite (.prim .ninK (.cons (.var 5) (.cons (.own 3) .nil))) b_reached_3_0_0t b_reached_3_0_0e)
def b_reached_3_0 : R.Ss := (.cons s_reached_3_0_0 .nil)
def s_reached_3_0 : R.S := (.forPop (.n 5) 2 4 1 b_reached_3_0)
def b_reached_3 : R.Ss := (.cons s_reached_3_0 .nil)
def s_reached_3 : R.S := (.whil (.prim (.cmp .ne) (.cons (.own 4) (.cons (.prim .lst .nil) .nil))) b_reached_3)
def s_reached_4 : R.S := (.ret (.prim .sortK (.cons (.var 3) .nil)))
def b_reached : R.Ss := (.cons s_reached_0 (.cons s_reached_1 (.cons s_reached_2 (.cons s_reached_3 (.cons (.frz 3) (.cons (.frz 4) (.cons s_reached_4 .nil)))))))
def s__law_draw_0 : R.S := (.asg (.n 2) (.k (.int 2305843009213693951)))
def s__law_draw_1t_0 : R.S := (.asg (.n 3) (.k (.int 0)))
def s__law_draw_1t_1t_0 : R.S := (.asg (.n 3) (.prim .idx (.cons (.cidx (.var 0) (.k (.int 0))) (.cons (.prim .mod (.cons (.cidx (.var 0) (.k (.int 1))) (.cons (.prim .len (.cons (.cidx (.var 0) (.k (.int 0))) .nil)) .nil))) .nil))))
def b__law_draw_1t_1t : R.Ss := (.cons s__law_draw_1t_1t_0 .nil)
def b__law_draw_1t_1e : R.Ss := .nil
def s__law_draw_1t_1 : R.S := (.ite (.prim (.cmp .gt) (.cons (.prim .len (.cons (.cidx (.var 0) (.k (.int 0))) .nil)) (.cons (.k (.int 0)) .nil))) b__law_draw_1t_1t b__law_draw_1t_1e)
def s__law_draw_1t_2t_0 : R.S := (.asg (.n 3) (.prim .mod (.cons (.prim .add (.cons (.var 3) (.cons (.prim .mul (.cons (.k (.int 1000003)) (.cons (.cidx (.var 0) (.k (.int 1))) .nil))) .nil))) (.cons (.var 2) .nil))))
def s__law_draw_1t_2t_1 : R.S := (.asg (.n 3) (.prim .mod (.cons (.prim .add (.cons (.prim .add (.cons (.prim .mul (.cons (.var 3) (.cons (.var 3) .nil))) (.cons (.prim .mul (.cons (.k (.int 1181783497276652981)) (.cons (.var 3) .nil))) .nil))) (.cons (.k (.int 2049848353892358983)) .nil))) (.cons (.var 2) .nil))))
def s__law_draw_1t_2t_2 : R.S := (.asg (.n 3) (.prim .mod (.cons (.prim .add (.cons (.prim .mul (.cons (.var 3) (.cons (.var 3) .nil))) (.cons (.k (.int 1442695040888963407)) .nil))) (.cons (.var 2) .nil))))
def b__law_draw_1t_2t : R.Ss := (.cons s__law_draw_1t_2t_0 (.cons s__law_draw_1t_2t_1 (.cons s__law_draw_1t_2t_2 .nil)))
def b__law_draw_1t_2e : R.Ss := .nil
def s__law_draw_1t_2 : R.S := (.ite (.or (.prim (.cmp .ge) (.cons (.cidx (.var 0) (.k (.int 1))) (.cons (.prim .len (.cons (.cidx (.var 0) (.k (.int 0))) .nil)) .nil))) (.prim (.cmp .lt) (.cons (.var 3) (.cons (.prim .pow (.cons (.k (.int 10)) (.cons (.k (.int 18)) .nil))) .nil)))) b__law_draw_1t_2t b__law_draw_1t_2e)
def s__law_draw_1t_3 : R.S := (.cset (.var 0) (.k (.int 1)) (.prim .add (.cons (.cidx (.var 0) (.k (.int 1))) (.cons (.k (.int 1)) .nil))))
def s__law_draw_1t_4 : R.S := (.cset (.var 0) (.k (.int 2)) (.var 3))
def b__law_draw_1t : R.Ss := (.cons s__law_draw_1t_0 (.cons s__law_draw_1t_1 (.cons s__law_draw_1t_2 (.cons s__law_draw_1t_3 (.cons s__law_draw_1t_4 .nil)))))
def b__law_draw_1e : R.Ss := .nil
def s__law_draw_1 : R.S := (.ite (.prim (.cmp .lt) (.cons (.cidx (.var 0) (.k (.int 2))) (.cons (.var 1) .nil))) b__law_draw_1t b__law_draw_1e)
def s__law_draw_2 : R.S := (.asg (.n 4) (.prim .mod (.cons (.cidx (.var 0) (.k (.int 2))) (.cons (.var 1) .nil))))
def s__law_draw_3 : R.S := (.cset (.var 0) (.k (.int 2)) (.prim .fdiv (.cons (.cidx (.var 0) (.k (.int 2))) (.cons (.var 1) .nil))))
def s__law_draw_4 : R.S := (.ret (.var 4))
def b__law_draw : R.Ss := (.cons s__law_draw_0 (.cons s__law_draw_1 (.cons s__law_draw_2 (.cons s__law_draw_3 (.cons s__law_draw_4 .nil)))))
def s__law_any_order_0 : R.S := (.own 2 (.prim .lst .nil))
def s__law_any_order_1_0 : R.S := (.ins 2 (.call i__law_draw (.cons (.var 0) (.cons (.prim .add (.cons (.var 3) (.cons (.k (.int 1)) .nil))) .nil))) (.var 3))
def b__law_any_order_1 : R.Ss := (.cons s__law_any_order_1_0 .nil)
def s__law_any_order_1 : R.S := (.forr (.n 3) (.rng (.var 1)) b__law_any_order_1)
def s__law_any_order_2 : R.S := (.ret (.prim .tupleOf (.cons (.var 2) .nil)))
def b__law_any_order : R.Ss := (.cons s__law_any_order_0 (.cons s__law_any_order_1 (.cons (.frz 2) (.cons s__law_any_order_2 .nil))))
def s__law_plan_0 : R.S := (.asg (.n 2) (.prim .sl01 (.cons (.prim .lst (.cons (.k (.str "a")) (.cons (.k (.str "b")) (.cons (.k (.str "c")) (.cons (.k (.str "dd")) (.cons (.k (.str "e")) (.cons (.k (.str "f")) (.cons (.k (.str "g")) (.cons (.k (.str "h")) (.cons (.k (.str "ii")) (.cons (.k (.str "zzzzzzzz")) .nil))))))))))) (.cons (.prim .add (.cons (.k (.int 1)) (.cons (.call i__law_draw (.cons (.var 0) (.cons (.var 1) .nil))) .nil))) .nil))))
def s__law_plan_1 : R.S := (.asg (.n 3) (.call i__law_any_order (.cons (.var 0) (.cons (.prim .len (.cons (.var 2) .nil)) .nil))))
def s__law_plan_2 : R.S := (.own 4 (.prim .lst .nil))
def s__law_plan_3_0 : R.S := (.asg (.n 6) (.prim .idx (.cons (.var 2) (.cons (.prim .idx (.cons (.var 3) (.cons (.var 5) .nil))) .nil))))
def s__law_plan_3_1 : R.S := (.asg (.n 7) (.prim .idx (.cons (.var 2) (.cons (.prim .idx (.cons (.var 3) (.cons (.prim .mod (.cons (.prim .add (.cons (.var 5) (.cons (.k (.int 1)) .nil))) (.cons (.prim .len (.cons (.var 2) .nil)) .nil))) .nil))) .nil))))
def s__law_plan_3_2t_0 : R.S := (.asg (.n 7) (.prim .idx (.cons (.var 2) (.cons (.call i__law_draw (.cons (.var 0) (.cons (.prim .len (.cons (.var 2) .nil)) .nil))) .nil))))
def b__law_plan_3_2t : R.Ss := (.cons s__law_plan_3_2t_0 .nil)
def b__law_plan_3_2e : R.Ss := .nil
def s__law_plan_3_2 : R.S := (.ite (.prim (.cmp .eq) (.cons (.call i__law_draw (.cons (.var 0) (.cons (.k (.int 6)) .nil))) (.cons (.k (.int 0)) .nil))) b__law_plan_3_2t b__law_plan_3_2e)
def s__law_plan_3_3 : R.S := (.asg (.n 8) (.prim .idx (.cons (.var 2) (.cons (.call i__law_draw (.cons (.var 0) (.cons (.prim .len (.cons (.var 2) .nil)) .nil))) .nil))))
def s__law_plan_3_4 : R.S := (.asg (.n 9) (.ite (.and (.prim (.cmp .ne) (.cons (.var 8) (.cons (.var 7) .nil))) (.prim (.cmp .eq) (.cons (.call i__law_draw (.cons (.var 0) (.cons (.k (.int 2)) .nil))) (.cons (.k (.int 0)) .nil)))) (.prim .tup (.cons (.var 7) (.cons (.var 8) .nil))) (.prim .tup (.cons (.var 7) .nil))))
def s__law_plan_3_5 : R.S := (.app 4 (.prim .tup (.cons (.var 6) (.cons (.prim .idx (.cons (.prim .lst (.cons (.k (.int 1)) (.cons (.k (.int 3)) (.cons (.k (.int 20)) (.cons (.prim .add (.cons (.k (.int 1)) (.cons (.call i__law_draw (.cons (.var 0) (.cons (.k (.int 20)) .nil))) .nil))) .nil))))) (.cons (.call i__law_draw (.cons (.var 0) (.cons (.k (.int 4)) .nil))) .nil))) (.cons (.var 9) .nil)))))
def b__law_plan_3 : R.Ss := (.cons s__law_plan_3_0 (.cons s__law_plan_3_1 (.cons s__law_plan_3_2 (.cons s__law_plan_3_3 (.cons s__law_plan_3_4 (.cons s__law_plan_3_5 .nil))))))
def s__law_plan_3 : R.S := (.forr (.n 5) (.rng (.prim .len (.cons (.var 2) .nil))) b__law_plan_3)
def s__law_plan_4 : R.S := (.ret (.prim .tupleOf (.cons (.prim .sorted1 (.cons (.var 4) .nil)) .nil)))
def b__law_plan : R.Ss := (.cons s__law_plan_0 (.cons s__law_plan_1 (.cons s__law_plan_2 (.cons s__law_plan_3 (.cons (.frz 4) (.cons s__law_plan_4 .nil))))))
def s__law_blocks_0 : R.S := (.ret (.prim .dictK (.cons (.comp [("name", 1), ("ticks", 2), ("following", 3)] (.t [1, 2, 3]) (.seq (.var 0)) .nil (.prim .tup (.cons (.var 1) (.cons (.prim .tup (.cons (.var 2) (.cons (.var 3) .nil))) .nil)))) .nil)))
def b__law_blocks : R.Ss := (.cons s__law_blocks_0 .nil)
def s_law_0 : R.S := (.newc 1 (.prim .lst (.cons (.prim .listOf (.cons (.var 0) .nil)) (.cons (.k (.int 0)) (.cons (.k (.int 0)) .nil)))))
def s_law_1_0 : R.S := (.asg (.n 3) (.call i__law_plan (.cons (.var 1) (.cons (.k (.int 9)) .nil))))
def s_law_1_1 : R.S := (.parT [4, 5] (.cons (.call i__law_blocks (.cons (.var 3) .nil)) (.cons (.comp [("row", 11)] (.n 11) (.seq (.var 3)) .nil (.prim .idx (.cons (.var 11) (.cons (.k (.int 0)) .nil)))) .nil)))
def s_law_1_2 : R.S := (.par [(false, 6), (false, 7)] (.cons (.call i__law_draw (.cons (.var 1) (.cons (.prim .len (.cons (.var 3) .nil)) .nil))) (.cons (.prim .idx (.cons (.var 5) (.cons (.call i__law_draw (.cons (.var 1) (.cons (.prim .len (.cons (.var 5) .nil)) .nil))) .nil))) .nil)))
def s_law_1_3 : R.S := (.asg (.t [8, 9, 10]) (.prim .idx (.cons (.var 3) (.cons (.var 6) .nil))))
def s_law_1_4 : R.S := (.asg (.n 11) (.prim .tup (.cons (.var 8) (.cons (.var 9) (.cons (.var 10) .nil)))))
def s_law_1_5t_0 : R.S := (.asg (.n 11) (.prim .tup (.cons (.var 8) (.cons (.var 9) (.cons (.prim .idx (.cons (.prim .lst (.cons (.prim .add (.cons (.var 10) (.cons (.prim .tup (.cons (.var 7) .nil)) .nil))) (.cons (.prim .add (.cons (.prim .tup (.cons (.var 7) .nil)) (.cons (.var 10) .nil))) .nil))) (.cons (.call i__law_draw (.cons (.var 1) (.cons (.k (.int 2)) .nil))) .nil))) .nil)))))
def b_law_1_5t : R.Ss := (.cons s_law_1_5t_0 .nil)
def b_law_1_5e : R.Ss := .nil
def s_law_1_5 : R.S := (.ite (.and (.prim (.cmp .eq) (.cons (.prim .len (.cons (.var 10) .nil)) (.cons (.k (.int 1)) .nil))) (.prim (.cmp .ne) (.cons (.var 7) (.cons (.prim .idx (.cons (.var 10) (.cons (.k (.int 0)) .nil))) .nil)))) b_law_1_5t b_law_1_5e)
def s_law_1_6 : R.S := (.asg (.n 12) (.prim .add (.cons (.prim .add (.cons (.prim .sl01 (.cons (.var 3) (.cons (.var 6) .nil))) (.cons (.prim .tup (.cons (.var 11) .nil)) .nil))) (.cons (.prim .sl10 (.cons (.var 3) (.cons (.prim .add (.cons (.var 6) (.cons (.k (.int 1)) .nil))) .nil))) .nil))))
def s_law_1_7 : R.S := (.asg (.n 11) (.prim .tup (.cons (.var 8) (.cons (.prim .min2 (.cons (.k (.int 20)) (.cons (.prim .add (.cons (.prim .add (.cons (.var 9) (.cons (.k (.int 1)) .nil))) (.cons (.call i__law_draw (.cons (.var 1) (.cons (.k (.int 9)) .nil))) .nil))) .nil))) (.cons (.var 10) .nil)))))
def s_law_1_8 : R.S := (.asg (.n 13) (.prim .add (.cons (.prim .add (.cons (.prim .sl01 (.cons (.var 3) (.cons (.var 6) .nil))) (.cons (.prim .tup (.cons (.var 11) .nil)) .nil))) (.cons (.prim .sl10 (.cons (.var 3) (.cons (.prim .add (.cons (.var 6) (.cons (.k (.int 1)) .nil))) .nil))) .nil))))
def s_law_1_9 : R.S := (.asg (.n 14) (.prim .idx (.cons (.var 5) (.cons (.call i__law_draw (.cons (.var 1) (.cons (.prim .len (.cons (.var 5) .nil)) .nil))) .nil))))
def s_law_1_10t_0 : R.S := (.ret (.k (.bl false)))
def b_law_1_10t : R.Ss := (.cons s_law_1_10t_0 .nil)
def b_law_1_10e : R.Ss := .nil
def s_law_1_10 : R.S := (.ite (.prim (.cmp .ne) (.cons (.comp [("block", 20)] (.n 20) (.seq (.call i_reached (.cons (.var 3) (.cons (.var 14) .nil)))) (.cons (.prim (.cmp .notin) (.cons (.var 20) (.cons (.call i_reached (.cons (.var 12) (.cons (.var 14) .nil))) .nil))) .nil) (.var 20)) (.cons (.prim .lst .nil) .nil))) b_law_1_10t b_law_1_10e)
def s_law_1_11t_0 : R.S := (.ret (.k (.bl false)))
def b_law_1_11t : R.Ss := (.cons s_law_1_11t_0 .nil)
def b_law_1_11e : R.Ss := .nil
def s_law_1_11 : R.S := (.ite (.prim (.cmp .ne) (.cons (.call i_reached (.cons (.var 13) (.cons (.var 14) .nil))) (.cons (.call i_reached (.cons (.var 3) (.cons (.var 14) .nil))) .nil))) b_law_1_11t b_law_1_11e)
def s_law_1_12_0 : R.S := (.asg (.t [16, 17]) (.call i_way (.cons (.var 3) (.cons (.var 14) (.cons (.var 15) .nil)))))
def s_law_1_12_1t_0 : R.S := (.ret (.k (.bl false)))
def b_law_1_12_1t : R.Ss := (.cons s_law_1_12_1t_0 .nil)
def b_law_1_12_1e : R.Ss := .nil
def s_law_1_12_1 : R.S := (.ite (.or (.prim (.cmp .gt) (.cons (.prim .idx (.cons (.call i_way (.cons (.var 12) (.cons (.var 14) (.cons (.var 15) .nil)))) (.cons (.k (.int 0)) .nil))) (.cons (.var 16) .nil))) (.prim (.cmp .lt) (.cons (.prim .idx (.cons (.call i_way (.cons (.var 13) (.cons (.var 14) (.cons (.var 15) .nil)))) (.cons (.k (.int 0)) .nil))) (.cons (.var 16) .nil)))) b_law_1_12_1t b_law_1_12_1e)
def s_law_1_12_2t_0 : R.S := (.ret (.k (.bl false)))
def b_law_1_12_2t : R.Ss := (.cons s_law_1_12_2t_0 .nil)
def b_law_1_12_2e : R.Ss := .nil
def s_law_1_12_2 : R.S := (.ite (.or (.prim (.cmp .ne) (.cons (.var 16) (.cons (.prim .sum1 (.cons (.comp [("block", 20)] (.n 20) (.seq (.prim .sl01 (.cons (.var 17) (.cons (.prim .neg (.cons (.k (.int 1)) .nil)) .nil)))) .nil (.prim .idx (.cons (.dix (.var 4) (.var 20)) (.cons (.k (.int 0)) .nil)))) .nil)) .nil))) (.prim (.cmp .ne) (.cons (.prim .lenSet (.cons (.var 17) .nil)) (.cons (.prim .len (.cons (.var 17) .nil)) .nil)))) b_law_1_12_2t b_law_1_12_2e)
def s_law_1_12_3_0t_0 : R.S := (.ret (.k (.bl false)))
def b_law_1_12_3_0t : R.Ss := (.cons s_law_1_12_3_0t_0 .nil)
def b_law_1_12_3_0e : R.Ss := .nil
def s_law_1_12_3_0 : R.S := (.ite (.prim (.cmp .notin) (.cons (.var 19) (.cons (.prim .idx (.cons (.dix (.var 4) (.var 18)) (.cons (.k (.int 1)) .nil))) .nil))) b_law_1_12_3_0t b_law_1_12_3_0e)
def b_law_1_12_3 : R.Ss := (.cons s_law_1_12_3_0 .nil)
def s_law_1_12_3 : R.S := (.forr (.t [18, 19]) (.zip (.var 17) (.prim .sl10 (.cons (.var 17) (.cons (.k (.int 1)) .nil)))) b_law_1_12_3)
def s_law_1_12_4t_0 : R.S := (.ret (.k (.bl false)))
def b_law_1_12_4t : R.Ss := (.cons s_law_1_12_4t_0 .nil)
def b_law_1_12_4e : R.Ss := .nil
def s_law_1_12_4 : R.S := (.ite (.and (.prim (.cmp .gt) (.cons (.prim .len (.cons (.var 17) .nil)) (.cons (.k (.int 1)) .nil))) (.prim (.cmp .ne) (.cons (.prim .idx (.cons (.call i_way (.cons (.var 3) (.cons (.var 14) (.cons (.prim .idx (.cons (.var 17) (.cons (.prim .neg (.cons (.k (.int 2)) .nil)) .nil))) .nil)))) (.cons (.k (.int 1)) .nil))) (.cons (.prim .sl01 (.cons (.var 17) (.cons (.prim .neg (.cons (.k (.int 1)) .nil)) .nil))) .nil)))) b_law_1_12_4t b_law_1_12_4e)
def b_law_1_12 : R.Ss := (.cons s_law_1_12_0 (.cons s_law_1_12_1 (.cons s_law_1_12_2 (.cons s_law_1_12_3 (.cons s_law_1_12_4 .nil)))))
def s_law_1_12 : R.S := (.forr (.n 15) (.seq (.call i_reached (.cons (.var 3) (.cons (.var 14) .nil)))) b_law_1_12)
def b_law_1 : R.Ss := (.cons s_law_1_0 (.cons s_law_1_1 (.cons s_law_1_2 (.cons s_law_1_3 (.cons s_law_1_4 (.cons s_law_1_5 (.cons s_law_1_6 (.cons s_law_1_7 (.cons s_law_1_8 (.cons s_law_1_9 (.cons s_law_1_10 (.cons s_law_1_11 (.cons s_law_1_12 .nil)))))))))))))
def s_law_1 : R.S := (.forr (.n 2) (.rng (.k (.int 3))) b_law_1)
def s_law_2 : R.S := (.ret (.k (.bl true)))
def b_law : R.Ss := (.cons s_law_0 (.cons s_law_1 (.cons s_law_2 .nil)))
def f_table_of : R.Fn := ⟨"table_of", top 1, ⟨["plan", "name", "ticks", "following"], 1, b_table_of⟩, true⟩
def f_way : R.Fn := ⟨"way", top 2, ⟨["plan", "one", "other", "blocks", "best", "left", "here", "there", "row"], 3, b_way⟩, true⟩
def f_reached : R.Fn := ⟨"reached", top 3, ⟨["plan", "name", "blocks", "found", "left", "there"], 2, b_reached⟩, true⟩
def f__law_draw : R.Fn := ⟨"_law_draw", top 5, ⟨["tape", "many", "prime", "cell", "found"], 2, b__law_draw⟩, true⟩
def f__law_any_order : R.Fn := ⟨"_law_any_order", top 6, ⟨["tape", "many", "found", "k"], 2, b__law_any_order⟩, true⟩
def f__law_plan : R.Fn := ⟨"_law_plan", top 7, ⟨["tape", "most", "names", "order", "found", "k", "name", "after", "other", "following"], 2, b__law_plan⟩, true⟩
def f__law_blocks : R.Fn := ⟨"_law_blocks", top 8, ⟨["plan", "name", "ticks", "following"], 1, b__law_blocks⟩, true⟩
def f_law : R.Fn := ⟨"law", top 9, ⟨["script", "tape", "turn", "plan", "blocks", "names", "at", "other", "name", "ticks", "following", "row", "more", "slow", "one", "there", "many", "blocks_so", "first", "second", "block"], 1, b_law⟩, true⟩
def fs : List R.Fn := [f_table_of, f_way, f_reached, f__law_draw, f__law_any_order, f__law_plan, f__law_blocks, f_law]
def bi : List Str := ["dict", "len", "list", "min", "range", "set", "sorted", "sum", "tuple", "zip"]
def gls : List Str := []
def kws : List R.KForm := []
def gl : R.Glo := ⟨[], kws⟩
theorem c_table_of : fnB (fs.map fnsOf) bi gls gl.kw f_table_of = true := by decide +kernel
theorem c_way : fnB (fs.map fnsOf) bi gls gl.kw f_way = true := by decide +kernel
theorem c_reached : fnB (fs.map fnsOf) bi gls gl.kw f_reached = true := by decide +kernel
theorem c__law_draw : fnB (fs.map fnsOf) bi gls gl.kw f__law_draw = true := by decide +kernel
theorem c__law_any_order : fnB (fs.map fnsOf) bi gls gl.kw f__law_any_order = true := by decide +kernel
theorem c__law_plan : fnB (fs.map fnsOf) bi gls gl.kw f__law_plan = true := by decide +kernel
theorem c__law_blocks : fnB (fs.map fnsOf) bi gls gl.kw f__law_blocks = true := by decide +kernel
theorem c_law : fnB (fs.map fnsOf) bi gls gl.kw f_law = true := by decide +kernel
theorem fs_ok : fs.all (fnB (fs.map fnsOf) bi gls gl.kw) = true := by
  unfold fs
  simp only [List.all_cons, List.all_nil, Bool.and_eq_true]
  exact ⟨c_table_of, c_way, c_reached, c__law_draw, c__law_any_order, c__law_plan, c__law_blocks, c_law, trivial⟩
def Ds : List R.Def := fs.map (·.D)
theorem u_table_of (gl : Glo) (W n : Nat) (v0 : MV) (cs : Cells) : R.run Ds gl W (n + 1) i_table_of [v0] cs = fin (evSs ⟨R.run Ds gl W n, gl, W⟩ b_table_of [.v v0, .no, .no, .no] cs) := rfl
theorem u_way (gl : Glo) (W n : Nat) (v0 v1 v2 : MV) (cs : Cells) : R.run Ds gl W (n + 1) i_way [v0, v1, v2] cs = fin (evSs ⟨R.run Ds gl W n, gl, W⟩ b_way [.v v0, .v v1, .v v2, .no, .no, .no, .no, .no, .no] cs) := rfl
theorem u_reached (gl : Glo) (W n : Nat) (v0 v1 : MV) (cs : Cells) : R.run Ds gl W (n + 1) i_reached [v0, v1] cs = fin (evSs ⟨R.run Ds gl W n, gl, W⟩ b_reached [.v v0, .v v1, .no, .no, .no, .no] cs) := rfl
theorem u__law_draw (gl : Glo) (W n : Nat) (v0 v1 : MV) (cs : Cells) : R.run Ds gl W (n + 1) i__law_draw [v0, v1] cs = fin (evSs ⟨R.run Ds gl W n, gl, W⟩ b__law_draw [.v v0, .v v1, .no, .no, .no] cs) := rfl
theorem u__law_any_order (gl : Glo) (W n : Nat) (v0 v1 : MV) (cs : Cells) : R.run Ds gl W (n + 1) i__law_any_order [v0, v1] cs = fin (evSs ⟨R.run Ds gl W n, gl, W⟩ b__law_any_order [.v v0, .v v1, .no, .no] cs) := rfl
theorem u__law_plan (gl : Glo) (W n : Nat) (v0 v1 : MV) (cs : Cells) : R.run Ds gl W (n + 1) i__law_plan [v0, v1] cs = fin (evSs ⟨R.run Ds gl W n, gl, W⟩ b__law_plan [.v v0, .v v1, .no, .no, .no, .no, .no, .no, .no, .no] cs) := rfl
theorem u__law_blocks (gl : Glo) (W n : Nat) (v0 : MV) (cs : Cells) : R.run Ds gl W (n + 1) i__law_blocks [v0] cs = fin (evSs ⟨R.run Ds gl W n, gl, W⟩ b__law_blocks [.v v0, .no, .no, .no] cs) := rfl
theorem u_law (gl : Glo) (W n : Nat) (v0 : MV) (cs : Cells) : R.run Ds gl W (n + 1) i_law [v0] cs = fin (evSs ⟨R.run Ds gl W n, gl, W⟩ b_law [.v v0, .no, .no, .no, .no, .no, .no, .no, .no, .no, .no, .no, .no, .no, .no, .no, .no, .no, .no, .no, .no] cs) := rfl
end K15

namespace K15
open PySem R
/-- the tape: the script, how often it was read, what is left of the last cell -/
def Tape (cs : Cells) : Prop := ∃ (ns : List Int) (k c : Int), cs = [.lst [.list (ns.map .int), .int k, .int c]]
theorem draw_ok {gl : Glo} {W n : Nat} {many : Int} {cs : Cells} {Q : MV × Cells → Prop} (h : Tape cs) (h0 : 0 < many) (h1 : many < 18446744073709551616) (q : ∀ r cs, 0 ≤ r → r < many → Tape cs → Q (.d (.int r), cs)) :
    Ok (R.run Ds gl W (n + 1) i__law_draw [.r 0, .d (.int many)] cs) Q := by
  obtain ⟨ns, k, c, rfl⟩ := h
  rw [u__law_draw, ok_fin]
  unfold b__law_draw
  have hl : many.natAbs.log2 < 9000 := Nat.lt_of_lt_of_le ((Nat.log2_lt (by omega)).mpr (show many.natAbs < 2 ^ 64 by omega)) (by decide)
  have rest : ∀ s3 s4 (ns : List Int) (k c : Int), Ok (evSs ⟨R.run Ds gl W n, gl, W⟩ (.cons s__law_draw_2 (.cons s__law_draw_3 (.cons s__law_draw_4 .nil))) [.v (.r 0), .v (.d (.int many)), .v (.d (.int 2305843009213693951)), s3, s4] [.lst [.list (ns.map .int), .int k, .int c]]) (onFin Q) := fun s3 s4 ns k c => by
    simp only [ok_asg, ok_par, ok_ownS, ok_newc, newQ_l, ok_cset, csetQ0, ok_app, appQ_o, ok_ins, insQ_o, ok_frz, frzQ_o, frzQ_v, ok_iteS, ok_for, ok_whil, ok_ret, ok_retN, ok_expr, ok_brk, ok_cont, ok_pass, ok_var, ok_own, ok_k, ok_glob, ok_gdk, gdkQ_s, ok_callK, kwQ_s, arF, Option.bind_some, Option.map_some, ok_dct, ok_dix, dixQ_k, tst_callK, ok_lset, lsetQ_o, p_rep, ok_prim, ok_and, ok_or, ok_not, ok_iteE, ok_chain, ok_call, ok_cidx, cidQ0, ok_comp, ok_esnil, ok_escons, ok_t0, ok_t1, ok_seq, seqQQ_l, seqQQ_t, seqQQ_s, ok_rng, ok_rng2, ok_zip, zipQ_l, zipQ_t, ok_enum, enumQ_l, p_sorted, eqD_pair, rngQ_i, ok_tand, ok_tor, ok_tnot, tst_var, tst_own, tst_k, tst_prim, tst_ite, tst_chain, tst_call, tst_cidx, ok_bind, ok_ok, ok_no, ok_guard, Res.bind_ok, eqD_int, eqD_bool, eqD_str, eqD_nil, eqD_none, konV, setAll, seqQ_nx, seqQ_rt, seqQ_bk, seqQ_ct, ok_cons, ok_nil, p_add, p_addL, p_addT, p_addS, p_sub, p_mul, p_fdiv, p_mod, p_pow, p_neg, p_eq, p_ne, p_lt, p_le, p_gt, p_ge, p_in, p_notin, p_isN, p_notN, p_isB, p_notB, p_idxL, p_idxT, p_lst0, p_lst1, p_lst2, p_lst3, p_lst4, p_lst5, p_lst6, p_lst7, p_tup0, p_tup1, p_tup2, p_tup3, p_tup4, p_tup5, p_lenL, p_lenT, p_listL, p_listT, p_tupleL, p_tupleT, p_abs, p_max2, p_min2, p_max4, p_intI, p_intB, p_isi, p_rev, p_revT, ok_popS, popQ_o, t_b, t_i, t_n, a_n, a_t, a_l, sM_t, sM_f, sA_0, sA_1, wE_0, wE_1, List.map_cons, List.map_nil, List.set_cons_zero, List.set_cons_succ, List.getElem?_cons_zero, List.getElem?_cons_succ, Nat.reduceAdd, at0, at1, at2, at3, at4, at5, at6, ix0, ix1, ix2, List.length_cons, List.length_nil, List.nil_append, decide_eq_true_eq, onFin_rt, onFin_nx, Bool.not_eq_true', decide_eq_false_iff_not, Int.reducePow, Int.reduceNeg, Int.reduceLT, Int.reduceLE, Nat.reduceLeDiff, Int.reduceToNat, Nat.reducePow, Int.reduceSub, Int.reduceAdd, Int.reduceMul, true_and, and_true, true_or, or_true, decide_true, and_self, if_true, if_false, Bool.false_eq_true, Bool.true_eq_false, reduceCtorEq, not_false_eq_true, not_true_eq_false, reduceIte, p_dictT, dixQ_t, p_sortT, p_ninT, p_dictP, p_tupP, p_dn, p_getT, ok_dput, dputQ_o, ok_dsd, dsdQ_o, frzQ_t, frzQ_k, sM_d, sM_k, ok_dcomp, ditQ_d, ok_disp, dspQ_d, ok_kput, kputQ_o, p_dictK, p_ninK, p_getK, ok_parT, s__law_draw_2]
    refine ⟨h0, ?_⟩
    simp only [ok_asg, ok_par, ok_ownS, ok_newc, newQ_l, ok_cset, csetQ0, ok_app, appQ_o, ok_ins, insQ_o, ok_frz, frzQ_o, frzQ_v, ok_iteS, ok_for, ok_whil, ok_ret, ok_retN, ok_expr, ok_brk, ok_cont, ok_pass, ok_var, ok_own, ok_k, ok_glob, ok_gdk, gdkQ_s, ok_callK, kwQ_s, arF, Option.bind_some, Option.map_some, ok_dct, ok_dix, dixQ_k, tst_callK, ok_lset, lsetQ_o, p_rep, ok_prim, ok_and, ok_or, ok_not, ok_iteE, ok_chain, ok_call, ok_cidx, cidQ0, ok_comp, ok_esnil, ok_escons, ok_t0, ok_t1, ok_seq, seqQQ_l, seqQQ_t, seqQQ_s, ok_rng, ok_rng2, ok_zip, zipQ_l, zipQ_t, ok_enum, enumQ_l, p_sorted, eqD_pair, rngQ_i, ok_tand, ok_tor, ok_tnot, tst_var, tst_own, tst_k, tst_prim, tst_ite, tst_chain, tst_call, tst_cidx, ok_bind, ok_ok, ok_no, ok_guard, Res.bind_ok, eqD_int, eqD_bool, eqD_str, eqD_nil, eqD_none, konV, setAll, seqQ_nx, seqQ_rt, seqQ_bk, seqQ_ct, ok_cons, ok_nil, p_add, p_addL, p_addT, p_addS, p_sub, p_mul, p_fdiv, p_mod, p_pow, p_neg, p_eq, p_ne, p_lt, p_le, p_gt, p_ge, p_in, p_notin, p_isN, p_notN, p_isB, p_notB, p_idxL, p_idxT, p_lst0, p_lst1, p_lst2, p_lst3, p_lst4, p_lst5, p_lst6, p_lst7, p_tup0, p_tup1, p_tup2, p_tup3, p_tup4, p_tup5, p_lenL, p_lenT, p_listL, p_listT, p_tupleL, p_tupleT, p_abs, p_max2, p_min2, p_max4, p_intI, p_intB, p_isi, p_rev, p_revT, ok_popS, popQ_o, t_b, t_i, t_n, a_n, a_t, a_l, sM_t, sM_f, sA_0, sA_1, wE_0, wE_1, List.map_cons, List.map_nil, List.set_cons_zero, List.set_cons_succ, List.getElem?_cons_zero, List.getElem?_cons_succ, Nat.reduceAdd, at0, at1, at2, at3, at4, at5, at6, ix0, ix1, ix2, List.length_cons, List.length_nil, List.nil_append, decide_eq_true_eq, onFin_rt, onFin_nx, Bool.not_eq_true', decide_eq_false_iff_not, Int.reducePow, Int.reduceNeg, Int.reduceLT, Int.reduceLE, Nat.reduceLeDiff, Int.reduceToNat, Nat.reducePow, Int.reduceSub, Int.reduceAdd, Int.reduceMul, true_and, and_true, true_or, or_true, decide_true, and_self, if_true, if_false, Bool.false_eq_true, Bool.true_eq_false, reduceCtorEq, not_false_eq_true, not_true_eq_false, reduceIte, p_dictT, dixQ_t, p_sortT, p_ninT, p_dictP, p_tupP, p_dn, p_getT, ok_dput, dputQ_o, ok_dsd, dsdQ_o, frzQ_t, frzQ_k, sM_d, sM_k, ok_dcomp, ditQ_d, ok_disp, dspQ_d, ok_kput, kputQ_o, p_dictK, p_ninK, p_getK, ok_parT, s__law_draw_3]
    refine ⟨⟨h0, hl⟩, ?_⟩
    simp only [ok_asg, ok_par, ok_ownS, ok_newc, newQ_l, ok_cset, csetQ0, ok_app, appQ_o, ok_ins, insQ_o, ok_frz, frzQ_o, frzQ_v, ok_iteS, ok_for, ok_whil, ok_ret, ok_retN, ok_expr, ok_brk, ok_cont, ok_pass, ok_var, ok_own, ok_k, ok_glob, ok_gdk, gdkQ_s, ok_callK, kwQ_s, arF, Option.bind_some, Option.map_some, ok_dct, ok_dix, dixQ_k, tst_callK, ok_lset, lsetQ_o, p_rep, ok_prim, ok_and, ok_or, ok_not, ok_iteE, ok_chain, ok_call, ok_cidx, cidQ0, ok_comp, ok_esnil, ok_escons, ok_t0, ok_t1, ok_seq, seqQQ_l, seqQQ_t, seqQQ_s, ok_rng, ok_rng2, ok_zip, zipQ_l, zipQ_t, ok_enum, enumQ_l, p_sorted, eqD_pair, rngQ_i, ok_tand, ok_tor, ok_tnot, tst_var, tst_own, tst_k, tst_prim, tst_ite, tst_chain, tst_call, tst_cidx, ok_bind, ok_ok, ok_no, ok_guard, Res.bind_ok, eqD_int, eqD_bool, eqD_str, eqD_nil, eqD_none, konV, setAll, seqQ_nx, seqQ_rt, seqQ_bk, seqQ_ct, ok_cons, ok_nil, p_add, p_addL, p_addT, p_addS, p_sub, p_mul, p_fdiv, p_mod, p_pow, p_neg, p_eq, p_ne, p_lt, p_le, p_gt, p_ge, p_in, p_notin, p_isN, p_notN, p_isB, p_notB, p_idxL, p_idxT, p_lst0, p_lst1, p_lst2, p_lst3, p_lst4, p_lst5, p_lst6, p_lst7, p_tup0, p_tup1, p_tup2, p_tup3, p_tup4, p_tup5, p_lenL, p_lenT, p_listL, p_listT, p_tupleL, p_tupleT, p_abs, p_max2, p_min2, p_max4, p_intI, p_intB, p_isi, p_rev, p_revT, ok_popS, popQ_o, t_b, t_i, t_n, a_n, a_t, a_l, sM_t, sM_f, sA_0, sA_1, wE_0, wE_1, List.map_cons, List.map_nil, List.set_cons_zero, List.set_cons_succ, List.getElem?_cons_zero, List.getElem?_cons_succ, Nat.reduceAdd, at0, at1, at2, at3, at4, at5, at6, ix0, ix1, ix2, List.length_cons, List.length_nil, List.nil_append, decide_eq_true_eq, onFin_rt, onFin_nx, Bool.not_eq_true', decide_eq_false_iff_not, Int.reducePow, Int.reduceNeg, Int.reduceLT, Int.reduceLE, Nat.reduceLeDiff, Int.reduceToNat, Nat.reducePow, Int.reduceSub, Int.reduceAdd, Int.reduceMul, true_and, and_true, true_or, or_true, decide_true, and_self, if_true, if_false, Bool.false_eq_true, Bool.true_eq_false, reduceCtorEq, not_false_eq_true, not_true_eq_false, reduceIte, p_dictT, dixQ_t, p_sortT, p_ninT, p_dictP, p_tupP, p_dn, p_getT, ok_dput, dputQ_o, ok_dsd, dsdQ_o, frzQ_t, frzQ_k, sM_d, sM_k, ok_dcomp, ditQ_d, ok_disp, dspQ_d, ok_kput, kputQ_o, p_dictK, p_ninK, p_getK, ok_parT, s__law_draw_4]
    exact q _ _ (Int.emod_nonneg _ (by omega)) (Int.emod_lt_of_pos _ h0) ⟨ns, k, _, rfl⟩
  have cut : ∀ (u : Int), Ok (evSs ⟨R.run Ds gl W n, gl, W⟩ (.cons s__law_draw_1t_3 (.cons s__law_draw_1t_4 .nil)) [.v (.r 0), .v (.d (.int many)), .v (.d (.int 2305843009213693951)), .v (.d (.int u)), .no] [.lst [.list (ns.map .int), .int k, .int c]])
      (seqQ ⟨R.run Ds gl W n, gl, W⟩ (.cons s__law_draw_2 (.cons s__law_draw_3 (.cons s__law_draw_4 .nil))) (onFin Q)) := fun u => by
    simp only [ok_asg, ok_par, ok_ownS, ok_newc, newQ_l, ok_cset, csetQ0, ok_app, appQ_o, ok_ins, insQ_o, ok_frz, frzQ_o, frzQ_v, ok_iteS, ok_for, ok_whil, ok_ret, ok_retN, ok_expr, ok_brk, ok_cont, ok_pass, ok_var, ok_own, ok_k, ok_glob, ok_gdk, gdkQ_s, ok_callK, kwQ_s, arF, Option.bind_some, Option.map_some, ok_dct, ok_dix, dixQ_k, tst_callK, ok_lset, lsetQ_o, p_rep, ok_prim, ok_and, ok_or, ok_not, ok_iteE, ok_chain, ok_call, ok_cidx, cidQ0, ok_comp, ok_esnil, ok_escons, ok_t0, ok_t1, ok_seq, seqQQ_l, seqQQ_t, seqQQ_s, ok_rng, ok_rng2, ok_zip, zipQ_l, zipQ_t, ok_enum, enumQ_l, p_sorted, eqD_pair, rngQ_i, ok_tand, ok_tor, ok_tnot, tst_var, tst_own, tst_k, tst_prim, tst_ite, tst_chain, tst_call, tst_cidx, ok_bind, ok_ok, ok_no, ok_guard, Res.bind_ok, eqD_int, eqD_bool, eqD_str, eqD_nil, eqD_none, konV, setAll, seqQ_nx, seqQ_rt, seqQ_bk, seqQ_ct, ok_cons, ok_nil, p_add, p_addL, p_addT, p_addS, p_sub, p_mul, p_fdiv, p_mod, p_pow, p_neg, p_eq, p_ne, p_lt, p_le, p_gt, p_ge, p_in, p_notin, p_isN, p_notN, p_isB, p_notB, p_idxL, p_idxT, p_lst0, p_lst1, p_lst2, p_lst3, p_lst4, p_lst5, p_lst6, p_lst7, p_tup0, p_tup1, p_tup2, p_tup3, p_tup4, p_tup5, p_lenL, p_lenT, p_listL, p_listT, p_tupleL, p_tupleT, p_abs, p_max2, p_min2, p_max4, p_intI, p_intB, p_isi, p_rev, p_revT, ok_popS, popQ_o, t_b, t_i, t_n, a_n, a_t, a_l, sM_t, sM_f, sA_0, sA_1, wE_0, wE_1, List.map_cons, List.map_nil, List.set_cons_zero, List.set_cons_succ, List.getElem?_cons_zero, List.getElem?_cons_succ, Nat.reduceAdd, at0, at1, at2, at3, at4, at5, at6, ix0, ix1, ix2, List.length_cons, List.length_nil, List.nil_append, decide_eq_true_eq, onFin_rt, onFin_nx, Bool.not_eq_true', decide_eq_false_iff_not, Int.reducePow, Int.reduceNeg, Int.reduceLT, Int.reduceLE, Nat.reduceLeDiff, Int.reduceToNat, Nat.reducePow, Int.reduceSub, Int.reduceAdd, Int.reduceMul, true_and, and_true, true_or, or_true, decide_true, and_self, if_true, if_false, Bool.false_eq_true, Bool.true_eq_false, reduceCtorEq, not_false_eq_true, not_true_eq_false, reduceIte, p_dictT, dixQ_t, p_sortT, p_ninT, p_dictP, p_tupP, p_dn, p_getT, ok_dput, dputQ_o, ok_dsd, dsdQ_o, frzQ_t, frzQ_k, sM_d, sM_k, ok_dcomp, ditQ_d, ok_disp, dspQ_d, ok_kput, kputQ_o, p_dictK, p_ninK, p_getK, ok_parT, s__law_draw_1t_3]
    simp only [ok_asg, ok_par, ok_ownS, ok_newc, newQ_l, ok_cset, csetQ0, ok_app, appQ_o, ok_ins, insQ_o, ok_frz, frzQ_o, frzQ_v, ok_iteS, ok_for, ok_whil, ok_ret, ok_retN, ok_expr, ok_brk, ok_cont, ok_pass, ok_var, ok_own, ok_k, ok_glob, ok_gdk, gdkQ_s, ok_callK, kwQ_s, arF, Option.bind_some, Option.map_some, ok_dct, ok_dix, dixQ_k, tst_callK, ok_lset, lsetQ_o, p_rep, ok_prim, ok_and, ok_or, ok_not, ok_iteE, ok_chain, ok_call, ok_cidx, cidQ0, ok_comp, ok_esnil, ok_escons, ok_t0, ok_t1, ok_seq, seqQQ_l, seqQQ_t, seqQQ_s, ok_rng, ok_rng2, ok_zip, zipQ_l, zipQ_t, ok_enum, enumQ_l, p_sorted, eqD_pair, rngQ_i, ok_tand, ok_tor, ok_tnot, tst_var, tst_own, tst_k, tst_prim, tst_ite, tst_chain, tst_call, tst_cidx, ok_bind, ok_ok, ok_no, ok_guard, Res.bind_ok, eqD_int, eqD_bool, eqD_str, eqD_nil, eqD_none, konV, setAll, seqQ_nx, seqQ_rt, seqQ_bk, seqQ_ct, ok_cons, ok_nil, p_add, p_addL, p_addT, p_addS, p_sub, p_mul, p_fdiv, p_mod, p_pow, p_neg, p_eq, p_ne, p_lt, p_le, p_gt, p_ge, p_in, p_notin, p_isN, p_notN, p_isB, p_notB, p_idxL, p_idxT, p_lst0, p_lst1, p_lst2, p_lst3, p_lst4, p_lst5, p_lst6, p_lst7, p_tup0, p_tup1, p_tup2, p_tup3, p_tup4, p_tup5, p_lenL, p_lenT, p_listL, p_listT, p_tupleL, p_tupleT, p_abs, p_max2, p_min2, p_max4, p_intI, p_intB, p_isi, p_rev, p_revT, ok_popS, popQ_o, t_b, t_i, t_n, a_n, a_t, a_l, sM_t, sM_f, sA_0, sA_1, wE_0, wE_1, List.map_cons, List.map_nil, List.set_cons_zero, List.set_cons_succ, List.getElem?_cons_zero, List.getElem?_cons_succ, Nat.reduceAdd, at0, at1, at2, at3, at4, at5, at6, ix0, ix1, ix2, List.length_cons, List.length_nil, List.nil_append, decide_eq_true_eq, onFin_rt, onFin_nx, Bool.not_eq_true', decide_eq_false_iff_not, Int.reducePow, Int.reduceNeg, Int.reduceLT, Int.reduceLE, Nat.reduceLeDiff, Int.reduceToNat, Nat.reducePow, Int.reduceSub, Int.reduceAdd, Int.reduceMul, true_and, and_true, true_or, or_true, decide_true, and_self, if_true, if_false, Bool.false_eq_true, Bool.true_eq_false, reduceCtorEq, not_false_eq_true, not_true_eq_false, reduceIte, p_dictT, dixQ_t, p_sortT, p_ninT, p_dictP, p_tupP, p_dn, p_getT, ok_dput, dputQ_o, ok_dsd, dsdQ_o, frzQ_t, frzQ_k, sM_d, sM_k, ok_dcomp, ditQ_d, ok_disp, dspQ_d, ok_kput, kputQ_o, p_dictK, p_ninK, p_getK, ok_parT, s__law_draw_1t_4]
    rw [← ok_cons]
    exact rest _ _ ns _ _
  have cell : ∀ u : Int, Ok (evSs ⟨R.run Ds gl W n, gl, W⟩ (.cons s__law_draw_1t_2 (.cons s__law_draw_1t_3 (.cons s__law_draw_1t_4 .nil))) [.v (.r 0), .v (.d (.int many)), .v (.d (.int 2305843009213693951)), .v (.d (.int u)), .no] [.lst [.list (ns.map .int), .int k, .int c]])
      (seqQ ⟨R.run Ds gl W n, gl, W⟩ (.cons s__law_draw_2 (.cons s__law_draw_3 (.cons s__law_draw_4 .nil))) (onFin Q)) := fun u => by
    have mix : Ok (evSs ⟨R.run Ds gl W n, gl, W⟩ b__law_draw_1t_2t [.v (.r 0), .v (.d (.int many)), .v (.d (.int 2305843009213693951)), .v (.d (.int u)), .no] [.lst [.list (ns.map .int), .int k, .int c]])
      (seqQ ⟨R.run Ds gl W n, gl, W⟩ (.cons s__law_draw_1t_3 (.cons s__law_draw_1t_4 .nil)) (seqQ ⟨R.run Ds gl W n, gl, W⟩ (.cons s__law_draw_2 (.cons s__law_draw_3 (.cons s__law_draw_4 .nil))) (onFin Q))) := by
      have pr : (0 : Int) < 2305843009213693951 := by decide
      have red : ∀ z : Int, 0 ≤ z % 2305843009213693951 ∧ z % 2305843009213693951 < 2305843009213693951 := fun z => ⟨Int.emod_nonneg _ (by omega), Int.emod_lt_of_pos _ pr⟩
      unfold b__law_draw_1t_2t
      simp only [ok_asg, ok_par, ok_ownS, ok_newc, newQ_l, ok_cset, csetQ0, ok_app, appQ_o, ok_ins, insQ_o, ok_frz, frzQ_o, frzQ_v, ok_iteS, ok_for, ok_whil, ok_ret, ok_retN, ok_expr, ok_brk, ok_cont, ok_pass, ok_var, ok_own, ok_k, ok_glob, ok_gdk, gdkQ_s, ok_callK, kwQ_s, arF, Option.bind_some, Option.map_some, ok_dct, ok_dix, dixQ_k, tst_callK, ok_lset, lsetQ_o, p_rep, ok_prim, ok_and, ok_or, ok_not, ok_iteE, ok_chain, ok_call, ok_cidx, cidQ0, ok_comp, ok_esnil, ok_escons, ok_t0, ok_t1, ok_seq, seqQQ_l, seqQQ_t, seqQQ_s, ok_rng, ok_rng2, ok_zip, zipQ_l, zipQ_t, ok_enum, enumQ_l, p_sorted, eqD_pair, rngQ_i, ok_tand, ok_tor, ok_tnot, tst_var, tst_own, tst_k, tst_prim, tst_ite, tst_chain, tst_call, tst_cidx, ok_bind, ok_ok, ok_no, ok_guard, Res.bind_ok, eqD_int, eqD_bool, eqD_str, eqD_nil, eqD_none, konV, setAll, seqQ_nx, seqQ_rt, seqQ_bk, seqQ_ct, ok_cons, ok_nil, p_add, p_addL, p_addT, p_addS, p_sub, p_mul, p_fdiv, p_mod, p_pow, p_neg, p_eq, p_ne, p_lt, p_le, p_gt, p_ge, p_in, p_notin, p_isN, p_notN, p_isB, p_notB, p_idxL, p_idxT, p_lst0, p_lst1, p_lst2, p_lst3, p_lst4, p_lst5, p_lst6, p_lst7, p_tup0, p_tup1, p_tup2, p_tup3, p_tup4, p_tup5, p_lenL, p_lenT, p_listL, p_listT, p_tupleL, p_tupleT, p_abs, p_max2, p_min2, p_max4, p_intI, p_intB, p_isi, p_rev, p_revT, ok_popS, popQ_o, t_b, t_i, t_n, a_n, a_t, a_l, sM_t, sM_f, sA_0, sA_1, wE_0, wE_1, List.map_cons, List.map_nil, List.set_cons_zero, List.set_cons_succ, List.getElem?_cons_zero, List.getElem?_cons_succ, Nat.reduceAdd, at0, at1, at2, at3, at4, at5, at6, ix0, ix1, ix2, List.length_cons, List.length_nil, List.nil_append, decide_eq_true_eq, onFin_rt, onFin_nx, Bool.not_eq_true', decide_eq_false_iff_not, Int.reducePow, Int.reduceNeg, Int.reduceLT, Int.reduceLE, Nat.reduceLeDiff, Int.reduceToNat, Nat.reducePow, Int.reduceSub, Int.reduceAdd, Int.reduceMul, true_and, and_true, true_or, or_true, decide_true, and_self, if_true, if_false, Bool.false_eq_true, Bool.true_eq_false, reduceCtorEq, not_false_eq_true, not_true_eq_false, reduceIte, p_dictT, dixQ_t, p_sortT, p_ninT, p_dictP, p_tupP, p_dn, p_getT, ok_dput, dputQ_o, ok_dsd, dsdQ_o, frzQ_t, frzQ_k, sM_d, sM_k, ok_dcomp, ditQ_d, ok_disp, dspQ_d, ok_kput, kputQ_o, p_dictK, p_ninK, p_getK, ok_parT, s__law_draw_1t_2t_0]
      generalize hz : (u + 1000003 * k) % 2305843009213693951 = z
      have hr := red (u + 1000003 * k)
      rw [hz] at hr
      simp only [ok_asg, ok_par, ok_ownS, ok_newc, newQ_l, ok_cset, csetQ0, ok_app, appQ_o, ok_ins, insQ_o, ok_frz, frzQ_o, frzQ_v, ok_iteS, ok_for, ok_whil, ok_ret, ok_retN, ok_expr, ok_brk, ok_cont, ok_pass, ok_var, ok_own, ok_k, ok_glob, ok_gdk, gdkQ_s, ok_callK, kwQ_s, arF, Option.bind_some, Option.map_some, ok_dct, ok_dix, dixQ_k, tst_callK, ok_lset, lsetQ_o, p_rep, ok_prim, ok_and, ok_or, ok_not, ok_iteE, ok_chain, ok_call, ok_cidx, cidQ0, ok_comp, ok_esnil, ok_escons, ok_t0, ok_t1, ok_seq, seqQQ_l, seqQQ_t, seqQQ_s, ok_rng, ok_rng2, ok_zip, zipQ_l, zipQ_t, ok_enum, enumQ_l, p_sorted, eqD_pair, rngQ_i, ok_tand, ok_tor, ok_tnot, tst_var, tst_own, tst_k, tst_prim, tst_ite, tst_chain, tst_call, tst_cidx, ok_bind, ok_ok, ok_no, ok_guard, Res.bind_ok, eqD_int, eqD_bool, eqD_str, eqD_nil, eqD_none, konV, setAll, seqQ_nx, seqQ_rt, seqQ_bk, seqQ_ct, ok_cons, ok_nil, p_add, p_addL, p_addT, p_addS, p_sub, p_mul, p_fdiv, p_mod, p_pow, p_neg, p_eq, p_ne, p_lt, p_le, p_gt, p_ge, p_in, p_notin, p_isN, p_notN, p_isB, p_notB, p_idxL, p_idxT, p_lst0, p_lst1, p_lst2, p_lst3, p_lst4, p_lst5, p_lst6, p_lst7, p_tup0, p_tup1, p_tup2, p_tup3, p_tup4, p_tup5, p_lenL, p_lenT, p_listL, p_listT, p_tupleL, p_tupleT, p_abs, p_max2, p_min2, p_max4, p_intI, p_intB, p_isi, p_rev, p_revT, ok_popS, popQ_o, t_b, t_i, t_n, a_n, a_t, a_l, sM_t, sM_f, sA_0, sA_1, wE_0, wE_1, List.map_cons, List.map_nil, List.set_cons_zero, List.set_cons_succ, List.getElem?_cons_zero, List.getElem?_cons_succ, Nat.reduceAdd, at0, at1, at2, at3, at4, at5, at6, ix0, ix1, ix2, List.length_cons, List.length_nil, List.nil_append, decide_eq_true_eq, onFin_rt, onFin_nx, Bool.not_eq_true', decide_eq_false_iff_not, Int.reducePow, Int.reduceNeg, Int.reduceLT, Int.reduceLE, Nat.reduceLeDiff, Int.reduceToNat, Nat.reducePow, Int.reduceSub, Int.reduceAdd, Int.reduceMul, true_and, and_true, true_or, or_true, decide_true, and_self, if_true, if_false, Bool.false_eq_true, Bool.true_eq_false, reduceCtorEq, not_false_eq_true, not_true_eq_false, reduceIte, p_dictT, dixQ_t, p_sortT, p_ninT, p_dictP, p_tupP, p_dn, p_getT, ok_dput, dputQ_o, ok_dsd, dsdQ_o, frzQ_t, frzQ_k, sM_d, sM_k, ok_dcomp, ditQ_d, ok_disp, dspQ_d, ok_kput, kputQ_o, p_dictK, p_ninK, p_getK, ok_parT, s__law_draw_1t_2t_1]
      refine ⟨by omega, ?_⟩
      generalize hy : (z * z + 1181783497276652981 * z + 2049848353892358983) % 2305843009213693951 = y
      have hr2 := red (z * z + 1181783497276652981 * z + 2049848353892358983)
      rw [hy] at hr2
      simp only [ok_asg, ok_par, ok_ownS, ok_newc, newQ_l, ok_cset, csetQ0, ok_app, appQ_o, ok_ins, insQ_o, ok_frz, frzQ_o, frzQ_v, ok_iteS, ok_for, ok_whil, ok_ret, ok_retN, ok_expr, ok_brk, ok_cont, ok_pass, ok_var, ok_own, ok_k, ok_glob, ok_gdk, gdkQ_s, ok_callK, kwQ_s, arF, Option.bind_some, Option.map_some, ok_dct, ok_dix, dixQ_k, tst_callK, ok_lset, lsetQ_o, p_rep, ok_prim, ok_and, ok_or, ok_not, ok_iteE, ok_chain, ok_call, ok_cidx, cidQ0, ok_comp, ok_esnil, ok_escons, ok_t0, ok_t1, ok_seq, seqQQ_l, seqQQ_t, seqQQ_s, ok_rng, ok_rng2, ok_zip, zipQ_l, zipQ_t, ok_enum, enumQ_l, p_sorted, eqD_pair, rngQ_i, ok_tand, ok_tor, ok_tnot, tst_var, tst_own, tst_k, tst_prim, tst_ite, tst_chain, tst_call, tst_cidx, ok_bind, ok_ok, ok_no, ok_guard, Res.bind_ok, eqD_int, eqD_bool, eqD_str, eqD_nil, eqD_none, konV, setAll, seqQ_nx, seqQ_rt, seqQ_bk, seqQ_ct, ok_cons, ok_nil, p_add, p_addL, p_addT, p_addS, p_sub, p_mul, p_fdiv, p_mod, p_pow, p_neg, p_eq, p_ne, p_lt, p_le, p_gt, p_ge, p_in, p_notin, p_isN, p_notN, p_isB, p_notB, p_idxL, p_idxT, p_lst0, p_lst1, p_lst2, p_lst3, p_lst4, p_lst5, p_lst6, p_lst7, p_tup0, p_tup1, p_tup2, p_tup3, p_tup4, p_tup5, p_lenL, p_lenT, p_listL, p_listT, p_tupleL, p_tupleT, p_abs, p_max2, p_min2, p_max4, p_intI, p_intB, p_isi, p_rev, p_revT, ok_popS, popQ_o, t_b, t_i, t_n, a_n, a_t, a_l, sM_t, sM_f, sA_0, sA_1, wE_0, wE_1, List.map_cons, List.map_nil, List.set_cons_zero, List.set_cons_succ, List.getElem?_cons_zero, List.getElem?_cons_succ, Nat.reduceAdd, at0, at1, at2, at3, at4, at5, at6, ix0, ix1, ix2, List.length_cons, List.length_nil, List.nil_append, decide_eq_true_eq, onFin_rt, onFin_nx, Bool.not_eq_true', decide_eq_false_iff_not, Int.reducePow, Int.reduceNeg, Int.reduceLT, Int.reduceLE, Nat.reduceLeDiff, Int.reduceToNat, Nat.reducePow, Int.reduceSub, Int.reduceAdd, Int.reduceMul, true_and, and_true, true_or, or_true, decide_true, and_self, if_true, if_false, Bool.false_eq_true, Bool.true_eq_false, reduceCtorEq, not_false_eq_true, not_true_eq_false, reduceIte, p_dictT, dixQ_t, p_sortT, p_ninT, p_dictP, p_tupP, p_dn, p_getT, ok_dput, dputQ_o, ok_dsd, dsdQ_o, frzQ_t, frzQ_k, sM_d, sM_k, ok_dcomp, ditQ_d, ok_disp, dspQ_d, ok_kput, kputQ_o, p_dictK, p_ninK, p_getK, ok_parT, s__law_draw_1t_2t_2]
      refine ⟨by omega, ?_⟩
      rw [← ok_cons]
      exact cut _
    simp only [ok_asg, ok_par, ok_ownS, ok_newc, newQ_l, ok_cset, csetQ0, ok_app, appQ_o, ok_ins, insQ_o, ok_frz, frzQ_o, frzQ_v, ok_iteS, ok_for, ok_whil, ok_ret, ok_retN, ok_expr, ok_brk, ok_cont, ok_pass, ok_var, ok_own, ok_k, ok_glob, ok_gdk, gdkQ_s, ok_callK, kwQ_s, arF, Option.bind_some, Option.map_some, ok_dct, ok_dix, dixQ_k, tst_callK, ok_lset, lsetQ_o, p_rep, ok_prim, ok_and, ok_or, ok_not, ok_iteE, ok_chain, ok_call, ok_cidx, cidQ0, ok_comp, ok_esnil, ok_escons, ok_t0, ok_t1, ok_seq, seqQQ_l, seqQQ_t, seqQQ_s, ok_rng, ok_rng2, ok_zip, zipQ_l, zipQ_t, ok_enum, enumQ_l, p_sorted, eqD_pair, rngQ_i, ok_tand, ok_tor, ok_tnot, tst_var, tst_own, tst_k, tst_prim, tst_ite, tst_chain, tst_call, tst_cidx, ok_bind, ok_ok, ok_no, ok_guard, Res.bind_ok, eqD_int, eqD_bool, eqD_str, eqD_nil, eqD_none, konV, setAll, seqQ_nx, seqQ_rt, seqQ_bk, seqQ_ct, ok_cons, ok_nil, p_add, p_addL, p_addT, p_addS, p_sub, p_mul, p_fdiv, p_mod, p_pow, p_neg, p_eq, p_ne, p_lt, p_le, p_gt, p_ge, p_in, p_notin, p_isN, p_notN, p_isB, p_notB, p_idxL, p_idxT, p_lst0, p_lst1, p_lst2, p_lst3, p_lst4, p_lst5, p_lst6, p_lst7, p_tup0, p_tup1, p_tup2, p_tup3, p_tup4, p_tup5, p_lenL, p_lenT, p_listL, p_listT, p_tupleL, p_tupleT, p_abs, p_max2, p_min2, p_max4, p_intI, p_intB, p_isi, p_rev, p_revT, ok_popS, popQ_o, t_b, t_i, t_n, a_n, a_t, a_l, sM_t, sM_f, sA_0, sA_1, wE_0, wE_1, List.map_cons, List.map_nil, List.set_cons_zero, List.set_cons_succ, List.getElem?_cons_zero, List.getElem?_cons_succ, Nat.reduceAdd, at0, at1, at2, at3, at4, at5, at6, ix0, ix1, ix2, List.length_cons, List.length_nil, List.nil_append, decide_eq_true_eq, onFin_rt, onFin_nx, Bool.not_eq_true', decide_eq_false_iff_not, Int.reducePow, Int.reduceNeg, Int.reduceLT, Int.reduceLE, Nat.reduceLeDiff, Int.reduceToNat, Nat.reducePow, Int.reduceSub, Int.reduceAdd, Int.reduceMul, true_and, and_true, true_or, or_true, decide_true, and_self, if_true, if_false, Bool.false_eq_true, Bool.true_eq_false, reduceCtorEq, not_false_eq_true, not_true_eq_false, reduceIte, p_dictT, dixQ_t, p_sortT, p_ninT, p_dictP, p_tupP, p_dn, p_getT, ok_dput, dputQ_o, ok_dsd, dsdQ_o, frzQ_t, frzQ_k, sM_d, sM_k, ok_dcomp, ditQ_d, ok_disp, dspQ_d, ok_kput, kputQ_o, p_dictK, p_ninK, p_getK, ok_parT, s__law_draw_1t_2]
    split
    · exact mix
    · split
      · exact mix
      · unfold b__law_draw_1t_2e
        simp only [ok_asg, ok_par, ok_ownS, ok_newc, newQ_l, ok_cset, csetQ0, ok_app, appQ_o, ok_ins, insQ_o, ok_frz, frzQ_o, frzQ_v, ok_iteS, ok_for, ok_whil, ok_ret, ok_retN, ok_expr, ok_brk, ok_cont, ok_pass, ok_var, ok_own, ok_k, ok_glob, ok_gdk, gdkQ_s, ok_callK, kwQ_s, arF, Option.bind_some, Option.map_some, ok_dct, ok_dix, dixQ_k, tst_callK, ok_lset, lsetQ_o, p_rep, ok_prim, ok_and, ok_or, ok_not, ok_iteE, ok_chain, ok_call, ok_cidx, cidQ0, ok_comp, ok_esnil, ok_escons, ok_t0, ok_t1, ok_seq, seqQQ_l, seqQQ_t, seqQQ_s, ok_rng, ok_rng2, ok_zip, zipQ_l, zipQ_t, ok_enum, enumQ_l, p_sorted, eqD_pair, rngQ_i, ok_tand, ok_tor, ok_tnot, tst_var, tst_own, tst_k, tst_prim, tst_ite, tst_chain, tst_call, tst_cidx, ok_bind, ok_ok, ok_no, ok_guard, Res.bind_ok, eqD_int, eqD_bool, eqD_str, eqD_nil, eqD_none, konV, setAll, seqQ_nx, seqQ_rt, seqQ_bk, seqQ_ct, ok_cons, ok_nil, p_add, p_addL, p_addT, p_addS, p_sub, p_mul, p_fdiv, p_mod, p_pow, p_neg, p_eq, p_ne, p_lt, p_le, p_gt, p_ge, p_in, p_notin, p_isN, p_notN, p_isB, p_notB, p_idxL, p_idxT, p_lst0, p_lst1, p_lst2, p_lst3, p_lst4, p_lst5, p_lst6, p_lst7, p_tup0, p_tup1, p_tup2, p_tup3, p_tup4, p_tup5, p_lenL, p_lenT, p_listL, p_listT, p_tupleL, p_tupleT, p_abs, p_max2, p_min2, p_max4, p_intI, p_intB, p_isi, p_rev, p_revT, ok_popS, popQ_o, t_b, t_i, t_n, a_n, a_t, a_l, sM_t, sM_f, sA_0, sA_1, wE_0, wE_1, List.map_cons, List.map_nil, List.set_cons_zero, List.set_cons_succ, List.getElem?_cons_zero, List.getElem?_cons_succ, Nat.reduceAdd, at0, at1, at2, at3, at4, at5, at6, ix0, ix1, ix2, List.length_cons, List.length_nil, List.nil_append, decide_eq_true_eq, onFin_rt, onFin_nx, Bool.not_eq_true', decide_eq_false_iff_not, Int.reducePow, Int.reduceNeg, Int.reduceLT, Int.reduceLE, Nat.reduceLeDiff, Int.reduceToNat, Nat.reducePow, Int.reduceSub, Int.reduceAdd, Int.reduceMul, true_and, and_true, true_or, or_true, decide_true, and_self, if_true, if_false, Bool.false_eq_true, Bool.true_eq_false, reduceCtorEq, not_false_eq_true, not_true_eq_false, reduceIte, p_dictT, dixQ_t, p_sortT, p_ninT, p_dictP, p_tupP, p_dn, p_getT, ok_dput, dputQ_o, ok_dsd, dsdQ_o, frzQ_t, frzQ_k, sM_d, sM_k, ok_dcomp, ditQ_d, ok_disp, dspQ_d, ok_kput, kputQ_o, p_dictK, p_ninK, p_getK, ok_parT]
        rw [← ok_cons]
        exact cut _
  rw [ok_cons]
  simp only [ok_asg, ok_par, ok_ownS, ok_newc, newQ_l, ok_cset, csetQ0, ok_app, appQ_o, ok_ins, insQ_o, ok_frz, frzQ_o, frzQ_v, ok_iteS, ok_for, ok_whil, ok_ret, ok_retN, ok_expr, ok_brk, ok_cont, ok_pass, ok_var, ok_own, ok_k, ok_glob, ok_gdk, gdkQ_s, ok_callK, kwQ_s, arF, Option.bind_some, Option.map_some, ok_dct, ok_dix, dixQ_k, tst_callK, ok_lset, lsetQ_o, p_rep, ok_prim, ok_and, ok_or, ok_not, ok_iteE, ok_chain, ok_call, ok_cidx, cidQ0, ok_comp, ok_esnil, ok_escons, ok_t0, ok_t1, ok_seq, seqQQ_l, seqQQ_t, seqQQ_s, ok_rng, ok_rng2, ok_zip, zipQ_l, zipQ_t, ok_enum, enumQ_l, p_sorted, eqD_pair, rngQ_i, ok_tand, ok_tor, ok_tnot, tst_var, tst_own, tst_k, tst_prim, tst_ite, tst_chain, tst_call, tst_cidx, ok_bind, ok_ok, ok_no, ok_guard, Res.bind_ok, eqD_int, eqD_bool, eqD_str, eqD_nil, eqD_none, konV, setAll, seqQ_nx, seqQ_rt, seqQ_bk, seqQ_ct, ok_cons, ok_nil, p_add, p_addL, p_addT, p_addS, p_sub, p_mul, p_fdiv, p_mod, p_pow, p_neg, p_eq, p_ne, p_lt, p_le, p_gt, p_ge, p_in, p_notin, p_isN, p_notN, p_isB, p_notB, p_idxL, p_idxT, p_lst0, p_lst1, p_lst2, p_lst3, p_lst4, p_lst5, p_lst6, p_lst7, p_tup0, p_tup1, p_tup2, p_tup3, p_tup4, p_tup5, p_lenL, p_lenT, p_listL, p_listT, p_tupleL, p_tupleT, p_abs, p_max2, p_min2, p_max4, p_intI, p_intB, p_isi, p_rev, p_revT, ok_popS, popQ_o, t_b, t_i, t_n, a_n, a_t, a_l, sM_t, sM_f, sA_0, sA_1, wE_0, wE_1, List.map_cons, List.map_nil, List.set_cons_zero, List.set_cons_succ, List.getElem?_cons_zero, List.getElem?_cons_succ, Nat.reduceAdd, at0, at1, at2, at3, at4, at5, at6, ix0, ix1, ix2, List.length_cons, List.length_nil, List.nil_append, decide_eq_true_eq, onFin_rt, onFin_nx, Bool.not_eq_true', decide_eq_false_iff_not, Int.reducePow, Int.reduceNeg, Int.reduceLT, Int.reduceLE, Nat.reduceLeDiff, Int.reduceToNat, Nat.reducePow, Int.reduceSub, Int.reduceAdd, Int.reduceMul, true_and, and_true, true_or, or_true, decide_true, and_self, if_true, if_false, Bool.false_eq_true, Bool.true_eq_false, reduceCtorEq, not_false_eq_true, not_true_eq_false, reduceIte, p_dictT, dixQ_t, p_sortT, p_ninT, p_dictP, p_tupP, p_dn, p_getT, ok_dput, dputQ_o, ok_dsd, dsdQ_o, frzQ_t, frzQ_k, sM_d, sM_k, ok_dcomp, ditQ_d, ok_disp, dspQ_d, ok_kput, kputQ_o, p_dictK, p_ninK, p_getK, ok_parT, s__law_draw_0]
  simp only [ok_asg, ok_par, ok_ownS, ok_newc, newQ_l, ok_cset, csetQ0, ok_app, appQ_o, ok_ins, insQ_o, ok_frz, frzQ_o, frzQ_v, ok_iteS, ok_for, ok_whil, ok_ret, ok_retN, ok_expr, ok_brk, ok_cont, ok_pass, ok_var, ok_own, ok_k, ok_glob, ok_gdk, gdkQ_s, ok_callK, kwQ_s, arF, Option.bind_some, Option.map_some, ok_dct, ok_dix, dixQ_k, tst_callK, ok_lset, lsetQ_o, p_rep, ok_prim, ok_and, ok_or, ok_not, ok_iteE, ok_chain, ok_call, ok_cidx, cidQ0, ok_comp, ok_esnil, ok_escons, ok_t0, ok_t1, ok_seq, seqQQ_l, seqQQ_t, seqQQ_s, ok_rng, ok_rng2, ok_zip, zipQ_l, zipQ_t, ok_enum, enumQ_l, p_sorted, eqD_pair, rngQ_i, ok_tand, ok_tor, ok_tnot, tst_var, tst_own, tst_k, tst_prim, tst_ite, tst_chain, tst_call, tst_cidx, ok_bind, ok_ok, ok_no, ok_guard, Res.bind_ok, eqD_int, eqD_bool, eqD_str, eqD_nil, eqD_none, konV, setAll, seqQ_nx, seqQ_rt, seqQ_bk, seqQ_ct, ok_cons, ok_nil, p_add, p_addL, p_addT, p_addS, p_sub, p_mul, p_fdiv, p_mod, p_pow, p_neg, p_eq, p_ne, p_lt, p_le, p_gt, p_ge, p_in, p_notin, p_isN, p_notN, p_isB, p_notB, p_idxL, p_idxT, p_lst0, p_lst1, p_lst2, p_lst3, p_lst4, p_lst5, p_lst6, p_lst7, p_tup0, p_tup1, p_tup2, p_tup3, p_tup4, p_tup5, p_lenL, p_lenT, p_listL, p_listT, p_tupleL, p_tupleT, p_abs, p_max2, p_min2, p_max4, p_intI, p_intB, p_isi, p_rev, p_revT, ok_popS, popQ_o, t_b, t_i, t_n, a_n, a_t, a_l, sM_t, sM_f, sA_0, sA_1, wE_0, wE_1, List.map_cons, List.map_nil, List.set_cons_zero, List.set_cons_succ, List.getElem?_cons_zero, List.getElem?_cons_succ, Nat.reduceAdd, at0, at1, at2, at3, at4, at5, at6, ix0, ix1, ix2, List.length_cons, List.length_nil, List.nil_append, decide_eq_true_eq, onFin_rt, onFin_nx, Bool.not_eq_true', decide_eq_false_iff_not, Int.reducePow, Int.reduceNeg, Int.reduceLT, Int.reduceLE, Nat.reduceLeDiff, Int.reduceToNat, Nat.reducePow, Int.reduceSub, Int.reduceAdd, Int.reduceMul, true_and, and_true, true_or, or_true, decide_true, and_self, if_true, if_false, Bool.false_eq_true, Bool.true_eq_false, reduceCtorEq, not_false_eq_true, not_true_eq_false, reduceIte, p_dictT, dixQ_t, p_sortT, p_ninT, p_dictP, p_tupP, p_dn, p_getT, ok_dput, dputQ_o, ok_dsd, dsdQ_o, frzQ_t, frzQ_k, sM_d, sM_k, ok_dcomp, ditQ_d, ok_disp, dspQ_d, ok_kput, kputQ_o, p_dictK, p_ninK, p_getK, ok_parT, s__law_draw_1]
  split
  · unfold b__law_draw_1t
    simp only [ok_asg, ok_par, ok_ownS, ok_newc, newQ_l, ok_cset, csetQ0, ok_app, appQ_o, ok_ins, insQ_o, ok_frz, frzQ_o, frzQ_v, ok_iteS, ok_for, ok_whil, ok_ret, ok_retN, ok_expr, ok_brk, ok_cont, ok_pass, ok_var, ok_own, ok_k, ok_glob, ok_gdk, gdkQ_s, ok_callK, kwQ_s, arF, Option.bind_some, Option.map_some, ok_dct, ok_dix, dixQ_k, tst_callK, ok_lset, lsetQ_o, p_rep, ok_prim, ok_and, ok_or, ok_not, ok_iteE, ok_chain, ok_call, ok_cidx, cidQ0, ok_comp, ok_esnil, ok_escons, ok_t0, ok_t1, ok_seq, seqQQ_l, seqQQ_t, seqQQ_s, ok_rng, ok_rng2, ok_zip, zipQ_l, zipQ_t, ok_enum, enumQ_l, p_sorted, eqD_pair, rngQ_i, ok_tand, ok_tor, ok_tnot, tst_var, tst_own, tst_k, tst_prim, tst_ite, tst_chain, tst_call, tst_cidx, ok_bind, ok_ok, ok_no, ok_guard, Res.bind_ok, eqD_int, eqD_bool, eqD_str, eqD_nil, eqD_none, konV, setAll, seqQ_nx, seqQ_rt, seqQ_bk, seqQ_ct, ok_cons, ok_nil, p_add, p_addL, p_addT, p_addS, p_sub, p_mul, p_fdiv, p_mod, p_pow, p_neg, p_eq, p_ne, p_lt, p_le, p_gt, p_ge, p_in, p_notin, p_isN, p_notN, p_isB, p_notB, p_idxL, p_idxT, p_lst0, p_lst1, p_lst2, p_lst3, p_lst4, p_lst5, p_lst6, p_lst7, p_tup0, p_tup1, p_tup2, p_tup3, p_tup4, p_tup5, p_lenL, p_lenT, p_listL, p_listT, p_tupleL, p_tupleT, p_abs, p_max2, p_min2, p_max4, p_intI, p_intB, p_isi, p_rev, p_revT, ok_popS, popQ_o, t_b, t_i, t_n, a_n, a_t, a_l, sM_t, sM_f, sA_0, sA_1, wE_0, wE_1, List.map_cons, List.map_nil, List.set_cons_zero, List.set_cons_succ, List.getElem?_cons_zero, List.getElem?_cons_succ, Nat.reduceAdd, at0, at1, at2, at3, at4, at5, at6, ix0, ix1, ix2, List.length_cons, List.length_nil, List.nil_append, decide_eq_true_eq, onFin_rt, onFin_nx, Bool.not_eq_true', decide_eq_false_iff_not, Int.reducePow, Int.reduceNeg, Int.reduceLT, Int.reduceLE, Nat.reduceLeDiff, Int.reduceToNat, Nat.reducePow, Int.reduceSub, Int.reduceAdd, Int.reduceMul, true_and, and_true, true_or, or_true, decide_true, and_self, if_true, if_false, Bool.false_eq_true, Bool.true_eq_false, reduceCtorEq, not_false_eq_true, not_true_eq_false, reduceIte, p_dictT, dixQ_t, p_sortT, p_ninT, p_dictP, p_tupP, p_dn, p_getT, ok_dput, dputQ_o, ok_dsd, dsdQ_o, frzQ_t, frzQ_k, sM_d, sM_k, ok_dcomp, ditQ_d, ok_disp, dspQ_d, ok_kput, kputQ_o, p_dictK, p_ninK, p_getK, ok_parT, s__law_draw_1t_0]
    simp only [ok_asg, ok_par, ok_ownS, ok_newc, newQ_l, ok_cset, csetQ0, ok_app, appQ_o, ok_ins, insQ_o, ok_frz, frzQ_o, frzQ_v, ok_iteS, ok_for, ok_whil, ok_ret, ok_retN, ok_expr, ok_brk, ok_cont, ok_pass, ok_var, ok_own, ok_k, ok_glob, ok_gdk, gdkQ_s, ok_callK, kwQ_s, arF, Option.bind_some, Option.map_some, ok_dct, ok_dix, dixQ_k, tst_callK, ok_lset, lsetQ_o, p_rep, ok_prim, ok_and, ok_or, ok_not, ok_iteE, ok_chain, ok_call, ok_cidx, cidQ0, ok_comp, ok_esnil, ok_escons, ok_t0, ok_t1, ok_seq, seqQQ_l, seqQQ_t, seqQQ_s, ok_rng, ok_rng2, ok_zip, zipQ_l, zipQ_t, ok_enum, enumQ_l, p_sorted, eqD_pair, rngQ_i, ok_tand, ok_tor, ok_tnot, tst_var, tst_own, tst_k, tst_prim, tst_ite, tst_chain, tst_call, tst_cidx, ok_bind, ok_ok, ok_no, ok_guard, Res.bind_ok, eqD_int, eqD_bool, eqD_str, eqD_nil, eqD_none, konV, setAll, seqQ_nx, seqQ_rt, seqQ_bk, seqQ_ct, ok_cons, ok_nil, p_add, p_addL, p_addT, p_addS, p_sub, p_mul, p_fdiv, p_mod, p_pow, p_neg, p_eq, p_ne, p_lt, p_le, p_gt, p_ge, p_in, p_notin, p_isN, p_notN, p_isB, p_notB, p_idxL, p_idxT, p_lst0, p_lst1, p_lst2, p_lst3, p_lst4, p_lst5, p_lst6, p_lst7, p_tup0, p_tup1, p_tup2, p_tup3, p_tup4, p_tup5, p_lenL, p_lenT, p_listL, p_listT, p_tupleL, p_tupleT, p_abs, p_max2, p_min2, p_max4, p_intI, p_intB, p_isi, p_rev, p_revT, ok_popS, popQ_o, t_b, t_i, t_n, a_n, a_t, a_l, sM_t, sM_f, sA_0, sA_1, wE_0, wE_1, List.map_cons, List.map_nil, List.set_cons_zero, List.set_cons_succ, List.getElem?_cons_zero, List.getElem?_cons_succ, Nat.reduceAdd, at0, at1, at2, at3, at4, at5, at6, ix0, ix1, ix2, List.length_cons, List.length_nil, List.nil_append, decide_eq_true_eq, onFin_rt, onFin_nx, Bool.not_eq_true', decide_eq_false_iff_not, Int.reducePow, Int.reduceNeg, Int.reduceLT, Int.reduceLE, Nat.reduceLeDiff, Int.reduceToNat, Nat.reducePow, Int.reduceSub, Int.reduceAdd, Int.reduceMul, true_and, and_true, true_or, or_true, decide_true, and_self, if_true, if_false, Bool.false_eq_true, Bool.true_eq_false, reduceCtorEq, not_false_eq_true, not_true_eq_false, reduceIte, p_dictT, dixQ_t, p_sortT, p_ninT, p_dictP, p_tupP, p_dn, p_getT, ok_dput, dputQ_o, ok_dsd, dsdQ_o, frzQ_t, frzQ_k, sM_d, sM_k, ok_dcomp, ditQ_d, ok_disp, dspQ_d, ok_kput, kputQ_o, p_dictK, p_ninK, p_getK, ok_parT, s__law_draw_1t_1]
    split
    · rename_i hlen
      unfold b__law_draw_1t_1t
      simp only [ok_asg, ok_par, ok_ownS, ok_newc, newQ_l, ok_cset, csetQ0, ok_app, appQ_o, ok_ins, insQ_o, ok_frz, frzQ_o, frzQ_v, ok_iteS, ok_for, ok_whil, ok_ret, ok_retN, ok_expr, ok_brk, ok_cont, ok_pass, ok_var, ok_own, ok_k, ok_glob, ok_gdk, gdkQ_s, ok_callK, kwQ_s, arF, Option.bind_some, Option.map_some, ok_dct, ok_dix, dixQ_k, tst_callK, ok_lset, lsetQ_o, p_rep, ok_prim, ok_and, ok_or, ok_not, ok_iteE, ok_chain, ok_call, ok_cidx, cidQ0, ok_comp, ok_esnil, ok_escons, ok_t0, ok_t1, ok_seq, seqQQ_l, seqQQ_t, seqQQ_s, ok_rng, ok_rng2, ok_zip, zipQ_l, zipQ_t, ok_enum, enumQ_l, p_sorted, eqD_pair, rngQ_i, ok_tand, ok_tor, ok_tnot, tst_var, tst_own, tst_k, tst_prim, tst_ite, tst_chain, tst_call, tst_cidx, ok_bind, ok_ok, ok_no, ok_guard, Res.bind_ok, eqD_int, eqD_bool, eqD_str, eqD_nil, eqD_none, konV, setAll, seqQ_nx, seqQ_rt, seqQ_bk, seqQ_ct, ok_cons, ok_nil, p_add, p_addL, p_addT, p_addS, p_sub, p_mul, p_fdiv, p_mod, p_pow, p_neg, p_eq, p_ne, p_lt, p_le, p_gt, p_ge, p_in, p_notin, p_isN, p_notN, p_isB, p_notB, p_idxL, p_idxT, p_lst0, p_lst1, p_lst2, p_lst3, p_lst4, p_lst5, p_lst6, p_lst7, p_tup0, p_tup1, p_tup2, p_tup3, p_tup4, p_tup5, p_lenL, p_lenT, p_listL, p_listT, p_tupleL, p_tupleT, p_abs, p_max2, p_min2, p_max4, p_intI, p_intB, p_isi, p_rev, p_revT, ok_popS, popQ_o, t_b, t_i, t_n, a_n, a_t, a_l, sM_t, sM_f, sA_0, sA_1, wE_0, wE_1, List.map_cons, List.map_nil, List.set_cons_zero, List.set_cons_succ, List.getElem?_cons_zero, List.getElem?_cons_succ, Nat.reduceAdd, at0, at1, at2, at3, at4, at5, at6, ix0, ix1, ix2, List.length_cons, List.length_nil, List.nil_append, decide_eq_true_eq, onFin_rt, onFin_nx, Bool.not_eq_true', decide_eq_false_iff_not, Int.reducePow, Int.reduceNeg, Int.reduceLT, Int.reduceLE, Nat.reduceLeDiff, Int.reduceToNat, Nat.reducePow, Int.reduceSub, Int.reduceAdd, Int.reduceMul, true_and, and_true, true_or, or_true, decide_true, and_self, if_true, if_false, Bool.false_eq_true, Bool.true_eq_false, reduceCtorEq, not_false_eq_true, not_true_eq_false, reduceIte, p_dictT, dixQ_t, p_sortT, p_ninT, p_dictP, p_tupP, p_dn, p_getT, ok_dput, dputQ_o, ok_dsd, dsdQ_o, frzQ_t, frzQ_k, sM_d, sM_k, ok_dcomp, ditQ_d, ok_disp, dspQ_d, ok_kput, kputQ_o, p_dictK, p_ninK, p_getK, ok_parT, s__law_draw_1t_1t_0]
      refine ⟨hlen, ok_at (Int.emod_nonneg _ (by omega)) (Int.emod_lt_of_pos _ hlen) fun x hx => ?_⟩
      rw [List.getElem?_map] at hx
      obtain ⟨u, _, rfl⟩ := Option.map_eq_some_iff.mp hx
      rw [← ok_cons]
      exact cell u
    · unfold b__law_draw_1t_1e
      simp only [ok_asg, ok_par, ok_ownS, ok_newc, newQ_l, ok_cset, csetQ0, ok_app, appQ_o, ok_ins, insQ_o, ok_frz, frzQ_o, frzQ_v, ok_iteS, ok_for, ok_whil, ok_ret, ok_retN, ok_expr, ok_brk, ok_cont, ok_pass, ok_var, ok_own, ok_k, ok_glob, ok_gdk, gdkQ_s, ok_callK, kwQ_s, arF, Option.bind_some, Option.map_some, ok_dct, ok_dix, dixQ_k, tst_callK, ok_lset, lsetQ_o, p_rep, ok_prim, ok_and, ok_or, ok_not, ok_iteE, ok_chain, ok_call, ok_cidx, cidQ0, ok_comp, ok_esnil, ok_escons, ok_t0, ok_t1, ok_seq, seqQQ_l, seqQQ_t, seqQQ_s, ok_rng, ok_rng2, ok_zip, zipQ_l, zipQ_t, ok_enum, enumQ_l, p_sorted, eqD_pair, rngQ_i, ok_tand, ok_tor, ok_tnot, tst_var, tst_own, tst_k, tst_prim, tst_ite, tst_chain, tst_call, tst_cidx, ok_bind, ok_ok, ok_no, ok_guard, Res.bind_ok, eqD_int, eqD_bool, eqD_str, eqD_nil, eqD_none, konV, setAll, seqQ_nx, seqQ_rt, seqQ_bk, seqQ_ct, ok_cons, ok_nil, p_add, p_addL, p_addT, p_addS, p_sub, p_mul, p_fdiv, p_mod, p_pow, p_neg, p_eq, p_ne, p_lt, p_le, p_gt, p_ge, p_in, p_notin, p_isN, p_notN, p_isB, p_notB, p_idxL, p_idxT, p_lst0, p_lst1, p_lst2, p_lst3, p_lst4, p_lst5, p_lst6, p_lst7, p_tup0, p_tup1, p_tup2, p_tup3, p_tup4, p_tup5, p_lenL, p_lenT, p_listL, p_listT, p_tupleL, p_tupleT, p_abs, p_max2, p_min2, p_max4, p_intI, p_intB, p_isi, p_rev, p_revT, ok_popS, popQ_o, t_b, t_i, t_n, a_n, a_t, a_l, sM_t, sM_f, sA_0, sA_1, wE_0, wE_1, List.map_cons, List.map_nil, List.set_cons_zero, List.set_cons_succ, List.getElem?_cons_zero, List.getElem?_cons_succ, Nat.reduceAdd, at0, at1, at2, at3, at4, at5, at6, ix0, ix1, ix2, List.length_cons, List.length_nil, List.nil_append, decide_eq_true_eq, onFin_rt, onFin_nx, Bool.not_eq_true', decide_eq_false_iff_not, Int.reducePow, Int.reduceNeg, Int.reduceLT, Int.reduceLE, Nat.reduceLeDiff, Int.reduceToNat, Nat.reducePow, Int.reduceSub, Int.reduceAdd, Int.reduceMul, true_and, and_true, true_or, or_true, decide_true, and_self, if_true, if_false, Bool.false_eq_true, Bool.true_eq_false, reduceCtorEq, not_false_eq_true, not_true_eq_false, reduceIte, p_dictT, dixQ_t, p_sortT, p_ninT, p_dictP, p_tupP, p_dn, p_getT, ok_dput, dputQ_o, ok_dsd, dsdQ_o, frzQ_t, frzQ_k, sM_d, sM_k, ok_dcomp, ditQ_d, ok_disp, dspQ_d, ok_kput, kputQ_o, p_dictK, p_ninK, p_getK, ok_parT]
      rw [← ok_cons]
      exact cell 0
  · unfold b__law_draw_1e
    simp only [ok_asg, ok_par, ok_ownS, ok_newc, newQ_l, ok_cset, csetQ0, ok_app, appQ_o, ok_ins, insQ_o, ok_frz, frzQ_o, frzQ_v, ok_iteS, ok_for, ok_whil, ok_ret, ok_retN, ok_expr, ok_brk, ok_cont, ok_pass, ok_var, ok_own, ok_k, ok_glob, ok_gdk, gdkQ_s, ok_callK, kwQ_s, arF, Option.bind_some, Option.map_some, ok_dct, ok_dix, dixQ_k, tst_callK, ok_lset, lsetQ_o, p_rep, ok_prim, ok_and, ok_or, ok_not, ok_iteE, ok_chain, ok_call, ok_cidx, cidQ0, ok_comp, ok_esnil, ok_escons, ok_t0, ok_t1, ok_seq, seqQQ_l, seqQQ_t, seqQQ_s, ok_rng, ok_rng2, ok_zip, zipQ_l, zipQ_t, ok_enum, enumQ_l, p_sorted, eqD_pair, rngQ_i, ok_tand, ok_tor, ok_tnot, tst_var, tst_own, tst_k, tst_prim, tst_ite, tst_chain, tst_call, tst_cidx, ok_bind, ok_ok, ok_no, ok_guard, Res.bind_ok, eqD_int, eqD_bool, eqD_str, eqD_nil, eqD_none, konV, setAll, seqQ_nx, seqQ_rt, seqQ_bk, seqQ_ct, ok_cons, ok_nil, p_add, p_addL, p_addT, p_addS, p_sub, p_mul, p_fdiv, p_mod, p_pow, p_neg, p_eq, p_ne, p_lt, p_le, p_gt, p_ge, p_in, p_notin, p_isN, p_notN, p_isB, p_notB, p_idxL, p_idxT, p_lst0, p_lst1, p_lst2, p_lst3, p_lst4, p_lst5, p_lst6, p_lst7, p_tup0, p_tup1, p_tup2, p_tup3, p_tup4, p_tup5, p_lenL, p_lenT, p_listL, p_listT, p_tupleL, p_tupleT, p_abs, p_max2, p_min2, p_max4, p_intI, p_intB, p_isi, p_rev, p_revT, ok_popS, popQ_o, t_b, t_i, t_n, a_n, a_t, a_l, sM_t, sM_f, sA_0, sA_1, wE_0, wE_1, List.map_cons, List.map_nil, List.set_cons_zero, List.set_cons_succ, List.getElem?_cons_zero, List.getElem?_cons_succ, Nat.reduceAdd, at0, at1, at2, at3, at4, at5, at6, ix0, ix1, ix2, List.length_cons, List.length_nil, List.nil_append, decide_eq_true_eq, onFin_rt, onFin_nx, Bool.not_eq_true', decide_eq_false_iff_not, Int.reducePow, Int.reduceNeg, Int.reduceLT, Int.reduceLE, Nat.reduceLeDiff, Int.reduceToNat, Nat.reducePow, Int.reduceSub, Int.reduceAdd, Int.reduceMul, true_and, and_true, true_or, or_true, decide_true, and_self, if_true, if_false, Bool.false_eq_true, Bool.true_eq_false, reduceCtorEq, not_false_eq_true, not_true_eq_false, reduceIte, p_dictT, dixQ_t, p_sortT, p_ninT, p_dictP, p_tupP, p_dn, p_getT, ok_dput, dputQ_o, ok_dsd, dsdQ_o, frzQ_t, frzQ_k, sM_d, sM_k, ok_dcomp, ditQ_d, ok_disp, dspQ_d, ok_kput, kputQ_o, p_dictK, p_ninK, p_getK, ok_parT]
    rw [← ok_cons]
    exact rest _ _ ns k c
theorem fm_if {α : Type} (p : α → Prop) [DecidablePred p] (g : α → PyData) : ∀ xs : List α, (xs.filterMap fun x => if p x then some (g x) else none) = (xs.filter fun x => decide (p x)).map g
  | [] => rfl
  | x :: xs => by
    by_cases h : p x
    · rw [List.filterMap_cons_some (by rw [if_pos h]), List.filter_cons_of_pos (by simpa using h), List.map_cons, fm_if p g xs]
    · rw [List.filterMap_cons_none (by rw [if_neg h]), List.filter_cons_of_neg (by simpa using h), fm_if p g xs]
theorem fm_some {α : Type} (g : α → PyData) : ∀ xs : List α, (xs.filterMap fun x => some (g x)) = xs.map g
  | [] => rfl
  | x :: xs => by rw [List.filterMap_cons_some (f := fun x => some (g x)) (b := g x) rfl, fm_some g xs, List.map_cons]
theorem fm_none {α : Type} : ∀ xs : List α, (xs.filterMap fun _ => (none : Option PyData)) = []
  | [] => rfl
  | x :: xs => by rw [List.filterMap_cons_none (f := fun _ => (none : Option PyData)) rfl, fm_none xs]
structure Rw where
  nm : Str
  tk : Int
  nx : List Str
def vrw (r : Rw) : PyData := .tuple [.int r.tk, .tuple (r.nx.map .str)]
def rwD (r : Rw) : PyData := .tuple [.str r.nm, .int r.tk, .tuple (r.nx.map .str)]
def rof (pl : List Rw) (z : Str) : Option Rw := pl.find? fun r => decide (r.nm = z)
def tko (pl : List Rw) (z : Str) : Int := match rof pl z with
  | some r => r.tk
  | none => 1
def nxo (pl : List Rw) (z : Str) : List Str := match rof pl z with
  | some r => r.nx
  | none => []
structure GdP (pl : List Rw) : Prop where
  nd : (pl.map (·.nm)).Nodup
  tk : ∀ r ∈ pl, 1 ≤ r.tk ∧ r.tk ≤ 20
  nx : ∀ r ∈ pl, r.nx.length ≤ 2 ∧ ∀ y ∈ r.nx, y ∈ pl.map (·.nm)
  len : pl.length ≤ 10
  ok : ∀ z ∈ pl.map (·.nm), PyData.strOk z = true
theorem rof_mem {pl : List Rw} {z : Str} {r : Rw} (h : rof pl z = some r) : r ∈ pl ∧ r.nm = z :=
  ⟨List.mem_of_find?_eq_some h, of_decide_eq_true (List.find?_some (p := fun r : Rw => decide (r.nm = z)) h)⟩
theorem rof_some {pl : List Rw} {z : Str} (h : z ∈ pl.map (·.nm)) : ∃ r, rof pl z = some r := by
  obtain ⟨r, hr, e⟩ := List.mem_map.mp h
  cases q : rof pl z with
  | some r => exact ⟨r, rfl⟩
  | none => exact absurd (decide_eq_true e) (List.find?_eq_none.mp q r hr)
theorem tko_b {pl : List Rw} (g : GdP pl) (z : Str) : 1 ≤ tko pl z ∧ tko pl z ≤ 20 := by
  unfold tko
  split
  · rename_i r h
    exact g.tk r (rof_mem h).1
  · omega
theorem nxo_b {pl : List Rw} (g : GdP pl) (z : Str) : ∀ y ∈ nxo pl z, y ∈ pl.map (·.nm) := by
  unfold nxo
  split
  · rename_i r h
    exact (g.nx r (rof_mem h).1).2
  · intro y hy
    cases hy
/-- each next one is a next one -/
def ed (pl : List Rw) : List Str → Prop
  | x :: y :: r => y ∈ nxo pl x ∧ ed pl (y :: r)
  | _ => True
def cst (pl : List Rw) : List Str → Int
  | x :: y :: r => tko pl x + cst pl (y :: r)
  | _ => 0
theorem ed_app {pl : List Rw} (x : Str) (b : List Str) : ∀ a : List Str, ed pl (a ++ x :: b) ↔ ed pl (a ++ [x]) ∧ ed pl (x :: b)
  | [] => by
    show ed pl (x :: b) ↔ True ∧ ed pl (x :: b)
    rw [true_and]
  | [y] => by
    show (x ∈ nxo pl y ∧ ed pl (x :: b)) ↔ (x ∈ nxo pl y ∧ True) ∧ ed pl (x :: b)
    rw [and_true]
  | y :: z :: a => by
    have ih := ed_app (pl := pl) x b (z :: a)
    show (z ∈ nxo pl y ∧ ed pl (z :: a ++ x :: b)) ↔ (z ∈ nxo pl y ∧ ed pl (z :: a ++ [x])) ∧ ed pl (x :: b)
    rw [ih, and_assoc]
theorem cst_app {pl : List Rw} (x : Str) (b : List Str) : ∀ a : List Str, cst pl (a ++ x :: b) = cst pl (a ++ [x]) + cst pl (x :: b)
  | [] => by
    show cst pl (x :: b) = 0 + cst pl (x :: b)
    omega
  | [y] => by
    show tko pl y + cst pl (x :: b) = tko pl y + 0 + cst pl (x :: b)
    omega
  | y :: z :: a => by
    have ih := cst_app (pl := pl) x b (z :: a)
    show tko pl y + cst pl (z :: a ++ x :: b) = tko pl y + cst pl (z :: a ++ [x]) + cst pl (x :: b)
    rw [ih]
    omega
theorem cst_pos {pl : List Rw} (g : GdP pl) : ∀ p : List Str, (p.length : Int) ≤ cst pl p + 1
  | [] => by show (0 : Int) ≤ 0 + 1; omega
  | [x] => by show (1 : Int) ≤ 0 + 1; omega
  | x :: y :: r => by
    have ih := cst_pos g (y :: r)
    have := tko_b g x
    show (((y :: r).length + 1 : Nat) : Int) ≤ tko pl x + cst pl (y :: r) + 1
    omega
/-- a walk from one block to another -/
structure W (pl : List Rw) (u v : Str) (p : List Str) : Prop where
  go : ed pl p
  hd : p.head? = some u
  lst : p.getLast? = some v
theorem W.one (pl : List Rw) (u : Str) : W pl u u [u] := ⟨trivial, rfl, rfl⟩
theorem W.form {pl : List Rw} {u v : Str} {p : List Str} (h : W pl u v p) : ∃ a, p = a ++ [v] := by
  have hl := h.lst
  have hn : p ≠ [] := fun z => by rw [z] at hl; cases hl
  refine ⟨p.dropLast, ?_⟩
  have e := List.dropLast_concat_getLast hn
  rw [List.getLast?_eq_some_getLast hn] at hl
  rw [← Option.some.inj hl, e]
theorem W.snoc {pl : List Rw} {u v x : Str} {p : List Str} (h : W pl u v p) (hx : x ∈ nxo pl v) : W pl u x (p ++ [x]) ∧ cst pl (p ++ [x]) = cst pl p + tko pl v := by
  obtain ⟨a, rfl⟩ := h.form
  have e : a ++ [v] ++ [x] = a ++ v :: [x] := by rw [List.append_assoc]; rfl
  refine ⟨⟨?_, ?_, by simp⟩, ?_⟩
  · rw [e, ed_app]
    exact ⟨h.go, hx, trivial⟩
  · rw [e]
    have := h.hd
    cases a with
    | nil => exact this
    | cons y a => exact this
  · rw [e, cst_app]
    show _ + (tko pl v + 0) = _
    omega
/-- its last step -/
theorem W.back {pl : List Rw} {u v : Str} {p : List Str} (h : W pl u v p) : (p = [u] ∧ u = v) ∨ ∃ (y : Str) (q : List Str), W pl u y q ∧ v ∈ nxo pl y ∧ p = q ++ [v] := by
  obtain ⟨a, rfl⟩ := h.form
  rcases List.eq_nil_or_concat a with rfl | ⟨b, y, rfl⟩
  · have := h.hd
    have e : v = u := Option.some.inj this
    subst e
    exact .inl ⟨rfl, rfl⟩
  · have e : b ++ [y] ++ [v] = b ++ y :: [v] := by rw [List.append_assoc]; rfl
    have he := h.go
    rw [List.concat_eq_append] at he ⊢
    rw [e, ed_app] at he
    refine .inr ⟨y, b ++ [y], ⟨he.1, ?_, by simp⟩, he.2.1, rfl⟩
    have := h.hd
    rw [List.concat_eq_append] at this
    cases b with
    | nil => exact this
    | cons z b => exact this
theorem W.join {pl : List Rw} {u v x : Str} {p q : List Str} (h : W pl u v p) (g : W pl v x q) : ∃ r, W pl u x r ∧ cst pl r = cst pl p + cst pl q := by
  obtain ⟨a, rfl⟩ := h.form
  obtain ⟨b, rfl⟩ : ∃ b, q = v :: b := by
    have := g.hd
    cases q with
    | nil => cases this
    | cons y b => exact ⟨b, by rw [Option.some.inj this]⟩
  refine ⟨a ++ v :: b, ⟨(ed_app v b a).mpr ⟨h.go, g.go⟩, ?_, ?_⟩, cst_app v b a⟩
  · have := h.hd
    cases a with
    | nil => exact this
    | cons y a => exact this
  · rw [List.getLast?_append, g.lst]
    rfl
theorem W.nodes {pl : List Rw} (g : GdP pl) {u v : Str} {p : List Str} (hu : u ∈ pl.map (·.nm)) (h : W pl u v p) : ∀ x ∈ p, x ∈ pl.map (·.nm) := by
  have key : ∀ (r : List Str) (z : Str), z ∈ pl.map (·.nm) → ed pl (z :: r) → ∀ x ∈ z :: r, x ∈ pl.map (·.nm) := by
    intro r
    induction r with
    | nil => intro z hz _ x hx; rw [List.mem_singleton.mp hx]; exact hz
    | cons y r ih =>
      intro z hz he x hx
      have he : y ∈ nxo pl z ∧ ed pl (y :: r) := he
      rcases List.mem_cons.mp hx with rfl | hx
      · exact hz
      · exact ih y (nxo_b g z y he.1) he.2 x hx
  have hh := h.hd
  have he := h.go
  cases p with
  | nil => cases hh
  | cons y r =>
    have e : y = u := Option.some.inj hh
    rw [e] at he ⊢
    exact key r u hu he
theorem sub_len : ∀ {p l : List Str}, p.Nodup → (∀ x ∈ p, x ∈ l) → p.length ≤ l.length
  | [], _, _, _ => Nat.zero_le _
  | x :: p, l, hn, hs => by
    rw [List.nodup_cons] at hn
    have hx := hs x List.mem_cons_self
    have := sub_len (p := p) (l := l.erase x) hn.2 fun y hy => (List.mem_erase_of_ne fun (z : y = x) => hn.1 (by rw [← z]; exact hy)).mpr (hs y (List.mem_cons_of_mem _ hy))
    rw [List.length_erase_of_mem hx] at this
    have hp : 0 < l.length := List.length_pos_of_mem hx
    rw [List.length_cons]
    omega
theorem twice : ∀ {p : List Str}, ¬ p.Nodup → ∃ (a : List Str) (x : Str) (b c : List Str), p = a ++ x :: (b ++ x :: c)
  | [], h => absurd List.nodup_nil h
  | x :: p, h => by
    by_cases hx : x ∈ p
    · obtain ⟨b, c, e⟩ := List.append_of_mem hx
      exact ⟨[], x, b, c, by rw [e]; rfl⟩
    · obtain ⟨a, y, b, c, e⟩ := twice (p := p) fun hn => h (List.nodup_cons.mpr ⟨hx, hn⟩)
      exact ⟨x :: a, y, b, c, by rw [e]; rfl⟩
/-- a walk that comes to a block twice is longer than another -/
theorem W.cut {pl : List Rw} (g : GdP pl) {u v : Str} {p : List Str} (h : W pl u v p) (hn : ¬ p.Nodup) : ∃ q, W pl u v q ∧ cst pl q < cst pl p ∧ q.length < p.length := by
  obtain ⟨a, x, b, c, rfl⟩ := twice hn
  have he := h.go
  rw [ed_app] at he
  have e2 : x :: (b ++ x :: c) = (x :: b) ++ x :: c := rfl
  have he2 := he.2
  rw [e2, ed_app] at he2
  have hc : cst pl (x :: (b ++ x :: c)) = cst pl ((x :: b) ++ [x]) + cst pl (x :: c) := by rw [e2, cst_app]
  have hp := cst_pos g ((x :: b) ++ [x])
  rw [List.length_append, List.length_cons, List.length_cons, List.length_nil] at hp
  refine ⟨a ++ x :: c, ⟨(ed_app x c a).mpr ⟨he.1, he2.2⟩, ?_, ?_⟩, ?_, ?_⟩
  · have := h.hd
    cases a with
    | nil => exact this
    | cons y a => exact this
  · have := h.lst
    rw [List.getLast?_append, e2, List.getLast?_append] at this
    rw [List.getLast?_append]
    cases q : (x :: c).getLast? with
    | none => simp at q
    | some z =>
      rw [q] at this
      exact this
  · rw [cst_app x c a, cst_app x (b ++ x :: c) a, hc]
    omega
  · simp
    omega
abbrev Lab := Int × List Str
def rowD (a : Lab) : PyData := .tuple [.int a.1, .tuple (a.2.map .str)]
def rl (a b : Lab) : Bool := PySem.W.dataLt (rowD a) (rowD b)
def tkA : List Str → List (Int ⊕ List Nat)
  | [] => []
  | x :: r => .inl 1 :: .inr x.cps.toList :: tkA r
def tkT (p : List Str) : List (Int ⊕ List Nat) := tkA p ++ [.inl 0, .inl 0]
abbrev lx : List (Int ⊕ List Nat) → List (Int ⊕ List Nat) → Bool := PyProof.Rows.lexLt PyProof.Rows.itemOrd
theorem toks_strs : ∀ p : List Str, PySem.W.keyToksAll (p.map .str) = tkA p ++ [.inl 0]
  | [] => by simp [PySem.W.keyToksAll, tkA]
  | x :: p => by
    rw [List.map_cons, PySem.W.keyToksAll, toks_strs p]
    simp [PySem.W.keyToks, tkA]
theorem toks_row (a : Lab) : PySem.W.keyToks (rowD a) = .inl 1 :: .inl a.1 :: .inl 1 :: tkT a.2 := by
  unfold rowD
  rw [PySem.W.keyToks, PySem.W.keyToksAll, PySem.W.keyToksAll, PySem.W.keyToksAll, PySem.W.keyToks, PySem.W.keyToks, toks_strs]
  simp [tkT]
theorem rl_eq (a b : Lab) : rl a b = lx (.inl 1 :: .inl a.1 :: .inl 1 :: tkT a.2) (.inl 1 :: .inl b.1 :: .inl 1 :: tkT b.2) := by
  unfold rl PySem.W.dataLt
  rw [toks_row, toks_row]
theorem tkA_inj : ∀ {p q : List Str}, tkA p ++ [.inl 0, .inl 0] = tkA q ++ [.inl 0, .inl 0] → p = q
  | [], [], _ => rfl
  | [], y :: q, h => by simp [tkA] at h
  | x :: p, [], h => by simp [tkA] at h
  | x :: p, y :: q, h => by
    simp only [tkA, List.cons_append, List.cons.injEq, Sum.inr.injEq, true_and] at h
    rw [PySem.W.str_of_cps h.1, tkA_inj h.2]
theorem rl_irr (a : Lab) : rl a a = false := by
  rw [rl_eq]
  exact PyProof.Rows.lex_irrefl _
theorem rl_trans {a b c : Lab} (h : rl a b = true) (g : rl b c = true) : rl a c = true := by
  rw [rl_eq] at *
  exact PyProof.Rows.lex_trans _ _ _ h g
theorem rl_neg {a b c : Lab} (h : rl a c = true) : rl a b = true ∨ rl b c = true := by
  rw [rl_eq] at h
  rw [rl_eq a b, rl_eq b c]
  exact PyProof.Rows.lex_negTrans _ _ _ h
theorem rl_tot {a b : Lab} (h : rl a b = false) (g : rl b a = false) : a = b := by
  rw [rl_eq] at *
  have e := PyProof.Rows.lex_total _ _ h g
  simp only [List.cons.injEq, Sum.inl.injEq, true_and] at e
  exact Prod.ext e.1 (tkA_inj e.2)
theorem rl_asym {a b : Lab} (h : rl a b = true) : rl b a = false := by
  cases q : rl b a with
  | false => rfl
  | true =>
    have := rl_trans h q
    rw [rl_irr] at this
    cases this
/-- not less, twice -/
theorem rl_le {a b c : Lab} (h : rl a b = false) (g : rl b c = false) : rl a c = false := by
  cases q : rl a c with
  | false => rfl
  | true =>
    rcases rl_neg (b := b) q with z | z
    · rw [h] at z; cases z
    · rw [g] at z; cases z
theorem rl_cost {a b : Lab} (h : a.1 < b.1) : rl a b = true := by
  rw [rl_eq]
  unfold lx
  rw [PyProof.Rows.lex_self]
  rw [PyProof.Rows.lex_diff (fun z : (Sum.inl a.1 : Int ⊕ List Nat) = .inl b.1 => by have := Sum.inl.inj z; omega)]
  exact decide_eq_true h
theorem rl_le_cost {a b : Lab} (h : rl b a = false) : a.1 ≤ b.1 := by
  by_cases c : a.1 ≤ b.1
  · exact c
  · rw [rl_cost (by omega)] at h
    cases h
theorem tkA_app (r s : List Str) : tkA (r ++ s) = tkA r ++ tkA s := by
  induction r with
  | nil => rfl
  | cons x r ih => rw [List.cons_append, tkA, tkA, ih]; rfl
theorem rl_diff {c : Int} {r s t : List Str} {x y : Str} (h : x ≠ y) : rl (c, r ++ x :: s) (c, r ++ y :: t) = PyProof.Rows.itemLt (.inr x.cps.toList) (.inr y.cps.toList) := by
  rw [rl_eq]
  have e : ∀ (x : Str) (s : List Str), (Sum.inl 1 :: Sum.inl c :: Sum.inl 1 :: tkT (r ++ x :: s) : List (Int ⊕ List Nat)) = (Sum.inl 1 :: Sum.inl c :: Sum.inl 1 :: (tkA r ++ [.inl 1])) ++ (.inr x.cps.toList :: (tkA s ++ [.inl 0, .inl 0])) := fun x s => by
    unfold tkT
    rw [tkA_app, tkA]
    simp
  show lx (Sum.inl 1 :: Sum.inl c :: Sum.inl 1 :: tkT (r ++ x :: s)) (Sum.inl 1 :: Sum.inl c :: Sum.inl 1 :: tkT (r ++ y :: t)) = _
  rw [e x s, e y t]
  unfold lx
  rw [PySem.W.lex_pre, PyProof.Rows.lex_diff (fun z : (Sum.inr x.cps.toList : Int ⊕ List Nat) = .inr y.cps.toList => h (PySem.W.str_of_cps (Sum.inr.inj z)))]
theorem parted : ∀ p q : List Str, (∃ r, q = p ++ r) ∨ (∃ r, p = q ++ r) ∨ ∃ (r : List Str) (x y : Str) (s t : List Str), x ≠ y ∧ p = r ++ x :: s ∧ q = r ++ y :: t
  | [], q => .inl ⟨q, rfl⟩
  | p, [] => .inr (.inl ⟨p, rfl⟩)
  | x :: p, y :: q => by
    by_cases e : x = y
    · subst e
      rcases parted p q with ⟨r, h⟩ | ⟨r, h⟩ | ⟨r, a, b, s, t, h1, h2, h3⟩
      · exact .inl ⟨r, by rw [h]; rfl⟩
      · exact .inr (.inl ⟨r, by rw [h]; rfl⟩)
      · exact .inr (.inr ⟨x :: r, a, b, s, t, h1, by rw [h2]; rfl, by rw [h3]; rfl⟩)
    · exact .inr (.inr ⟨[], x, y, p, q, e, rfl, rfl⟩)
def lab (pl : List Rw) (p : List Str) : Lab := (cst pl p, p)
theorem cst_pre {pl : List Rw} (g : GdP pl) {u v : Str} {p r : List Str} (h : W pl u v p) (hr : r ≠ []) : cst pl p < cst pl (p ++ r) := by
  obtain ⟨a, rfl⟩ := h.form
  have e : a ++ [v] ++ r = a ++ v :: r := by rw [List.append_assoc]; rfl
  rw [e, cst_app v r a]
  have := cst_pos g (v :: r)
  have hl : 0 < r.length := List.length_pos_iff.mpr hr
  rw [List.length_cons] at this
  omega
/-- one step more keeps the order -/
theorem rl_snoc {pl : List Rw} (g : GdP pl) {u v x : Str} {p q : List Str} (h : W pl u v p) (h2 : W pl u v q) (hx : x ∈ nxo pl v) (hl : rl (lab pl p) (lab pl q) = true) : rl (lab pl (p ++ [x])) (lab pl (q ++ [x])) = true := by
  have e1 := (h.snoc hx).2
  have e2 := (h2.snoc hx).2
  have hle : cst pl p ≤ cst pl q := rl_le_cost (a := lab pl p) (b := lab pl q) (rl_asym hl)
  by_cases hc : cst pl p < cst pl q
  · exact rl_cost (by show cst pl (p ++ [x]) < cst pl (q ++ [x]); omega)
  · have hc : cst pl p = cst pl q := by omega
    rcases parted p q with ⟨r, e⟩ | ⟨r, e⟩ | ⟨r, a, b, s, t, hab, ep, eq⟩
    · by_cases hr : r = []
      · rw [hr, List.append_nil] at e
        rw [e, rl_irr] at hl
        cases hl
      · have := cst_pre g h hr
        rw [← e] at this
        omega
    · by_cases hr : r = []
      · rw [hr, List.append_nil] at e
        rw [e, rl_irr] at hl
        cases hl
      · have := cst_pre g h2 hr
        rw [← e] at this
        omega
    · have l1 : rl (lab pl p) (lab pl q) = rl (cst pl q, p) (cst pl q, q) := by unfold lab; rw [hc]
      have l2 : rl (lab pl (p ++ [x])) (lab pl (q ++ [x])) = rl (cst pl (q ++ [x]), p ++ [x]) (cst pl (q ++ [x]), q ++ [x]) := by
        unfold lab
        rw [show cst pl (p ++ [x]) = cst pl (q ++ [x]) by rw [e1, e2, hc]]
      rw [l2]
      rw [l1, ep, eq, rl_diff hab] at hl
      have a1 : p ++ [x] = r ++ a :: (s ++ [x]) := by rw [ep, List.append_assoc]; rfl
      have a2 : q ++ [x] = r ++ b :: (t ++ [x]) := by rw [eq, List.append_assoc]; rfl
      rw [a1, a2, rl_diff hab]
      exact hl
theorem rl_snoc_le {pl : List Rw} (g : GdP pl) {u v x : Str} {p q : List Str} (h : W pl u v p) (h2 : W pl u v q) (hx : x ∈ nxo pl v) (hl : rl (lab pl p) (lab pl q) = false) : rl (lab pl (p ++ [x])) (lab pl (q ++ [x])) = false := by
  cases c : rl (lab pl q) (lab pl p) with
  | true => exact rl_asym (rl_snoc g h2 h hx c)
  | false =>
    have e := rl_tot hl c
    have e : p = q := congrArg Prod.snd e
    rw [e, rl_irr]
theorem alike_ss : ∀ p q : List Str, PySem.W.alikeAll (p.map .str) (q.map .str) = true
  | [], _ => by simp [PySem.W.alikeAll]
  | _ :: _, [] => by simp [PySem.W.alikeAll]
  | x :: p, y :: q => by
    simp only [List.map_cons, PySem.W.alikeAll, PySem.W.alike, Bool.true_and]
    exact alike_ss p q
theorem depth_ss : ∀ p : List Str, PyData.depthAll (p.map .str) ≤ 1
  | [] => by simp [PyData.depthAll]
  | x :: p => by
    have := depth_ss p
    simp only [List.map_cons, PyData.depthAll, PyData.depth]
    omega
theorem row_ltOk (a b : Lab) : ltOk (rowD a) (rowD b) = true := by
  unfold ltOk rowD
  rw [Bool.and_eq_true, decide_eq_true_eq]
  refine ⟨?_, ?_⟩
  · simp only [PySem.W.alike, PySem.W.alikeAll, Bool.true_and, Bool.and_true]
    exact alike_ss _ _
  · have := depth_ss a.2
    simp only [PyData.depth, PyData.depthAll]
    omega
theorem p_rowLt (a b : Lab) : primF (.cmp .lt) [.d (rowD a), .d (rowD b)] = .ok (.d (.bool (rl a b))) := by
  have h := row_ltOk a b
  unfold rowD at h ⊢
  rw [p_ltT, if_pos h]
  rfl
abbrev BD := List (Str × List Str)
def encB (pl : List Rw) (B : BD) : List (L2.Key × PyData) := B.map fun b => (Sum.inr b.1, rowD (lab pl b.2))
def lookB : BD → Str → Option (List Str)
  | [], _ => none
  | b :: r, z => if b.1 = z then some b.2 else lookB r z
def putB (B : BD) (z : Str) (p : List Str) : BD := if (B.any fun b => decide (b.1 = z)) = true then B.map (fun b => if b.1 = z then (b.1, p) else b) else B ++ [(z, p)]
theorem look_enc (pl : List Rw) (z : Str) : ∀ B : BD, lookK (encB pl B) (Sum.inr z) = (lookB B z).map fun p => rowD (lab pl p)
  | [] => rfl
  | b :: r => by
    show (if (Sum.inr b.1 : L2.Key) = .inr z then some (rowD (lab pl b.2)) else lookK (encB pl r) (Sum.inr z)) = _
    unfold lookB
    by_cases e : b.1 = z
    · rw [if_pos (by rw [e]), if_pos e]; rfl
    · rw [if_neg (fun q => e (Sum.inr.inj q)), if_neg e, look_enc pl z r]
theorem put_encB (pl : List Rw) (B : BD) (z : Str) (p : List Str) : putD (encB pl B) (Sum.inr z) (rowD (lab pl p)) = encB pl (putB B z p) := by
  unfold putD putB
  have e : ((encB pl B).any fun q => decide (q.1 = (.inr z : L2.Key))) = B.any fun b => decide (b.1 = z) := by
    unfold encB
    rw [List.any_map]
    congr 1
    funext b
    exact decide_eq_decide.mpr ⟨fun q => Sum.inr.inj q, fun q => congrArg Sum.inr q⟩
  rw [e]
  split
  · unfold encB
    rw [List.map_map, List.map_map]
    refine List.map_congr_left fun b _ => ?_
    show (if (Sum.inr b.1 : L2.Key) = .inr z then (Sum.inr b.1, rowD (lab pl p)) else (Sum.inr b.1, rowD (lab pl b.2))) = (Sum.inr (if b.1 = z then (b.1, p) else b).1, rowD (lab pl (if b.1 = z then (b.1, p) else b).2))
    by_cases h : b.1 = z
    · rw [if_pos (by rw [h]), if_pos h]
    · rw [if_neg (fun q => h (Sum.inr.inj q)), if_neg h]
  · unfold encB
    rw [List.map_append]
    rfl
theorem look_any2 : ∀ {B : BD} {z : Str}, (B.any fun b => decide (b.1 = z)) = (lookB B z).isSome
  | [], _ => rfl
  | b :: r, z => by
    rw [List.any_cons]
    unfold lookB
    by_cases e : b.1 = z
    · rw [if_pos e, decide_eq_true e]; rfl
    · rw [if_neg e, decide_eq_false e, look_any2]; rfl
theorem look_key : ∀ {B : BD} {z : Str}, (lookB B z).isSome = true ↔ z ∈ B.map (·.1)
  | [], z => by simp [lookB]
  | b :: r, z => by
    unfold lookB
    rw [List.map_cons, List.mem_cons]
    by_cases e : b.1 = z
    · rw [if_pos e]
      exact ⟨fun _ => .inl e.symm, fun _ => rfl⟩
    · rw [if_neg e, look_key]
      exact ⟨fun h => .inr h, fun h => h.resolve_left fun q => e q.symm⟩
theorem look_map (z y : Str) (p : List Str) : ∀ B : BD, lookB (B.map fun b => if b.1 = z then (b.1, p) else b) y = if y = z then (lookB B z).map (fun _ => p) else lookB B y
  | [] => by
    rw [List.map_nil]
    unfold lookB
    split <;> rfl
  | b :: r => by
    have ih := look_map z y p r
    rw [List.map_cons]
    by_cases hb : b.1 = z
    · rw [if_pos hb]
      show (if b.1 = y then some p else lookB _ y) = _
      rw [ih]
      by_cases hy : y = z
      · rw [if_pos (by rw [hb, hy]), if_pos hy]
        unfold lookB
        rw [if_pos hb]
        rfl
      · rw [if_neg (fun q => hy (by rw [← q, hb])), if_neg hy, if_neg hy]
        conv => rhs; unfold lookB
        rw [if_neg (fun q => hy (by rw [← q, hb]))]
    · rw [if_neg hb]
      show (if b.1 = y then some b.2 else lookB _ y) = _
      rw [ih]
      by_cases hy : y = z
      · rw [if_neg (fun q => hb (by rw [q, hy])), if_pos hy, if_pos hy]
        conv => rhs; unfold lookB
        rw [if_neg hb]
      · rw [if_neg hy, if_neg hy]
        conv => rhs; unfold lookB
theorem look_snoc (z y : Str) (p : List Str) : ∀ B : BD, lookB (B ++ [(z, p)]) y = match lookB B y with
    | some q => some q
    | none => if z = y then some p else none
  | [] => rfl
  | b :: r => by
    show (if b.1 = y then some b.2 else lookB (r ++ [(z, p)]) y) = _
    rw [look_snoc z y p r]
    conv => rhs; unfold lookB
    by_cases e : b.1 = y
    · rw [if_pos e, if_pos e]
    · rw [if_neg e, if_neg e]
theorem look_put (B : BD) (z y : Str) (p : List Str) : lookB (putB B z p) y = if y = z then some p else lookB B y := by
  unfold putB
  rw [look_any2]
  cases h : lookB B z with
  | some q =>
    rw [if_pos (by rfl), look_map, h]
    rfl
  | none =>
    rw [if_neg (by simp), look_snoc]
    by_cases e : y = z
    · subst e
      rw [h, if_pos rfl]
    · rw [if_neg e]
      cases lookB B y with
      | none => show (if z = y then some p else none) = none; rw [if_neg fun q => e q.symm]
      | some q => rfl
theorem keys_put (B : BD) (z : Str) (p : List Str) : (putB B z p).map (·.1) = if z ∈ B.map (·.1) then B.map (·.1) else B.map (·.1) ++ [z] := by
  unfold putB
  rw [look_any2]
  by_cases h : z ∈ B.map (·.1)
  · rw [if_pos (look_key.mpr h), if_pos h, List.map_map]
    refine List.map_congr_left fun b _ => ?_
    show (if b.1 = z then (b.1, p) else b).1 = b.1
    split <;> rfl
  · rw [if_neg (fun q => h (look_key.mp q)), if_neg h, List.map_append]
    rfl
structure Bi (pl : List Rw) (u0 : Str) (B : BD) : Prop where
  nd : (B.map (·.1)).Nodup
  wk : ∀ z p, lookB B z = some p → W pl u0 z p
  st : lookB B u0 = some [u0]
  co : ∀ z p, lookB B z = some p → cst pl p ≤ 20 * (B.length : Int)
theorem Bi.init (pl : List Rw) (u0 : Str) : Bi pl u0 [(u0, [u0])] := by
  refine ⟨by simp, fun z p h => ?_, by unfold lookB; rw [if_pos rfl], fun z p h => ?_⟩
  · unfold lookB at h
    split at h
    · rename_i e
      cases h
      rw [← e]
      exact W.one pl u0
    · cases h
  · unfold lookB at h
    split at h
    · cases h
      show (0 : Int) ≤ 20 * 1
      omega
    · cases h
/-- is the row behind u better for v -/
def btr (pl : List Rw) (B : BD) (v : Str) (p : List Str) : Bool := match lookB B v with
  | none => true
  | some o => rl (lab pl p) (lab pl o)
theorem Bi.put {pl : List Rw} {u0 : Str} {B : BD} (g : GdP pl) (h : Bi pl u0 B) {v : Str} {p : List Str} (hw : W pl u0 v p) (hp : 1 < p.length) (hco : cst pl p ≤ 20 * (B.length : Int) + 20) (hb : btr pl B v p = true) : Bi pl u0 (putB B v p) := by
  have hv : v ≠ u0 := fun e => by
    subst e
    unfold btr at hb
    rw [h.st] at hb
    have hc := cst_pos g p
    have : rl (lab pl p) (lab pl [v]) = false := rl_asym (rl_cost (by show (0 : Int) < cst pl p; omega))
    have hb : rl (lab pl p) (lab pl [v]) = true := hb
    rw [this] at hb
    cases hb
  refine ⟨?_, fun z q hq => ?_, ?_, fun z q hq => ?_⟩
  · rw [keys_put]
    split
    · exact h.nd
    · rename_i hn
      rw [List.nodup_append]
      exact ⟨h.nd, by simp, fun a ha b hb e => hn (by rw [← List.mem_singleton.mp hb, ← e]; exact ha)⟩
  · rw [look_put] at hq
    split at hq
    · rename_i e
      cases hq
      rw [e]
      exact hw
    · exact h.wk z q hq
  · rw [look_put, if_neg fun e => hv e.symm]
    exact h.st
  · have hlen : (putB B v p).length = if v ∈ B.map (·.1) then B.length else B.length + 1 := by
      have := congrArg List.length (keys_put B v p)
      rw [List.length_map] at this
      rw [this]
      split
      · rw [List.length_map]
      · rw [List.length_append, List.length_map]; rfl
    rw [look_put] at hq
    split at hq
    · rename_i e
      cases hq
      rw [hlen]
      by_cases hk : v ∈ B.map (·.1)
      · rw [if_pos hk]
        obtain ⟨o, ho⟩ := Option.isSome_iff_exists.mp (look_key.mpr hk)
        unfold btr at hb
        rw [ho] at hb
        have hb : rl (lab pl p) (lab pl o) = true := hb
        have h1 : cst pl p ≤ cst pl o := rl_le_cost (a := lab pl p) (b := lab pl o) (rl_asym hb)
        have := h.co v o ho
        omega
      · rw [if_neg hk]
        omega
    · have := h.co z q hq
      rw [hlen]
      split <;> omega
/-- a walk is no better than what is told -/
def Dom (pl : List Rw) (B : BD) (v : Str) (p : List Str) : Prop := ∃ o, lookB B v = some o ∧ rl (lab pl p) (lab pl o) = false
def Le (pl : List Rw) (B B2 : BD) : Prop := ∀ z p, lookB B z = some p → Dom pl B2 z p
theorem Le.refl (pl : List Rw) (B : BD) : Le pl B B := fun _ p h => ⟨p, h, rl_irr _⟩
theorem Dom.up {pl : List Rw} {B B2 : BD} {v : Str} {p : List Str} (h : Dom pl B v p) (l : Le pl B B2) : Dom pl B2 v p := by
  obtain ⟨o, h1, h2⟩ := h
  obtain ⟨o2, h3, h4⟩ := l v o h1
  exact ⟨o2, h3, rl_le h2 h4⟩
theorem Le.trans {pl : List Rw} {B B2 B3 : BD} (h : Le pl B B2) (g : Le pl B2 B3) : Le pl B B3 := fun z p hz => (h z p hz).up g
theorem put_le {pl : List Rw} {B : BD} {v : Str} {p : List Str} (hb : btr pl B v p = true) : Le pl B (putB B v p) := fun z q hq => by
  by_cases e : z = v
  · subst e
    unfold btr at hb
    rw [hq] at hb
    exact ⟨p, by rw [look_put, if_pos rfl], rl_asym hb⟩
  · exact ⟨q, by rw [look_put, if_neg e]; exact hq, rl_irr _⟩
theorem put_dom (pl : List Rw) (B : BD) (v : Str) (p : List Str) : Dom pl (putB B v p) v p := ⟨p, by rw [look_put, if_pos rfl], rl_irr _⟩
theorem no_dom {pl : List Rw} {B : BD} {v : Str} {p : List Str} (hb : btr pl B v p = false) : Dom pl B v p := by
  unfold btr at hb
  cases h : lookB B v with
  | none => rw [h] at hb; cases hb
  | some o =>
    rw [h] at hb
    exact ⟨o, h, hb⟩
/-- a longer way back to a block is never better -/
theorem btr_self {pl : List Rw} {u0 : Str} {B : BD} (g : GdP pl) (h : Bi pl u0 B) {u : Str} {q : List Str} (hq : lookB B u = some q) : btr pl B u (q ++ [u]) = false := by
  unfold btr
  rw [hq]
  exact rl_asym (rl_cost (cst_pre g (h.wk u q hq) (by simp)))
/-- all walks -/
structure Mst (pl : List Rw) (u0 : Str) (B : BD) : Prop where
  bi : Bi pl u0 B
  all : ∀ z p, W pl u0 z p → Dom pl B z p
theorem closed_mst {pl : List Rw} {u0 : Str} {B : BD} (g : GdP pl) (h : Bi pl u0 B) (hc : ∀ u q, lookB B u = some q → ∀ v ∈ nxo pl u, Dom pl B v (q ++ [v])) : Mst pl u0 B := by
  refine ⟨h, fun z p hw => ?_⟩
  suffices ∀ (n : Nat) (z : Str) (p : List Str), p.length = n → W pl u0 z p → Dom pl B z p from this _ z p rfl hw
  intro n
  induction n with
  | zero =>
    intro z p hl hw
    obtain ⟨a, rfl⟩ := hw.form
    simp at hl
  | succ n ih =>
    intro z p hl hw
    rcases hw.back with ⟨rfl, rfl⟩ | ⟨y, q, hy, hz, rfl⟩
    · exact ⟨_, h.st, rl_irr _⟩
    · obtain ⟨o, ho, hr⟩ := ih y q (by rw [List.length_append] at hl; simpa using hl) hy
      obtain ⟨o2, ho2, hr2⟩ := hc y o ho z hz
      exact ⟨o2, ho2, rl_le (rl_snoc_le g hy (h.wk y o ho) hz hr) hr2⟩
theorem Mst.uniq {pl : List Rw} {u0 : Str} {B B2 : BD} (h : Mst pl u0 B) (g : Mst pl u0 B2) (z : Str) : lookB B z = lookB B2 z := by
  cases e : lookB B z with
  | some p =>
    obtain ⟨o, ho, hr⟩ := g.all z p (h.bi.wk z p e)
    obtain ⟨o2, ho2, hr2⟩ := h.all z o (g.bi.wk z o ho)
    rw [e] at ho2
    cases ho2
    have := rl_tot hr hr2
    have : p = o := congrArg Prod.snd this
    rw [ho, this]
  | none =>
    cases e2 : lookB B2 z with
    | none => rfl
    | some p =>
      obtain ⟨o, ho, _⟩ := h.all z p (g.bi.wk z p e2)
      rw [e] at ho
      cases ho
/-- all walks of so many blocks are enough -/
theorem short_mst {pl : List Rw} {u0 : Str} {B : BD} (g : GdP pl) (hu : u0 ∈ pl.map (·.nm)) (h : Bi pl u0 B) (hs : ∀ z p, W pl u0 z p → p.length ≤ pl.length → Dom pl B z p) : Mst pl u0 B := by
  refine ⟨h, fun z p hw => ?_⟩
  suffices ∀ (n : Nat) (p : List Str), p.length ≤ n → W pl u0 z p → Dom pl B z p from this _ p (Nat.le_refl _) hw
  intro n
  induction n with
  | zero => exact fun p hl hw => hs z p hw (by omega)
  | succ n ih =>
    intro p hl hw
    by_cases hn : p.Nodup
    · have := sub_len hn (hw.nodes g hu)
      rw [List.length_map] at this
      exact hs z p hw this
    · obtain ⟨q, hq, hc, hlen⟩ := hw.cut g hn
      obtain ⟨o, ho, hr⟩ := ih q (by omega) hq
      refine ⟨o, ho, ?_⟩
      cases c : rl (lab pl p) (lab pl o) with
      | false => rfl
      | true =>
        have := rl_trans (rl_cost (a := lab pl q) (b := lab pl p) hc) c
        rw [hr] at this
        cases this
def rngI (m : Nat) : List Int := (List.range m).map fun (k : Nat) => (k : Int)
theorem order_ok {W n : Nat} {m : Nat} {cs : Cells} {Q : MV × Cells → Prop} (hm : m ≤ 1000) (h : Tape cs) (k : ∀ (os : List Int) cs, os.Perm (rngI m) → Tape cs → Q (.d (.tuple (os.map .int)), cs)) : Ok (R.run Ds gl W (n + 2) i__law_any_order [.r 0, .d (.int m)] cs) Q := by
  rw [u__law_any_order, ok_fin]
  unfold b__law_any_order
  rw [ok_cons]
  simp only [ok_asg, ok_par, ok_ownS, ok_newc, newQ_l, ok_cset, csetQ0, ok_app, appQ_o, ok_ins, insQ_o, ok_frz, frzQ_o, frzQ_v, ok_iteS, ok_for, ok_whil, ok_ret, ok_retN, ok_expr, ok_brk, ok_cont, ok_pass, ok_var, ok_own, ok_k, ok_glob, ok_gdk, gdkQ_s, ok_callK, kwQ_s, arF, Option.bind_some, Option.map_some, ok_dct, ok_dix, dixQ_k, tst_callK, ok_lset, lsetQ_o, p_rep, ok_prim, ok_and, ok_or, ok_not, ok_iteE, ok_chain, ok_call, ok_cidx, cidQ0, ok_comp, ok_esnil, ok_escons, ok_t0, ok_t1, ok_seq, seqQQ_l, seqQQ_t, seqQQ_s, ok_rng, ok_rng2, ok_zip, zipQ_l, zipQ_t, ok_enum, enumQ_l, p_sorted, eqD_pair, rngQ_i, ok_tand, ok_tor, ok_tnot, tst_var, tst_own, tst_k, tst_prim, tst_ite, tst_chain, tst_call, tst_cidx, ok_bind, ok_ok, ok_no, ok_guard, Res.bind_ok, eqD_int, eqD_bool, eqD_str, eqD_nil, eqD_none, konV, setAll, seqQ_nx, seqQ_rt, seqQ_bk, seqQ_ct, ok_cons, ok_nil, p_add, p_addL, p_addT, p_addS, p_sub, p_mul, p_fdiv, p_mod, p_pow, p_neg, p_eq, p_ne, p_lt, p_le, p_gt, p_ge, p_in, p_notin, p_isN, p_notN, p_isB, p_notB, p_idxL, p_idxT, p_lst0, p_lst1, p_lst2, p_lst3, p_lst4, p_lst5, p_lst6, p_lst7, p_tup0, p_tup1, p_tup2, p_tup3, p_tup4, p_tup5, p_lenL, p_lenT, p_listL, p_listT, p_tupleL, p_tupleT, p_abs, p_max2, p_min2, p_max4, p_intI, p_intB, p_isi, p_rev, p_revT, ok_popS, popQ_o, t_b, t_i, t_n, a_n, a_t, a_l, sM_t, sM_f, sA_0, sA_1, wE_0, wE_1, List.map_cons, List.map_nil, List.set_cons_zero, List.set_cons_succ, List.getElem?_cons_zero, List.getElem?_cons_succ, Nat.reduceAdd, at0, at1, at2, at3, at4, at5, at6, ix0, ix1, ix2, List.length_cons, List.length_nil, List.nil_append, decide_eq_true_eq, onFin_rt, onFin_nx, Bool.not_eq_true', decide_eq_false_iff_not, Int.reducePow, Int.reduceNeg, Int.reduceLT, Int.reduceLE, Nat.reduceLeDiff, Int.reduceToNat, Nat.reducePow, Int.reduceSub, Int.reduceAdd, Int.reduceMul, true_and, and_true, true_or, or_true, decide_true, and_self, if_true, if_false, Bool.false_eq_true, Bool.true_eq_false, reduceCtorEq, not_false_eq_true, not_true_eq_false, reduceIte, p_dictT, dixQ_t, p_sortT, p_ninT, p_dictP, p_tupP, p_dn, p_getT, ok_dput, dputQ_o, ok_dsd, dsdQ_o, frzQ_t, frzQ_k, sM_d, sM_k, ok_dcomp, ditQ_d, ok_disp, dspQ_d, ok_kput, kputQ_o, p_dictK, p_ninK, p_getK, ok_parT, s__law_any_order_0]
  simp only [ok_asg, ok_par, ok_ownS, ok_newc, newQ_l, ok_cset, csetQ0, ok_app, appQ_o, ok_ins, insQ_o, ok_frz, frzQ_o, frzQ_v, ok_iteS, ok_for, ok_whil, ok_ret, ok_retN, ok_expr, ok_brk, ok_cont, ok_pass, ok_var, ok_own, ok_k, ok_glob, ok_gdk, gdkQ_s, ok_callK, kwQ_s, arF, Option.bind_some, Option.map_some, ok_dct, ok_dix, dixQ_k, tst_callK, ok_lset, lsetQ_o, p_rep, ok_prim, ok_and, ok_or, ok_not, ok_iteE, ok_chain, ok_call, ok_cidx, cidQ0, ok_comp, ok_esnil, ok_escons, ok_t0, ok_t1, ok_seq, seqQQ_l, seqQQ_t, seqQQ_s, ok_rng, ok_rng2, ok_zip, zipQ_l, zipQ_t, ok_enum, enumQ_l, p_sorted, eqD_pair, rngQ_i, ok_tand, ok_tor, ok_tnot, tst_var, tst_own, tst_k, tst_prim, tst_ite, tst_chain, tst_call, tst_cidx, ok_bind, ok_ok, ok_no, ok_guard, Res.bind_ok, eqD_int, eqD_bool, eqD_str, eqD_nil, eqD_none, konV, setAll, seqQ_nx, seqQ_rt, seqQ_bk, seqQ_ct, ok_cons, ok_nil, p_add, p_addL, p_addT, p_addS, p_sub, p_mul, p_fdiv, p_mod, p_pow, p_neg, p_eq, p_ne, p_lt, p_le, p_gt, p_ge, p_in, p_notin, p_isN, p_notN, p_isB, p_notB, p_idxL, p_idxT, p_lst0, p_lst1, p_lst2, p_lst3, p_lst4, p_lst5, p_lst6, p_lst7, p_tup0, p_tup1, p_tup2, p_tup3, p_tup4, p_tup5, p_lenL, p_lenT, p_listL, p_listT, p_tupleL, p_tupleT, p_abs, p_max2, p_min2, p_max4, p_intI, p_intB, p_isi, p_rev, p_revT, ok_popS, popQ_o, t_b, t_i, t_n, a_n, a_t, a_l, sM_t, sM_f, sA_0, sA_1, wE_0, wE_1, List.map_cons, List.map_nil, List.set_cons_zero, List.set_cons_succ, List.getElem?_cons_zero, List.getElem?_cons_succ, Nat.reduceAdd, at0, at1, at2, at3, at4, at5, at6, ix0, ix1, ix2, List.length_cons, List.length_nil, List.nil_append, decide_eq_true_eq, onFin_rt, onFin_nx, Bool.not_eq_true', decide_eq_false_iff_not, Int.reducePow, Int.reduceNeg, Int.reduceLT, Int.reduceLE, Nat.reduceLeDiff, Int.reduceToNat, Nat.reducePow, Int.reduceSub, Int.reduceAdd, Int.reduceMul, true_and, and_true, true_or, or_true, decide_true, and_self, if_true, if_false, Bool.false_eq_true, Bool.true_eq_false, reduceCtorEq, not_false_eq_true, not_true_eq_false, reduceIte, p_dictT, dixQ_t, p_sortT, p_ninT, p_dictP, p_tupP, p_dn, p_getT, ok_dput, dputQ_o, ok_dsd, dsdQ_o, frzQ_t, frzQ_k, sM_d, sM_k, ok_dcomp, ditQ_d, ok_disp, dspQ_d, ok_kput, kputQ_o, p_dictK, p_ninK, p_getK, ok_parT, s__law_any_order_1, Int.sub_zero]
  refine ⟨rngOk_of (by omega) (by omega) (by omega) (by omega), ?_⟩
  refine ok_loopL (fun i env cs' => ∃ (os : List Int) (s3 : Sl), env = [.v (.r 0), .v (.d (.int m)), .ol (os.map .int), s3] ∧ Tape cs' ∧ os.Perm (rngI i)) _ 0 _ _ ⟨[], _, rfl, h, List.Perm.refl _⟩ ?_ ?_
  · rintro i x env cs' hx ⟨os, s3, rfl, ht, hp⟩
    obtain ⟨rfl, hi⟩ := rngL_at _ _ _ _ hx
    rw [ok_lstep, Nat.zero_add, Int.zero_add]
    rw [Nat.zero_add] at hp
    have hl : os.length = i := by rw [hp.length_eq]; simp [rngI]
    unfold b__law_any_order_1
    simp only [ok_asg, ok_par, ok_ownS, ok_newc, newQ_l, ok_cset, csetQ0, ok_app, appQ_o, ok_ins, insQ_o, ok_frz, frzQ_o, frzQ_v, ok_iteS, ok_for, ok_whil, ok_ret, ok_retN, ok_expr, ok_brk, ok_cont, ok_pass, ok_var, ok_own, ok_k, ok_glob, ok_gdk, gdkQ_s, ok_callK, kwQ_s, arF, Option.bind_some, Option.map_some, ok_dct, ok_dix, dixQ_k, tst_callK, ok_lset, lsetQ_o, p_rep, ok_prim, ok_and, ok_or, ok_not, ok_iteE, ok_chain, ok_call, ok_cidx, cidQ0, ok_comp, ok_esnil, ok_escons, ok_t0, ok_t1, ok_seq, seqQQ_l, seqQQ_t, seqQQ_s, ok_rng, ok_rng2, ok_zip, zipQ_l, zipQ_t, ok_enum, enumQ_l, p_sorted, eqD_pair, rngQ_i, ok_tand, ok_tor, ok_tnot, tst_var, tst_own, tst_k, tst_prim, tst_ite, tst_chain, tst_call, tst_cidx, ok_bind, ok_ok, ok_no, ok_guard, Res.bind_ok, eqD_int, eqD_bool, eqD_str, eqD_nil, eqD_none, konV, setAll, seqQ_nx, seqQ_rt, seqQ_bk, seqQ_ct, ok_cons, ok_nil, p_add, p_addL, p_addT, p_addS, p_sub, p_mul, p_fdiv, p_mod, p_pow, p_neg, p_eq, p_ne, p_lt, p_le, p_gt, p_ge, p_in, p_notin, p_isN, p_notN, p_isB, p_notB, p_idxL, p_idxT, p_lst0, p_lst1, p_lst2, p_lst3, p_lst4, p_lst5, p_lst6, p_lst7, p_tup0, p_tup1, p_tup2, p_tup3, p_tup4, p_tup5, p_lenL, p_lenT, p_listL, p_listT, p_tupleL, p_tupleT, p_abs, p_max2, p_min2, p_max4, p_intI, p_intB, p_isi, p_rev, p_revT, ok_popS, popQ_o, t_b, t_i, t_n, a_n, a_t, a_l, sM_t, sM_f, sA_0, sA_1, wE_0, wE_1, List.map_cons, List.map_nil, List.set_cons_zero, List.set_cons_succ, List.getElem?_cons_zero, List.getElem?_cons_succ, Nat.reduceAdd, at0, at1, at2, at3, at4, at5, at6, ix0, ix1, ix2, List.length_cons, List.length_nil, List.nil_append, decide_eq_true_eq, onFin_rt, onFin_nx, Bool.not_eq_true', decide_eq_false_iff_not, Int.reducePow, Int.reduceNeg, Int.reduceLT, Int.reduceLE, Nat.reduceLeDiff, Int.reduceToNat, Nat.reducePow, Int.reduceSub, Int.reduceAdd, Int.reduceMul, true_and, and_true, true_or, or_true, decide_true, and_self, if_true, if_false, Bool.false_eq_true, Bool.true_eq_false, reduceCtorEq, not_false_eq_true, not_true_eq_false, reduceIte, p_dictT, dixQ_t, p_sortT, p_ninT, p_dictP, p_tupP, p_dn, p_getT, ok_dput, dputQ_o, ok_dsd, dsdQ_o, frzQ_t, frzQ_k, sM_d, sM_k, ok_dcomp, ditQ_d, ok_disp, dspQ_d, ok_kput, kputQ_o, p_dictK, p_ninK, p_getK, ok_parT, s__law_any_order_1_0]
    refine draw_ok ht (by omega) (by omega) fun a cs1 a0 a1 h1 => ?_
    simp only [ok_asg, ok_par, ok_ownS, ok_newc, newQ_l, ok_cset, csetQ0, ok_app, appQ_o, ok_ins, insQ_o, ok_frz, frzQ_o, frzQ_v, ok_iteS, ok_for, ok_whil, ok_ret, ok_retN, ok_expr, ok_brk, ok_cont, ok_pass, ok_var, ok_own, ok_k, ok_glob, ok_gdk, gdkQ_s, ok_callK, kwQ_s, arF, Option.bind_some, Option.map_some, ok_dct, ok_dix, dixQ_k, tst_callK, ok_lset, lsetQ_o, p_rep, ok_prim, ok_and, ok_or, ok_not, ok_iteE, ok_chain, ok_call, ok_cidx, cidQ0, ok_comp, ok_esnil, ok_escons, ok_t0, ok_t1, ok_seq, seqQQ_l, seqQQ_t, seqQQ_s, ok_rng, ok_rng2, ok_zip, zipQ_l, zipQ_t, ok_enum, enumQ_l, p_sorted, eqD_pair, rngQ_i, ok_tand, ok_tor, ok_tnot, tst_var, tst_own, tst_k, tst_prim, tst_ite, tst_chain, tst_call, tst_cidx, ok_bind, ok_ok, ok_no, ok_guard, Res.bind_ok, eqD_int, eqD_bool, eqD_str, eqD_nil, eqD_none, konV, setAll, seqQ_nx, seqQ_rt, seqQ_bk, seqQ_ct, ok_cons, ok_nil, p_add, p_addL, p_addT, p_addS, p_sub, p_mul, p_fdiv, p_mod, p_pow, p_neg, p_eq, p_ne, p_lt, p_le, p_gt, p_ge, p_in, p_notin, p_isN, p_notN, p_isB, p_notB, p_idxL, p_idxT, p_lst0, p_lst1, p_lst2, p_lst3, p_lst4, p_lst5, p_lst6, p_lst7, p_tup0, p_tup1, p_tup2, p_tup3, p_tup4, p_tup5, p_lenL, p_lenT, p_listL, p_listT, p_tupleL, p_tupleT, p_abs, p_max2, p_min2, p_max4, p_intI, p_intB, p_isi, p_rev, p_revT, ok_popS, popQ_o, t_b, t_i, t_n, a_n, a_t, a_l, sM_t, sM_f, sA_0, sA_1, wE_0, wE_1, List.map_cons, List.map_nil, List.set_cons_zero, List.set_cons_succ, List.getElem?_cons_zero, List.getElem?_cons_succ, Nat.reduceAdd, at0, at1, at2, at3, at4, at5, at6, ix0, ix1, ix2, List.length_cons, List.length_nil, List.nil_append, decide_eq_true_eq, onFin_rt, onFin_nx, Bool.not_eq_true', decide_eq_false_iff_not, Int.reducePow, Int.reduceNeg, Int.reduceLT, Int.reduceLE, Nat.reduceLeDiff, Int.reduceToNat, Nat.reducePow, Int.reduceSub, Int.reduceAdd, Int.reduceMul, true_and, and_true, true_or, or_true, decide_true, and_self, if_true, if_false, Bool.false_eq_true, Bool.true_eq_false, reduceCtorEq, not_false_eq_true, not_true_eq_false, reduceIte, p_dictT, dixQ_t, p_sortT, p_ninT, p_dictP, p_tupP, p_dn, p_getT, ok_dput, dputQ_o, ok_dsd, dsdQ_o, frzQ_t, frzQ_k, sM_d, sM_k, ok_dcomp, ditQ_d, ok_disp, dspQ_d, ok_kput, kputQ_o, p_dictK, p_ninK, p_getK, ok_parT, List.length_map]
    refine ⟨⟨line_le (by omega), a0, by omega⟩, os.take a.toNat ++ (i : Int) :: os.drop a.toNat, .v (.d (.int i)), ?_, h1, ?_⟩
    · rw [List.map_append, List.map_cons, List.map_take, List.map_drop]
    · have e : rngI (i + 1) = rngI i ++ [(i : Int)] := by
        unfold rngI
        rw [List.range_succ, List.map_append]
        rfl
      rw [e]
      refine List.Perm.trans List.perm_middle ?_
      rw [List.take_append_drop]
      exact (List.Perm.cons _ hp).trans (List.perm_append_singleton _ _).symm
  · rintro env cs' ⟨os, s3, rfl, ht, hp⟩
    rw [rngL_length, Nat.zero_add] at hp
    simp only [ok_asg, ok_par, ok_ownS, ok_newc, newQ_l, ok_cset, csetQ0, ok_app, appQ_o, ok_ins, insQ_o, ok_frz, frzQ_o, frzQ_v, ok_iteS, ok_for, ok_whil, ok_ret, ok_retN, ok_expr, ok_brk, ok_cont, ok_pass, ok_var, ok_own, ok_k, ok_glob, ok_gdk, gdkQ_s, ok_callK, kwQ_s, arF, Option.bind_some, Option.map_some, ok_dct, ok_dix, dixQ_k, tst_callK, ok_lset, lsetQ_o, p_rep, ok_prim, ok_and, ok_or, ok_not, ok_iteE, ok_chain, ok_call, ok_cidx, cidQ0, ok_comp, ok_esnil, ok_escons, ok_t0, ok_t1, ok_seq, seqQQ_l, seqQQ_t, seqQQ_s, ok_rng, ok_rng2, ok_zip, zipQ_l, zipQ_t, ok_enum, enumQ_l, p_sorted, eqD_pair, rngQ_i, ok_tand, ok_tor, ok_tnot, tst_var, tst_own, tst_k, tst_prim, tst_ite, tst_chain, tst_call, tst_cidx, ok_bind, ok_ok, ok_no, ok_guard, Res.bind_ok, eqD_int, eqD_bool, eqD_str, eqD_nil, eqD_none, konV, setAll, seqQ_nx, seqQ_rt, seqQ_bk, seqQ_ct, ok_cons, ok_nil, p_add, p_addL, p_addT, p_addS, p_sub, p_mul, p_fdiv, p_mod, p_pow, p_neg, p_eq, p_ne, p_lt, p_le, p_gt, p_ge, p_in, p_notin, p_isN, p_notN, p_isB, p_notB, p_idxL, p_idxT, p_lst0, p_lst1, p_lst2, p_lst3, p_lst4, p_lst5, p_lst6, p_lst7, p_tup0, p_tup1, p_tup2, p_tup3, p_tup4, p_tup5, p_lenL, p_lenT, p_listL, p_listT, p_tupleL, p_tupleT, p_abs, p_max2, p_min2, p_max4, p_intI, p_intB, p_isi, p_rev, p_revT, ok_popS, popQ_o, t_b, t_i, t_n, a_n, a_t, a_l, sM_t, sM_f, sA_0, sA_1, wE_0, wE_1, List.map_cons, List.map_nil, List.set_cons_zero, List.set_cons_succ, List.getElem?_cons_zero, List.getElem?_cons_succ, Nat.reduceAdd, at0, at1, at2, at3, at4, at5, at6, ix0, ix1, ix2, List.length_cons, List.length_nil, List.nil_append, decide_eq_true_eq, onFin_rt, onFin_nx, Bool.not_eq_true', decide_eq_false_iff_not, Int.reducePow, Int.reduceNeg, Int.reduceLT, Int.reduceLE, Nat.reduceLeDiff, Int.reduceToNat, Nat.reducePow, Int.reduceSub, Int.reduceAdd, Int.reduceMul, true_and, and_true, true_or, or_true, decide_true, and_self, if_true, if_false, Bool.false_eq_true, Bool.true_eq_false, reduceCtorEq, not_false_eq_true, not_true_eq_false, reduceIte, p_dictT, dixQ_t, p_sortT, p_ninT, p_dictP, p_tupP, p_dn, p_getT, ok_dput, dputQ_o, ok_dsd, dsdQ_o, frzQ_t, frzQ_k, sM_d, sM_k, ok_dcomp, ditQ_d, ok_disp, dspQ_d, ok_kput, kputQ_o, p_dictK, p_ninK, p_getK, ok_parT]
    simp only [ok_asg, ok_par, ok_ownS, ok_newc, newQ_l, ok_cset, csetQ0, ok_app, appQ_o, ok_ins, insQ_o, ok_frz, frzQ_o, frzQ_v, ok_iteS, ok_for, ok_whil, ok_ret, ok_retN, ok_expr, ok_brk, ok_cont, ok_pass, ok_var, ok_own, ok_k, ok_glob, ok_gdk, gdkQ_s, ok_callK, kwQ_s, arF, Option.bind_some, Option.map_some, ok_dct, ok_dix, dixQ_k, tst_callK, ok_lset, lsetQ_o, p_rep, ok_prim, ok_and, ok_or, ok_not, ok_iteE, ok_chain, ok_call, ok_cidx, cidQ0, ok_comp, ok_esnil, ok_escons, ok_t0, ok_t1, ok_seq, seqQQ_l, seqQQ_t, seqQQ_s, ok_rng, ok_rng2, ok_zip, zipQ_l, zipQ_t, ok_enum, enumQ_l, p_sorted, eqD_pair, rngQ_i, ok_tand, ok_tor, ok_tnot, tst_var, tst_own, tst_k, tst_prim, tst_ite, tst_chain, tst_call, tst_cidx, ok_bind, ok_ok, ok_no, ok_guard, Res.bind_ok, eqD_int, eqD_bool, eqD_str, eqD_nil, eqD_none, konV, setAll, seqQ_nx, seqQ_rt, seqQ_bk, seqQ_ct, ok_cons, ok_nil, p_add, p_addL, p_addT, p_addS, p_sub, p_mul, p_fdiv, p_mod, p_pow, p_neg, p_eq, p_ne, p_lt, p_le, p_gt, p_ge, p_in, p_notin, p_isN, p_notN, p_isB, p_notB, p_idxL, p_idxT, p_lst0, p_lst1, p_lst2, p_lst3, p_lst4, p_lst5, p_lst6, p_lst7, p_tup0, p_tup1, p_tup2, p_tup3, p_tup4, p_tup5, p_lenL, p_lenT, p_listL, p_listT, p_tupleL, p_tupleT, p_abs, p_max2, p_min2, p_max4, p_intI, p_intB, p_isi, p_rev, p_revT, ok_popS, popQ_o, t_b, t_i, t_n, a_n, a_t, a_l, sM_t, sM_f, sA_0, sA_1, wE_0, wE_1, List.map_cons, List.map_nil, List.set_cons_zero, List.set_cons_succ, List.getElem?_cons_zero, List.getElem?_cons_succ, Nat.reduceAdd, at0, at1, at2, at3, at4, at5, at6, ix0, ix1, ix2, List.length_cons, List.length_nil, List.nil_append, decide_eq_true_eq, onFin_rt, onFin_nx, Bool.not_eq_true', decide_eq_false_iff_not, Int.reducePow, Int.reduceNeg, Int.reduceLT, Int.reduceLE, Nat.reduceLeDiff, Int.reduceToNat, Nat.reducePow, Int.reduceSub, Int.reduceAdd, Int.reduceMul, true_and, and_true, true_or, or_true, decide_true, and_self, if_true, if_false, Bool.false_eq_true, Bool.true_eq_false, reduceCtorEq, not_false_eq_true, not_true_eq_false, reduceIte, p_dictT, dixQ_t, p_sortT, p_ninT, p_dictP, p_tupP, p_dn, p_getT, ok_dput, dputQ_o, ok_dsd, dsdQ_o, frzQ_t, frzQ_k, sM_d, sM_k, ok_dcomp, ditQ_d, ok_disp, dspQ_d, ok_kput, kputQ_o, p_dictK, p_ninK, p_getK, ok_parT, s__law_any_order_2]
    have e : ((m : Int) - 0).toNat = m := by omega
    first
      | exact k os _ (by simpa using hp) ht
      | (rw [e] at hp; exact k os _ hp ht)
def NS : List Str := ["a", "b", "c", "dd", "e", "f", "g", "h", "ii", "zzzzzzzz"]
theorem ns_nd : NS.Nodup := by decide +kernel
theorem rw_alike (r q : Rw) : PySem.W.alike (rwD r) (rwD q) = true := by
  unfold rwD
  simp only [PySem.W.alike, PySem.W.alikeAll, Bool.true_and, Bool.and_true]
  exact alike_ss _ _
theorem rw_depth (r : Rw) : (rwD r).depth ≤ 4 := by
  have := depth_ss r.nx
  unfold rwD
  simp only [PyData.depth, PyData.depthAll]
  omega
theorem rw_sortOk {pl : List Rw} (hl : pl.length ≤ 1000) : sortOk (pl.map rwD) = true := by
  unfold sortOk lenOk
  simp only [Bool.and_eq_true, Bool.or_eq_true, List.all_eq_true]
  refine ⟨⟨⟨decide_eq_true (line_le (by rw [List.length_map]; omega)), fun x hx y hy => ?_⟩, .inl fun x hx => ?_⟩, fun x hx => ?_⟩
  · obtain ⟨p, _, rfl⟩ := List.mem_map.mp hx
    obtain ⟨q, _, rfl⟩ := List.mem_map.mp hy
    exact rw_alike p q
  · obtain ⟨p, _, rfl⟩ := List.mem_map.mp hx
    rfl
  · obtain ⟨p, _, rfl⟩ := List.mem_map.mp hx
    have := rw_depth p
    exact decide_eq_true (by omega)
def sortW (ps : List Rw) : List Rw := ps.mergeSort fun a b => PySem.W.dataLe false id (rwD a) (rwD b)
theorem sort_rw (ps : List Rw) : sortD (ps.map rwD) = (sortW ps).map rwD := by
  unfold sortD sortW
  exact (List.map_mergeSort (f := rwD) (r := fun a b => PySem.W.dataLe false id (rwD a) (rwD b)) (s := PySem.W.dataLe false id) fun _ _ _ _ => rfl).symm
theorem sortW_perm (ps : List Rw) : (sortW ps).Perm ps := List.mergeSort_perm ps _
def nmAt (ns : List Str) (o : Int) : Str := ns[o.toNat]?.getD default
theorem nmAt_rng (ns : List Str) : (rngI ns.length).map (nmAt ns) = ns := by
  unfold rngI
  rw [List.map_map]
  apply List.ext_getElem?
  intro i
  rw [List.getElem?_map]
  by_cases h : i < ns.length
  · rw [List.getElem?_range h, List.getElem?_eq_getElem h]
    show some (nmAt ns (i : Int)) = _
    unfold nmAt
    rw [Int.toNat_natCast, List.getElem?_eq_getElem h]
    rfl
  · rw [List.getElem?_eq_none (by simpa using h), List.getElem?_eq_none (by omega)]
    rfl
theorem p_lst10 {a b c d e f g h i j : PyData} : primF .lst [.d a, .d b, .d c, .d d, .d e, .d f, .d g, .d h, .d i, .d j] = .ok (.d (.list [a, b, c, d, e, f, g, h, i, j])) := nr rfl
theorem plan_ok {W n : Nat} {most : Int} {cs : Cells} {Q : MV × Cells → Prop} (hm0 : 1 ≤ most) (hm : most ≤ 10) (h : Tape cs) (k : ∀ (pl : List Rw) cs, GdP pl → 1 ≤ pl.length → (pl.length : Int) ≤ most → Tape cs → Q (.d (.tuple (pl.map rwD)), cs)) : Ok (R.run Ds gl W (n + 3) i__law_plan [.r 0, .d (.int most)] cs) Q := by
  rw [u__law_plan, ok_fin]
  unfold b__law_plan
  rw [ok_cons]
  simp only [ok_asg, ok_par, ok_ownS, ok_newc, newQ_l, ok_cset, csetQ0, ok_app, appQ_o, ok_ins, insQ_o, ok_frz, frzQ_o, frzQ_v, ok_iteS, ok_for, ok_whil, ok_ret, ok_retN, ok_expr, ok_brk, ok_cont, ok_pass, ok_var, ok_own, ok_k, ok_glob, ok_gdk, gdkQ_s, ok_callK, kwQ_s, arF, Option.bind_some, Option.map_some, ok_dct, ok_dix, dixQ_k, tst_callK, ok_lset, lsetQ_o, p_rep, ok_prim, ok_and, ok_or, ok_not, ok_iteE, ok_chain, ok_call, ok_cidx, cidQ0, ok_comp, ok_esnil, ok_escons, ok_t0, ok_t1, ok_seq, seqQQ_l, seqQQ_t, seqQQ_s, ok_rng, ok_rng2, ok_zip, zipQ_l, zipQ_t, ok_enum, enumQ_l, p_sorted, eqD_pair, rngQ_i, ok_tand, ok_tor, ok_tnot, tst_var, tst_own, tst_k, tst_prim, tst_ite, tst_chain, tst_call, tst_cidx, ok_bind, ok_ok, ok_no, ok_guard, Res.bind_ok, eqD_int, eqD_bool, eqD_str, eqD_nil, eqD_none, konV, setAll, seqQ_nx, seqQ_rt, seqQ_bk, seqQ_ct, ok_cons, ok_nil, p_add, p_addL, p_addT, p_addS, p_sub, p_mul, p_fdiv, p_mod, p_pow, p_neg, p_eq, p_ne, p_lt, p_le, p_gt, p_ge, p_in, p_notin, p_isN, p_notN, p_isB, p_notB, p_idxL, p_idxT, p_lst0, p_lst1, p_lst2, p_lst3, p_lst4, p_lst5, p_lst6, p_lst7, p_tup0, p_tup1, p_tup2, p_tup3, p_tup4, p_tup5, p_lenL, p_lenT, p_listL, p_listT, p_tupleL, p_tupleT, p_abs, p_max2, p_min2, p_max4, p_intI, p_intB, p_isi, p_rev, p_revT, ok_popS, popQ_o, t_b, t_i, t_n, a_n, a_t, a_l, sM_t, sM_f, sA_0, sA_1, wE_0, wE_1, List.map_cons, List.map_nil, List.set_cons_zero, List.set_cons_succ, List.getElem?_cons_zero, List.getElem?_cons_succ, Nat.reduceAdd, at0, at1, at2, at3, at4, at5, at6, ix0, ix1, ix2, List.length_cons, List.length_nil, List.nil_append, decide_eq_true_eq, onFin_rt, onFin_nx, Bool.not_eq_true', decide_eq_false_iff_not, Int.reducePow, Int.reduceNeg, Int.reduceLT, Int.reduceLE, Nat.reduceLeDiff, Int.reduceToNat, Nat.reducePow, Int.reduceSub, Int.reduceAdd, Int.reduceMul, true_and, and_true, true_or, or_true, decide_true, and_self, if_true, if_false, Bool.false_eq_true, Bool.true_eq_false, reduceCtorEq, not_false_eq_true, not_true_eq_false, reduceIte, p_dictT, dixQ_t, p_sortT, p_ninT, p_dictP, p_tupP, p_dn, p_getT, ok_dput, dputQ_o, ok_dsd, dsdQ_o, frzQ_t, frzQ_k, sM_d, sM_k, ok_dcomp, ditQ_d, ok_disp, dspQ_d, ok_kput, kputQ_o, p_dictK, p_ninK, p_getK, ok_parT, s__law_plan_0, p_lst10]
  refine draw_ok h (by omega) (by omega) fun a cs1 a0 a1 h1 => ?_
  simp only [ok_asg, ok_par, ok_ownS, ok_newc, newQ_l, ok_cset, csetQ0, ok_app, appQ_o, ok_ins, insQ_o, ok_frz, frzQ_o, frzQ_v, ok_iteS, ok_for, ok_whil, ok_ret, ok_retN, ok_expr, ok_brk, ok_cont, ok_pass, ok_var, ok_own, ok_k, ok_glob, ok_gdk, gdkQ_s, ok_callK, kwQ_s, arF, Option.bind_some, Option.map_some, ok_dct, ok_dix, dixQ_k, tst_callK, ok_lset, lsetQ_o, p_rep, ok_prim, ok_and, ok_or, ok_not, ok_iteE, ok_chain, ok_call, ok_cidx, cidQ0, ok_comp, ok_esnil, ok_escons, ok_t0, ok_t1, ok_seq, seqQQ_l, seqQQ_t, seqQQ_s, ok_rng, ok_rng2, ok_zip, zipQ_l, zipQ_t, ok_enum, enumQ_l, p_sorted, eqD_pair, rngQ_i, ok_tand, ok_tor, ok_tnot, tst_var, tst_own, tst_k, tst_prim, tst_ite, tst_chain, tst_call, tst_cidx, ok_bind, ok_ok, ok_no, ok_guard, Res.bind_ok, eqD_int, eqD_bool, eqD_str, eqD_nil, eqD_none, konV, setAll, seqQ_nx, seqQ_rt, seqQ_bk, seqQ_ct, ok_cons, ok_nil, p_add, p_addL, p_addT, p_addS, p_sub, p_mul, p_fdiv, p_mod, p_pow, p_neg, p_eq, p_ne, p_lt, p_le, p_gt, p_ge, p_in, p_notin, p_isN, p_notN, p_isB, p_notB, p_idxL, p_idxT, p_lst0, p_lst1, p_lst2, p_lst3, p_lst4, p_lst5, p_lst6, p_lst7, p_tup0, p_tup1, p_tup2, p_tup3, p_tup4, p_tup5, p_lenL, p_lenT, p_listL, p_listT, p_tupleL, p_tupleT, p_abs, p_max2, p_min2, p_max4, p_intI, p_intB, p_isi, p_rev, p_revT, ok_popS, popQ_o, t_b, t_i, t_n, a_n, a_t, a_l, sM_t, sM_f, sA_0, sA_1, wE_0, wE_1, List.map_cons, List.map_nil, List.set_cons_zero, List.set_cons_succ, List.getElem?_cons_zero, List.getElem?_cons_succ, Nat.reduceAdd, at0, at1, at2, at3, at4, at5, at6, ix0, ix1, ix2, List.length_cons, List.length_nil, List.nil_append, decide_eq_true_eq, onFin_rt, onFin_nx, Bool.not_eq_true', decide_eq_false_iff_not, Int.reducePow, Int.reduceNeg, Int.reduceLT, Int.reduceLE, Nat.reduceLeDiff, Int.reduceToNat, Nat.reducePow, Int.reduceSub, Int.reduceAdd, Int.reduceMul, true_and, and_true, true_or, or_true, decide_true, and_self, if_true, if_false, Bool.false_eq_true, Bool.true_eq_false, reduceCtorEq, not_false_eq_true, not_true_eq_false, reduceIte, p_dictT, dixQ_t, p_sortT, p_ninT, p_dictP, p_tupP, p_dn, p_getT, ok_dput, dputQ_o, ok_dsd, dsdQ_o, frzQ_t, frzQ_k, sM_d, sM_k, ok_dcomp, ditQ_d, ok_disp, dspQ_d, ok_kput, kputQ_o, p_dictK, p_ninK, p_getK, ok_parT, p_sl01]
  rw [cut_to (by omega) (by simp; omega)]
  have hns0 : [PyData.str "a", .str "b", .str "c", .str "dd", .str "e", .str "f", .str "g", .str "h", .str "ii", .str "zzzzzzzz"] = NS.map .str := rfl
  rw [hns0, ← List.map_take]
  have hnl : (NS.take (1 + a).toNat).length = (1 + a).toNat := by rw [List.length_take]; simp [NS]; omega
  have hnd : (NS.take (1 + a).toNat).Nodup := List.Sublist.nodup (List.take_sublist _ _) ns_nd
  have hok : ∀ z ∈ NS.take (1 + a).toNat, PyData.strOk z = true := fun z hz => by
    have hz := List.mem_of_mem_take hz
    unfold NS at hz
    simp only [List.mem_cons, List.not_mem_nil, or_false] at hz
    rcases hz with rfl | rfl | rfl | rfl | rfl | rfl | rfl | rfl | rfl | rfl <;> decide +kernel
  generalize NS.take (1 + a).toNat = ns at hnl hnd hok ⊢
  have pick : ∀ (i : Int) (Q : MV → Prop), 0 ≤ i → i < ns.length → (nmAt ns i ∈ ns → Q (.d (.str (nmAt ns i)))) → Ok (atD (ns.map PyData.str) i) Q := fun i Q i0 i1 q => by
    refine ok_at i0 (by rw [List.length_map]; exact i1) fun x hx => ?_
    rw [List.getElem?_map] at hx
    obtain ⟨z, hz, rfl⟩ := Option.map_eq_some_iff.mp hx
    have e : nmAt ns i = z := by unfold nmAt; rw [hz]; rfl
    rw [e] at q
    exact q (List.mem_of_getElem? hz)
  simp only [ok_asg, ok_par, ok_ownS, ok_newc, newQ_l, ok_cset, csetQ0, ok_app, appQ_o, ok_ins, insQ_o, ok_frz, frzQ_o, frzQ_v, ok_iteS, ok_for, ok_whil, ok_ret, ok_retN, ok_expr, ok_brk, ok_cont, ok_pass, ok_var, ok_own, ok_k, ok_glob, ok_gdk, gdkQ_s, ok_callK, kwQ_s, arF, Option.bind_some, Option.map_some, ok_dct, ok_dix, dixQ_k, tst_callK, ok_lset, lsetQ_o, p_rep, ok_prim, ok_and, ok_or, ok_not, ok_iteE, ok_chain, ok_call, ok_cidx, cidQ0, ok_comp, ok_esnil, ok_escons, ok_t0, ok_t1, ok_seq, seqQQ_l, seqQQ_t, seqQQ_s, ok_rng, ok_rng2, ok_zip, zipQ_l, zipQ_t, ok_enum, enumQ_l, p_sorted, eqD_pair, rngQ_i, ok_tand, ok_tor, ok_tnot, tst_var, tst_own, tst_k, tst_prim, tst_ite, tst_chain, tst_call, tst_cidx, ok_bind, ok_ok, ok_no, ok_guard, Res.bind_ok, eqD_int, eqD_bool, eqD_str, eqD_nil, eqD_none, konV, setAll, seqQ_nx, seqQ_rt, seqQ_bk, seqQ_ct, ok_cons, ok_nil, p_add, p_addL, p_addT, p_addS, p_sub, p_mul, p_fdiv, p_mod, p_pow, p_neg, p_eq, p_ne, p_lt, p_le, p_gt, p_ge, p_in, p_notin, p_isN, p_notN, p_isB, p_notB, p_idxL, p_idxT, p_lst0, p_lst1, p_lst2, p_lst3, p_lst4, p_lst5, p_lst6, p_lst7, p_tup0, p_tup1, p_tup2, p_tup3, p_tup4, p_tup5, p_lenL, p_lenT, p_listL, p_listT, p_tupleL, p_tupleT, p_abs, p_max2, p_min2, p_max4, p_intI, p_intB, p_isi, p_rev, p_revT, ok_popS, popQ_o, t_b, t_i, t_n, a_n, a_t, a_l, sM_t, sM_f, sA_0, sA_1, wE_0, wE_1, List.map_cons, List.map_nil, List.set_cons_zero, List.set_cons_succ, List.getElem?_cons_zero, List.getElem?_cons_succ, Nat.reduceAdd, at0, at1, at2, at3, at4, at5, at6, ix0, ix1, ix2, List.length_cons, List.length_nil, List.nil_append, decide_eq_true_eq, onFin_rt, onFin_nx, Bool.not_eq_true', decide_eq_false_iff_not, Int.reducePow, Int.reduceNeg, Int.reduceLT, Int.reduceLE, Nat.reduceLeDiff, Int.reduceToNat, Nat.reducePow, Int.reduceSub, Int.reduceAdd, Int.reduceMul, true_and, and_true, true_or, or_true, decide_true, and_self, if_true, if_false, Bool.false_eq_true, Bool.true_eq_false, reduceCtorEq, not_false_eq_true, not_true_eq_false, reduceIte, p_dictT, dixQ_t, p_sortT, p_ninT, p_dictP, p_tupP, p_dn, p_getT, ok_dput, dputQ_o, ok_dsd, dsdQ_o, frzQ_t, frzQ_k, sM_d, sM_k, ok_dcomp, ditQ_d, ok_disp, dspQ_d, ok_kput, kputQ_o, p_dictK, p_ninK, p_getK, ok_parT, s__law_plan_1, List.length_map]
  refine order_ok (m := ns.length) (by omega) h1 fun os cs2 hop h2 => ?_
  have hol : os.length = ns.length := by rw [hop.length_eq]; simp [rngI]
  have hob : ∀ o ∈ os, 0 ≤ o ∧ o < ns.length := fun o ho => by
    have := hop.mem_iff.mp ho
    unfold rngI at this
    obtain ⟨j, hj, rfl⟩ := List.mem_map.mp this
    have := List.mem_range.mp hj
    omega
  simp only [ok_asg, ok_par, ok_ownS, ok_newc, newQ_l, ok_cset, csetQ0, ok_app, appQ_o, ok_ins, insQ_o, ok_frz, frzQ_o, frzQ_v, ok_iteS, ok_for, ok_whil, ok_ret, ok_retN, ok_expr, ok_brk, ok_cont, ok_pass, ok_var, ok_own, ok_k, ok_glob, ok_gdk, gdkQ_s, ok_callK, kwQ_s, arF, Option.bind_some, Option.map_some, ok_dct, ok_dix, dixQ_k, tst_callK, ok_lset, lsetQ_o, p_rep, ok_prim, ok_and, ok_or, ok_not, ok_iteE, ok_chain, ok_call, ok_cidx, cidQ0, ok_comp, ok_esnil, ok_escons, ok_t0, ok_t1, ok_seq, seqQQ_l, seqQQ_t, seqQQ_s, ok_rng, ok_rng2, ok_zip, zipQ_l, zipQ_t, ok_enum, enumQ_l, p_sorted, eqD_pair, rngQ_i, ok_tand, ok_tor, ok_tnot, tst_var, tst_own, tst_k, tst_prim, tst_ite, tst_chain, tst_call, tst_cidx, ok_bind, ok_ok, ok_no, ok_guard, Res.bind_ok, eqD_int, eqD_bool, eqD_str, eqD_nil, eqD_none, konV, setAll, seqQ_nx, seqQ_rt, seqQ_bk, seqQ_ct, ok_cons, ok_nil, p_add, p_addL, p_addT, p_addS, p_sub, p_mul, p_fdiv, p_mod, p_pow, p_neg, p_eq, p_ne, p_lt, p_le, p_gt, p_ge, p_in, p_notin, p_isN, p_notN, p_isB, p_notB, p_idxL, p_idxT, p_lst0, p_lst1, p_lst2, p_lst3, p_lst4, p_lst5, p_lst6, p_lst7, p_tup0, p_tup1, p_tup2, p_tup3, p_tup4, p_tup5, p_lenL, p_lenT, p_listL, p_listT, p_tupleL, p_tupleT, p_abs, p_max2, p_min2, p_max4, p_intI, p_intB, p_isi, p_rev, p_revT, ok_popS, popQ_o, t_b, t_i, t_n, a_n, a_t, a_l, sM_t, sM_f, sA_0, sA_1, wE_0, wE_1, List.map_cons, List.map_nil, List.set_cons_zero, List.set_cons_succ, List.getElem?_cons_zero, List.getElem?_cons_succ, Nat.reduceAdd, at0, at1, at2, at3, at4, at5, at6, ix0, ix1, ix2, List.length_cons, List.length_nil, List.nil_append, decide_eq_true_eq, onFin_rt, onFin_nx, Bool.not_eq_true', decide_eq_false_iff_not, Int.reducePow, Int.reduceNeg, Int.reduceLT, Int.reduceLE, Nat.reduceLeDiff, Int.reduceToNat, Nat.reducePow, Int.reduceSub, Int.reduceAdd, Int.reduceMul, true_and, and_true, true_or, or_true, decide_true, and_self, if_true, if_false, Bool.false_eq_true, Bool.true_eq_false, reduceCtorEq, not_false_eq_true, not_true_eq_false, reduceIte, p_dictT, dixQ_t, p_sortT, p_ninT, p_dictP, p_tupP, p_dn, p_getT, ok_dput, dputQ_o, ok_dsd, dsdQ_o, frzQ_t, frzQ_k, sM_d, sM_k, ok_dcomp, ditQ_d, ok_disp, dspQ_d, ok_kput, kputQ_o, p_dictK, p_ninK, p_getK, ok_parT]
  simp only [ok_asg, ok_par, ok_ownS, ok_newc, newQ_l, ok_cset, csetQ0, ok_app, appQ_o, ok_ins, insQ_o, ok_frz, frzQ_o, frzQ_v, ok_iteS, ok_for, ok_whil, ok_ret, ok_retN, ok_expr, ok_brk, ok_cont, ok_pass, ok_var, ok_own, ok_k, ok_glob, ok_gdk, gdkQ_s, ok_callK, kwQ_s, arF, Option.bind_some, Option.map_some, ok_dct, ok_dix, dixQ_k, tst_callK, ok_lset, lsetQ_o, p_rep, ok_prim, ok_and, ok_or, ok_not, ok_iteE, ok_chain, ok_call, ok_cidx, cidQ0, ok_comp, ok_esnil, ok_escons, ok_t0, ok_t1, ok_seq, seqQQ_l, seqQQ_t, seqQQ_s, ok_rng, ok_rng2, ok_zip, zipQ_l, zipQ_t, ok_enum, enumQ_l, p_sorted, eqD_pair, rngQ_i, ok_tand, ok_tor, ok_tnot, tst_var, tst_own, tst_k, tst_prim, tst_ite, tst_chain, tst_call, tst_cidx, ok_bind, ok_ok, ok_no, ok_guard, Res.bind_ok, eqD_int, eqD_bool, eqD_str, eqD_nil, eqD_none, konV, setAll, seqQ_nx, seqQ_rt, seqQ_bk, seqQ_ct, ok_cons, ok_nil, p_add, p_addL, p_addT, p_addS, p_sub, p_mul, p_fdiv, p_mod, p_pow, p_neg, p_eq, p_ne, p_lt, p_le, p_gt, p_ge, p_in, p_notin, p_isN, p_notN, p_isB, p_notB, p_idxL, p_idxT, p_lst0, p_lst1, p_lst2, p_lst3, p_lst4, p_lst5, p_lst6, p_lst7, p_tup0, p_tup1, p_tup2, p_tup3, p_tup4, p_tup5, p_lenL, p_lenT, p_listL, p_listT, p_tupleL, p_tupleT, p_abs, p_max2, p_min2, p_max4, p_intI, p_intB, p_isi, p_rev, p_revT, ok_popS, popQ_o, t_b, t_i, t_n, a_n, a_t, a_l, sM_t, sM_f, sA_0, sA_1, wE_0, wE_1, List.map_cons, List.map_nil, List.set_cons_zero, List.set_cons_succ, List.getElem?_cons_zero, List.getElem?_cons_succ, Nat.reduceAdd, at0, at1, at2, at3, at4, at5, at6, ix0, ix1, ix2, List.length_cons, List.length_nil, List.nil_append, decide_eq_true_eq, onFin_rt, onFin_nx, Bool.not_eq_true', decide_eq_false_iff_not, Int.reducePow, Int.reduceNeg, Int.reduceLT, Int.reduceLE, Nat.reduceLeDiff, Int.reduceToNat, Nat.reducePow, Int.reduceSub, Int.reduceAdd, Int.reduceMul, true_and, and_true, true_or, or_true, decide_true, and_self, if_true, if_false, Bool.false_eq_true, Bool.true_eq_false, reduceCtorEq, not_false_eq_true, not_true_eq_false, reduceIte, p_dictT, dixQ_t, p_sortT, p_ninT, p_dictP, p_tupP, p_dn, p_getT, ok_dput, dputQ_o, ok_dsd, dsdQ_o, frzQ_t, frzQ_k, sM_d, sM_k, ok_dcomp, ditQ_d, ok_disp, dspQ_d, ok_kput, kputQ_o, p_dictK, p_ninK, p_getK, ok_parT, s__law_plan_2]
  simp only [ok_asg, ok_par, ok_ownS, ok_newc, newQ_l, ok_cset, csetQ0, ok_app, appQ_o, ok_ins, insQ_o, ok_frz, frzQ_o, frzQ_v, ok_iteS, ok_for, ok_whil, ok_ret, ok_retN, ok_expr, ok_brk, ok_cont, ok_pass, ok_var, ok_own, ok_k, ok_glob, ok_gdk, gdkQ_s, ok_callK, kwQ_s, arF, Option.bind_some, Option.map_some, ok_dct, ok_dix, dixQ_k, tst_callK, ok_lset, lsetQ_o, p_rep, ok_prim, ok_and, ok_or, ok_not, ok_iteE, ok_chain, ok_call, ok_cidx, cidQ0, ok_comp, ok_esnil, ok_escons, ok_t0, ok_t1, ok_seq, seqQQ_l, seqQQ_t, seqQQ_s, ok_rng, ok_rng2, ok_zip, zipQ_l, zipQ_t, ok_enum, enumQ_l, p_sorted, eqD_pair, rngQ_i, ok_tand, ok_tor, ok_tnot, tst_var, tst_own, tst_k, tst_prim, tst_ite, tst_chain, tst_call, tst_cidx, ok_bind, ok_ok, ok_no, ok_guard, Res.bind_ok, eqD_int, eqD_bool, eqD_str, eqD_nil, eqD_none, konV, setAll, seqQ_nx, seqQ_rt, seqQ_bk, seqQ_ct, ok_cons, ok_nil, p_add, p_addL, p_addT, p_addS, p_sub, p_mul, p_fdiv, p_mod, p_pow, p_neg, p_eq, p_ne, p_lt, p_le, p_gt, p_ge, p_in, p_notin, p_isN, p_notN, p_isB, p_notB, p_idxL, p_idxT, p_lst0, p_lst1, p_lst2, p_lst3, p_lst4, p_lst5, p_lst6, p_lst7, p_tup0, p_tup1, p_tup2, p_tup3, p_tup4, p_tup5, p_lenL, p_lenT, p_listL, p_listT, p_tupleL, p_tupleT, p_abs, p_max2, p_min2, p_max4, p_intI, p_intB, p_isi, p_rev, p_revT, ok_popS, popQ_o, t_b, t_i, t_n, a_n, a_t, a_l, sM_t, sM_f, sA_0, sA_1, wE_0, wE_1, List.map_cons, List.map_nil, List.set_cons_zero, List.set_cons_succ, List.getElem?_cons_zero, List.getElem?_cons_succ, Nat.reduceAdd, at0, at1, at2, at3, at4, at5, at6, ix0, ix1, ix2, List.length_cons, List.length_nil, List.nil_append, decide_eq_true_eq, onFin_rt, onFin_nx, Bool.not_eq_true', decide_eq_false_iff_not, Int.reducePow, Int.reduceNeg, Int.reduceLT, Int.reduceLE, Nat.reduceLeDiff, Int.reduceToNat, Nat.reducePow, Int.reduceSub, Int.reduceAdd, Int.reduceMul, true_and, and_true, true_or, or_true, decide_true, and_self, if_true, if_false, Bool.false_eq_true, Bool.true_eq_false, reduceCtorEq, not_false_eq_true, not_true_eq_false, reduceIte, p_dictT, dixQ_t, p_sortT, p_ninT, p_dictP, p_tupP, p_dn, p_getT, ok_dput, dputQ_o, ok_dsd, dsdQ_o, frzQ_t, frzQ_k, sM_d, sM_k, ok_dcomp, ditQ_d, ok_disp, dspQ_d, ok_kput, kputQ_o, p_dictK, p_ninK, p_getK, ok_parT, s__law_plan_3, Int.sub_zero, List.length_map]
  refine ⟨rngOk_of (by omega) (by omega) (by omega) (by omega), ?_⟩
  refine ok_loopL (fun i env cs' => ∃ (fs : List Rw) (s5 s6 s7 s8 s9 : Sl), env = [.v (.r 0), .v (.d (.int most)), .v (.d (.list (ns.map .str))), .v (.d (.tuple (os.map .int))), .ol (fs.map rwD), s5, s6, s7, s8, s9] ∧ Tape cs' ∧ fs.map (·.nm) = (os.take i).map (nmAt ns) ∧ fs.length = i ∧ ∀ r ∈ fs, (1 ≤ r.tk ∧ r.tk ≤ 20) ∧ r.nx.length ≤ 2 ∧ ∀ y ∈ r.nx, y ∈ ns) _ 0 _ _ ⟨[], _, _, _, _, _, rfl, h2, rfl, rfl, fun x hx => by cases hx⟩ ?_ ?_
  · rintro i x env cs' hx ⟨fs, s5, s6, s7, s8, s9, rfl, ht, hfn, hfl, hb⟩
    obtain ⟨rfl, hi⟩ := rngL_at _ _ _ _ hx
    have hi : i < ns.length := by omega
    rw [ok_lstep, Nat.zero_add, Int.zero_add]
    rw [Nat.zero_add] at hfl hfn
    have hoi : os[i]? = some (os[i]'(by omega)) := List.getElem?_eq_getElem (by omega)
    generalize os[i]'(by omega) = o1 at hoi
    have ho1 := hob o1 (List.mem_of_getElem? hoi)
    have e1 : atD (os.map PyData.int) (i : Int) = .ok (.d (.int o1)) := atD_nat (n := i) (by omega) (by rw [List.getElem?_map, hoi]; rfl)
    have pko : ∀ (j : Int) (Q : MV → Prop), 0 ≤ j → j < ns.length → (∀ o : Int, 0 ≤ o ∧ o < ns.length → Q (.d (.int o))) → Ok (atD (os.map PyData.int) j) Q := fun j Q j0 j1 q => by
      refine ok_at j0 (by rw [List.length_map]; omega) fun x hx => ?_
      rw [List.getElem?_map] at hx
      obtain ⟨o, ho, rfl⟩ := Option.map_eq_some_iff.mp hx
      exact q o (hob o (List.mem_of_getElem? ho))
    have tk : os.take (i + 1) = os.take i ++ [o1] := by rw [List.take_succ, hoi]; rfl
    unfold b__law_plan_3
    simp only [ok_asg, ok_par, ok_ownS, ok_newc, newQ_l, ok_cset, csetQ0, ok_app, appQ_o, ok_ins, insQ_o, ok_frz, frzQ_o, frzQ_v, ok_iteS, ok_for, ok_whil, ok_ret, ok_retN, ok_expr, ok_brk, ok_cont, ok_pass, ok_var, ok_own, ok_k, ok_glob, ok_gdk, gdkQ_s, ok_callK, kwQ_s, arF, Option.bind_some, Option.map_some, ok_dct, ok_dix, dixQ_k, tst_callK, ok_lset, lsetQ_o, p_rep, ok_prim, ok_and, ok_or, ok_not, ok_iteE, ok_chain, ok_call, ok_cidx, cidQ0, ok_comp, ok_esnil, ok_escons, ok_t0, ok_t1, ok_seq, seqQQ_l, seqQQ_t, seqQQ_s, ok_rng, ok_rng2, ok_zip, zipQ_l, zipQ_t, ok_enum, enumQ_l, p_sorted, eqD_pair, rngQ_i, ok_tand, ok_tor, ok_tnot, tst_var, tst_own, tst_k, tst_prim, tst_ite, tst_chain, tst_call, tst_cidx, ok_bind, ok_ok, ok_no, ok_guard, Res.bind_ok, eqD_int, eqD_bool, eqD_str, eqD_nil, eqD_none, konV, setAll, seqQ_nx, seqQ_rt, seqQ_bk, seqQ_ct, ok_cons, ok_nil, p_add, p_addL, p_addT, p_addS, p_sub, p_mul, p_fdiv, p_mod, p_pow, p_neg, p_eq, p_ne, p_lt, p_le, p_gt, p_ge, p_in, p_notin, p_isN, p_notN, p_isB, p_notB, p_idxL, p_idxT, p_lst0, p_lst1, p_lst2, p_lst3, p_lst4, p_lst5, p_lst6, p_lst7, p_tup0, p_tup1, p_tup2, p_tup3, p_tup4, p_tup5, p_lenL, p_lenT, p_listL, p_listT, p_tupleL, p_tupleT, p_abs, p_max2, p_min2, p_max4, p_intI, p_intB, p_isi, p_rev, p_revT, ok_popS, popQ_o, t_b, t_i, t_n, a_n, a_t, a_l, sM_t, sM_f, sA_0, sA_1, wE_0, wE_1, List.map_cons, List.map_nil, List.set_cons_zero, List.set_cons_succ, List.getElem?_cons_zero, List.getElem?_cons_succ, Nat.reduceAdd, at0, at1, at2, at3, at4, at5, at6, ix0, ix1, ix2, List.length_cons, List.length_nil, List.nil_append, decide_eq_true_eq, onFin_rt, onFin_nx, Bool.not_eq_true', decide_eq_false_iff_not, Int.reducePow, Int.reduceNeg, Int.reduceLT, Int.reduceLE, Nat.reduceLeDiff, Int.reduceToNat, Nat.reducePow, Int.reduceSub, Int.reduceAdd, Int.reduceMul, true_and, and_true, true_or, or_true, decide_true, and_self, if_true, if_false, Bool.false_eq_true, Bool.true_eq_false, reduceCtorEq, not_false_eq_true, not_true_eq_false, reduceIte, p_dictT, dixQ_t, p_sortT, p_ninT, p_dictP, p_tupP, p_dn, p_getT, ok_dput, dputQ_o, ok_dsd, dsdQ_o, frzQ_t, frzQ_k, sM_d, sM_k, ok_dcomp, ditQ_d, ok_disp, dspQ_d, ok_kput, kputQ_o, p_dictK, p_ninK, p_getK, ok_parT, s__law_plan_3_0, e1]
    refine pick _ _ ho1.1 ho1.2 fun hz1 => ?_
    generalize hz : nmAt ns o1 = z1 at hz1 ⊢
    try simp only [ok_asg, ok_par, ok_ownS, ok_newc, newQ_l, ok_cset, csetQ0, ok_app, appQ_o, ok_ins, insQ_o, ok_frz, frzQ_o, frzQ_v, ok_iteS, ok_for, ok_whil, ok_ret, ok_retN, ok_expr, ok_brk, ok_cont, ok_pass, ok_var, ok_own, ok_k, ok_glob, ok_gdk, gdkQ_s, ok_callK, kwQ_s, arF, Option.bind_some, Option.map_some, ok_dct, ok_dix, dixQ_k, tst_callK, ok_lset, lsetQ_o, p_rep, ok_prim, ok_and, ok_or, ok_not, ok_iteE, ok_chain, ok_call, ok_cidx, cidQ0, ok_comp, ok_esnil, ok_escons, ok_t0, ok_t1, ok_seq, seqQQ_l, seqQQ_t, seqQQ_s, ok_rng, ok_rng2, ok_zip, zipQ_l, zipQ_t, ok_enum, enumQ_l, p_sorted, eqD_pair, rngQ_i, ok_tand, ok_tor, ok_tnot, tst_var, tst_own, tst_k, tst_prim, tst_ite, tst_chain, tst_call, tst_cidx, ok_bind, ok_ok, ok_no, ok_guard, Res.bind_ok, eqD_int, eqD_bool, eqD_str, eqD_nil, eqD_none, konV, setAll, seqQ_nx, seqQ_rt, seqQ_bk, seqQ_ct, ok_cons, ok_nil, p_add, p_addL, p_addT, p_addS, p_sub, p_mul, p_fdiv, p_mod, p_pow, p_neg, p_eq, p_ne, p_lt, p_le, p_gt, p_ge, p_in, p_notin, p_isN, p_notN, p_isB, p_notB, p_idxL, p_idxT, p_lst0, p_lst1, p_lst2, p_lst3, p_lst4, p_lst5, p_lst6, p_lst7, p_tup0, p_tup1, p_tup2, p_tup3, p_tup4, p_tup5, p_lenL, p_lenT, p_listL, p_listT, p_tupleL, p_tupleT, p_abs, p_max2, p_min2, p_max4, p_intI, p_intB, p_isi, p_rev, p_revT, ok_popS, popQ_o, t_b, t_i, t_n, a_n, a_t, a_l, sM_t, sM_f, sA_0, sA_1, wE_0, wE_1, List.map_cons, List.map_nil, List.set_cons_zero, List.set_cons_succ, List.getElem?_cons_zero, List.getElem?_cons_succ, Nat.reduceAdd, at0, at1, at2, at3, at4, at5, at6, ix0, ix1, ix2, List.length_cons, List.length_nil, List.nil_append, decide_eq_true_eq, onFin_rt, onFin_nx, Bool.not_eq_true', decide_eq_false_iff_not, Int.reducePow, Int.reduceNeg, Int.reduceLT, Int.reduceLE, Nat.reduceLeDiff, Int.reduceToNat, Nat.reducePow, Int.reduceSub, Int.reduceAdd, Int.reduceMul, true_and, and_true, true_or, or_true, decide_true, and_self, if_true, if_false, Bool.false_eq_true, Bool.true_eq_false, reduceCtorEq, not_false_eq_true, not_true_eq_false, reduceIte, p_dictT, dixQ_t, p_sortT, p_ninT, p_dictP, p_tupP, p_dn, p_getT, ok_dput, dputQ_o, ok_dsd, dsdQ_o, frzQ_t, frzQ_k, sM_d, sM_k, ok_dcomp, ditQ_d, ok_disp, dspQ_d, ok_kput, kputQ_o, p_dictK, p_ninK, p_getK, ok_parT]
    simp only [ok_asg, ok_par, ok_ownS, ok_newc, newQ_l, ok_cset, csetQ0, ok_app, appQ_o, ok_ins, insQ_o, ok_frz, frzQ_o, frzQ_v, ok_iteS, ok_for, ok_whil, ok_ret, ok_retN, ok_expr, ok_brk, ok_cont, ok_pass, ok_var, ok_own, ok_k, ok_glob, ok_gdk, gdkQ_s, ok_callK, kwQ_s, arF, Option.bind_some, Option.map_some, ok_dct, ok_dix, dixQ_k, tst_callK, ok_lset, lsetQ_o, p_rep, ok_prim, ok_and, ok_or, ok_not, ok_iteE, ok_chain, ok_call, ok_cidx, cidQ0, ok_comp, ok_esnil, ok_escons, ok_t0, ok_t1, ok_seq, seqQQ_l, seqQQ_t, seqQQ_s, ok_rng, ok_rng2, ok_zip, zipQ_l, zipQ_t, ok_enum, enumQ_l, p_sorted, eqD_pair, rngQ_i, ok_tand, ok_tor, ok_tnot, tst_var, tst_own, tst_k, tst_prim, tst_ite, tst_chain, tst_call, tst_cidx, ok_bind, ok_ok, ok_no, ok_guard, Res.bind_ok, eqD_int, eqD_bool, eqD_str, eqD_nil, eqD_none, konV, setAll, seqQ_nx, seqQ_rt, seqQ_bk, seqQ_ct, ok_cons, ok_nil, p_add, p_addL, p_addT, p_addS, p_sub, p_mul, p_fdiv, p_mod, p_pow, p_neg, p_eq, p_ne, p_lt, p_le, p_gt, p_ge, p_in, p_notin, p_isN, p_notN, p_isB, p_notB, p_idxL, p_idxT, p_lst0, p_lst1, p_lst2, p_lst3, p_lst4, p_lst5, p_lst6, p_lst7, p_tup0, p_tup1, p_tup2, p_tup3, p_tup4, p_tup5, p_lenL, p_lenT, p_listL, p_listT, p_tupleL, p_tupleT, p_abs, p_max2, p_min2, p_max4, p_intI, p_intB, p_isi, p_rev, p_revT, ok_popS, popQ_o, t_b, t_i, t_n, a_n, a_t, a_l, sM_t, sM_f, sA_0, sA_1, wE_0, wE_1, List.map_cons, List.map_nil, List.set_cons_zero, List.set_cons_succ, List.getElem?_cons_zero, List.getElem?_cons_succ, Nat.reduceAdd, at0, at1, at2, at3, at4, at5, at6, ix0, ix1, ix2, List.length_cons, List.length_nil, List.nil_append, decide_eq_true_eq, onFin_rt, onFin_nx, Bool.not_eq_true', decide_eq_false_iff_not, Int.reducePow, Int.reduceNeg, Int.reduceLT, Int.reduceLE, Nat.reduceLeDiff, Int.reduceToNat, Nat.reducePow, Int.reduceSub, Int.reduceAdd, Int.reduceMul, true_and, and_true, true_or, or_true, decide_true, and_self, if_true, if_false, Bool.false_eq_true, Bool.true_eq_false, reduceCtorEq, not_false_eq_true, not_true_eq_false, reduceIte, p_dictT, dixQ_t, p_sortT, p_ninT, p_dictP, p_tupP, p_dn, p_getT, ok_dput, dputQ_o, ok_dsd, dsdQ_o, frzQ_t, frzQ_k, sM_d, sM_k, ok_dcomp, ditQ_d, ok_disp, dspQ_d, ok_kput, kputQ_o, p_dictK, p_ninK, p_getK, ok_parT, s__law_plan_3_1, List.length_map]
    refine ⟨by omega, pko _ _ (Int.emod_nonneg _ (by omega)) (Int.emod_lt_of_pos _ (by omega)) fun o ho => ?_⟩
    try simp only [ok_asg, ok_par, ok_ownS, ok_newc, newQ_l, ok_cset, csetQ0, ok_app, appQ_o, ok_ins, insQ_o, ok_frz, frzQ_o, frzQ_v, ok_iteS, ok_for, ok_whil, ok_ret, ok_retN, ok_expr, ok_brk, ok_cont, ok_pass, ok_var, ok_own, ok_k, ok_glob, ok_gdk, gdkQ_s, ok_callK, kwQ_s, arF, Option.bind_some, Option.map_some, ok_dct, ok_dix, dixQ_k, tst_callK, ok_lset, lsetQ_o, p_rep, ok_prim, ok_and, ok_or, ok_not, ok_iteE, ok_chain, ok_call, ok_cidx, cidQ0, ok_comp, ok_esnil, ok_escons, ok_t0, ok_t1, ok_seq, seqQQ_l, seqQQ_t, seqQQ_s, ok_rng, ok_rng2, ok_zip, zipQ_l, zipQ_t, ok_enum, enumQ_l, p_sorted, eqD_pair, rngQ_i, ok_tand, ok_tor, ok_tnot, tst_var, tst_own, tst_k, tst_prim, tst_ite, tst_chain, tst_call, tst_cidx, ok_bind, ok_ok, ok_no, ok_guard, Res.bind_ok, eqD_int, eqD_bool, eqD_str, eqD_nil, eqD_none, konV, setAll, seqQ_nx, seqQ_rt, seqQ_bk, seqQ_ct, ok_cons, ok_nil, p_add, p_addL, p_addT, p_addS, p_sub, p_mul, p_fdiv, p_mod, p_pow, p_neg, p_eq, p_ne, p_lt, p_le, p_gt, p_ge, p_in, p_notin, p_isN, p_notN, p_isB, p_notB, p_idxL, p_idxT, p_lst0, p_lst1, p_lst2, p_lst3, p_lst4, p_lst5, p_lst6, p_lst7, p_tup0, p_tup1, p_tup2, p_tup3, p_tup4, p_tup5, p_lenL, p_lenT, p_listL, p_listT, p_tupleL, p_tupleT, p_abs, p_max2, p_min2, p_max4, p_intI, p_intB, p_isi, p_rev, p_revT, ok_popS, popQ_o, t_b, t_i, t_n, a_n, a_t, a_l, sM_t, sM_f, sA_0, sA_1, wE_0, wE_1, List.map_cons, List.map_nil, List.set_cons_zero, List.set_cons_succ, List.getElem?_cons_zero, List.getElem?_cons_succ, Nat.reduceAdd, at0, at1, at2, at3, at4, at5, at6, ix0, ix1, ix2, List.length_cons, List.length_nil, List.nil_append, decide_eq_true_eq, onFin_rt, onFin_nx, Bool.not_eq_true', decide_eq_false_iff_not, Int.reducePow, Int.reduceNeg, Int.reduceLT, Int.reduceLE, Nat.reduceLeDiff, Int.reduceToNat, Nat.reducePow, Int.reduceSub, Int.reduceAdd, Int.reduceMul, true_and, and_true, true_or, or_true, decide_true, and_self, if_true, if_false, Bool.false_eq_true, Bool.true_eq_false, reduceCtorEq, not_false_eq_true, not_true_eq_false, reduceIte, p_dictT, dixQ_t, p_sortT, p_ninT, p_dictP, p_tupP, p_dn, p_getT, ok_dput, dputQ_o, ok_dsd, dsdQ_o, frzQ_t, frzQ_k, sM_d, sM_k, ok_dcomp, ditQ_d, ok_disp, dspQ_d, ok_kput, kputQ_o, p_dictK, p_ninK, p_getK, ok_parT]
    refine pick _ _ ho.1 ho.2 fun hz2 => ?_
    generalize nmAt ns o = z2 at hz2 ⊢
    try simp only [ok_asg, ok_par, ok_ownS, ok_newc, newQ_l, ok_cset, csetQ0, ok_app, appQ_o, ok_ins, insQ_o, ok_frz, frzQ_o, frzQ_v, ok_iteS, ok_for, ok_whil, ok_ret, ok_retN, ok_expr, ok_brk, ok_cont, ok_pass, ok_var, ok_own, ok_k, ok_glob, ok_gdk, gdkQ_s, ok_callK, kwQ_s, arF, Option.bind_some, Option.map_some, ok_dct, ok_dix, dixQ_k, tst_callK, ok_lset, lsetQ_o, p_rep, ok_prim, ok_and, ok_or, ok_not, ok_iteE, ok_chain, ok_call, ok_cidx, cidQ0, ok_comp, ok_esnil, ok_escons, ok_t0, ok_t1, ok_seq, seqQQ_l, seqQQ_t, seqQQ_s, ok_rng, ok_rng2, ok_zip, zipQ_l, zipQ_t, ok_enum, enumQ_l, p_sorted, eqD_pair, rngQ_i, ok_tand, ok_tor, ok_tnot, tst_var, tst_own, tst_k, tst_prim, tst_ite, tst_chain, tst_call, tst_cidx, ok_bind, ok_ok, ok_no, ok_guard, Res.bind_ok, eqD_int, eqD_bool, eqD_str, eqD_nil, eqD_none, konV, setAll, seqQ_nx, seqQ_rt, seqQ_bk, seqQ_ct, ok_cons, ok_nil, p_add, p_addL, p_addT, p_addS, p_sub, p_mul, p_fdiv, p_mod, p_pow, p_neg, p_eq, p_ne, p_lt, p_le, p_gt, p_ge, p_in, p_notin, p_isN, p_notN, p_isB, p_notB, p_idxL, p_idxT, p_lst0, p_lst1, p_lst2, p_lst3, p_lst4, p_lst5, p_lst6, p_lst7, p_tup0, p_tup1, p_tup2, p_tup3, p_tup4, p_tup5, p_lenL, p_lenT, p_listL, p_listT, p_tupleL, p_tupleT, p_abs, p_max2, p_min2, p_max4, p_intI, p_intB, p_isi, p_rev, p_revT, ok_popS, popQ_o, t_b, t_i, t_n, a_n, a_t, a_l, sM_t, sM_f, sA_0, sA_1, wE_0, wE_1, List.map_cons, List.map_nil, List.set_cons_zero, List.set_cons_succ, List.getElem?_cons_zero, List.getElem?_cons_succ, Nat.reduceAdd, at0, at1, at2, at3, at4, at5, at6, ix0, ix1, ix2, List.length_cons, List.length_nil, List.nil_append, decide_eq_true_eq, onFin_rt, onFin_nx, Bool.not_eq_true', decide_eq_false_iff_not, Int.reducePow, Int.reduceNeg, Int.reduceLT, Int.reduceLE, Nat.reduceLeDiff, Int.reduceToNat, Nat.reducePow, Int.reduceSub, Int.reduceAdd, Int.reduceMul, true_and, and_true, true_or, or_true, decide_true, and_self, if_true, if_false, Bool.false_eq_true, Bool.true_eq_false, reduceCtorEq, not_false_eq_true, not_true_eq_false, reduceIte, p_dictT, dixQ_t, p_sortT, p_ninT, p_dictP, p_tupP, p_dn, p_getT, ok_dput, dputQ_o, ok_dsd, dsdQ_o, frzQ_t, frzQ_k, sM_d, sM_k, ok_dcomp, ditQ_d, ok_disp, dspQ_d, ok_kput, kputQ_o, p_dictK, p_ninK, p_getK, ok_parT]
    have fin : ∀ (z2 : Str) (cs : Cells), z2 ∈ ns → Tape cs → Ok (evSs ⟨R.run Ds gl W (n + 2), gl, W⟩ (.cons s__law_plan_3_3 (.cons s__law_plan_3_4 (.cons s__law_plan_3_5 .nil))) [.v (.r 0), .v (.d (.int most)), .v (.d (.list (ns.map .str))), .v (.d (.tuple (os.map .int))), .ol (fs.map rwD), .v (.d (.int i)), .v (.d (.str z1)), .v (.d (.str z2)), s8, s9] cs)
      fun r => (match r.1 with
        | .nx => ∃ (fs : List Rw) (s5 s6 s7 s8 s9 : Sl), r.2.1 = [.v (.r 0), .v (.d (.int most)), .v (.d (.list (ns.map .str))), .v (.d (.tuple (os.map .int))), .ol (fs.map rwD), s5, s6, s7, s8, s9] ∧ Tape r.2.2 ∧ fs.map (·.nm) = (os.take (i + 1)).map (nmAt ns) ∧ fs.length = i + 1 ∧ ∀ r ∈ fs, (1 ≤ r.tk ∧ r.tk ≤ 20) ∧ r.nx.length ≤ 2 ∧ ∀ y ∈ r.nx, y ∈ ns
        | _ => False) := fun z2 cs hz2 ht => by
      rw [ok_cons]
      simp only [ok_asg, ok_par, ok_ownS, ok_newc, newQ_l, ok_cset, csetQ0, ok_app, appQ_o, ok_ins, insQ_o, ok_frz, frzQ_o, frzQ_v, ok_iteS, ok_for, ok_whil, ok_ret, ok_retN, ok_expr, ok_brk, ok_cont, ok_pass, ok_var, ok_own, ok_k, ok_glob, ok_gdk, gdkQ_s, ok_callK, kwQ_s, arF, Option.bind_some, Option.map_some, ok_dct, ok_dix, dixQ_k, tst_callK, ok_lset, lsetQ_o, p_rep, ok_prim, ok_and, ok_or, ok_not, ok_iteE, ok_chain, ok_call, ok_cidx, cidQ0, ok_comp, ok_esnil, ok_escons, ok_t0, ok_t1, ok_seq, seqQQ_l, seqQQ_t, seqQQ_s, ok_rng, ok_rng2, ok_zip, zipQ_l, zipQ_t, ok_enum, enumQ_l, p_sorted, eqD_pair, rngQ_i, ok_tand, ok_tor, ok_tnot, tst_var, tst_own, tst_k, tst_prim, tst_ite, tst_chain, tst_call, tst_cidx, ok_bind, ok_ok, ok_no, ok_guard, Res.bind_ok, eqD_int, eqD_bool, eqD_str, eqD_nil, eqD_none, konV, setAll, seqQ_nx, seqQ_rt, seqQ_bk, seqQ_ct, ok_cons, ok_nil, p_add, p_addL, p_addT, p_addS, p_sub, p_mul, p_fdiv, p_mod, p_pow, p_neg, p_eq, p_ne, p_lt, p_le, p_gt, p_ge, p_in, p_notin, p_isN, p_notN, p_isB, p_notB, p_idxL, p_idxT, p_lst0, p_lst1, p_lst2, p_lst3, p_lst4, p_lst5, p_lst6, p_lst7, p_tup0, p_tup1, p_tup2, p_tup3, p_tup4, p_tup5, p_lenL, p_lenT, p_listL, p_listT, p_tupleL, p_tupleT, p_abs, p_max2, p_min2, p_max4, p_intI, p_intB, p_isi, p_rev, p_revT, ok_popS, popQ_o, t_b, t_i, t_n, a_n, a_t, a_l, sM_t, sM_f, sA_0, sA_1, wE_0, wE_1, List.map_cons, List.map_nil, List.set_cons_zero, List.set_cons_succ, List.getElem?_cons_zero, List.getElem?_cons_succ, Nat.reduceAdd, at0, at1, at2, at3, at4, at5, at6, ix0, ix1, ix2, List.length_cons, List.length_nil, List.nil_append, decide_eq_true_eq, onFin_rt, onFin_nx, Bool.not_eq_true', decide_eq_false_iff_not, Int.reducePow, Int.reduceNeg, Int.reduceLT, Int.reduceLE, Nat.reduceLeDiff, Int.reduceToNat, Nat.reducePow, Int.reduceSub, Int.reduceAdd, Int.reduceMul, true_and, and_true, true_or, or_true, decide_true, and_self, if_true, if_false, Bool.false_eq_true, Bool.true_eq_false, reduceCtorEq, not_false_eq_true, not_true_eq_false, reduceIte, p_dictT, dixQ_t, p_sortT, p_ninT, p_dictP, p_tupP, p_dn, p_getT, ok_dput, dputQ_o, ok_dsd, dsdQ_o, frzQ_t, frzQ_k, sM_d, sM_k, ok_dcomp, ditQ_d, ok_disp, dspQ_d, ok_kput, kputQ_o, p_dictK, p_ninK, p_getK, ok_parT, s__law_plan_3_3, List.length_map]
      refine draw_ok ht (by omega) (by omega) fun b cs3 b0 b1 h3 => ?_
      simp only [ok_asg, ok_par, ok_ownS, ok_newc, newQ_l, ok_cset, csetQ0, ok_app, appQ_o, ok_ins, insQ_o, ok_frz, frzQ_o, frzQ_v, ok_iteS, ok_for, ok_whil, ok_ret, ok_retN, ok_expr, ok_brk, ok_cont, ok_pass, ok_var, ok_own, ok_k, ok_glob, ok_gdk, gdkQ_s, ok_callK, kwQ_s, arF, Option.bind_some, Option.map_some, ok_dct, ok_dix, dixQ_k, tst_callK, ok_lset, lsetQ_o, p_rep, ok_prim, ok_and, ok_or, ok_not, ok_iteE, ok_chain, ok_call, ok_cidx, cidQ0, ok_comp, ok_esnil, ok_escons, ok_t0, ok_t1, ok_seq, seqQQ_l, seqQQ_t, seqQQ_s, ok_rng, ok_rng2, ok_zip, zipQ_l, zipQ_t, ok_enum, enumQ_l, p_sorted, eqD_pair, rngQ_i, ok_tand, ok_tor, ok_tnot, tst_var, tst_own, tst_k, tst_prim, tst_ite, tst_chain, tst_call, tst_cidx, ok_bind, ok_ok, ok_no, ok_guard, Res.bind_ok, eqD_int, eqD_bool, eqD_str, eqD_nil, eqD_none, konV, setAll, seqQ_nx, seqQ_rt, seqQ_bk, seqQ_ct, ok_cons, ok_nil, p_add, p_addL, p_addT, p_addS, p_sub, p_mul, p_fdiv, p_mod, p_pow, p_neg, p_eq, p_ne, p_lt, p_le, p_gt, p_ge, p_in, p_notin, p_isN, p_notN, p_isB, p_notB, p_idxL, p_idxT, p_lst0, p_lst1, p_lst2, p_lst3, p_lst4, p_lst5, p_lst6, p_lst7, p_tup0, p_tup1, p_tup2, p_tup3, p_tup4, p_tup5, p_lenL, p_lenT, p_listL, p_listT, p_tupleL, p_tupleT, p_abs, p_max2, p_min2, p_max4, p_intI, p_intB, p_isi, p_rev, p_revT, ok_popS, popQ_o, t_b, t_i, t_n, a_n, a_t, a_l, sM_t, sM_f, sA_0, sA_1, wE_0, wE_1, List.map_cons, List.map_nil, List.set_cons_zero, List.set_cons_succ, List.getElem?_cons_zero, List.getElem?_cons_succ, Nat.reduceAdd, at0, at1, at2, at3, at4, at5, at6, ix0, ix1, ix2, List.length_cons, List.length_nil, List.nil_append, decide_eq_true_eq, onFin_rt, onFin_nx, Bool.not_eq_true', decide_eq_false_iff_not, Int.reducePow, Int.reduceNeg, Int.reduceLT, Int.reduceLE, Nat.reduceLeDiff, Int.reduceToNat, Nat.reducePow, Int.reduceSub, Int.reduceAdd, Int.reduceMul, true_and, and_true, true_or, or_true, decide_true, and_self, if_true, if_false, Bool.false_eq_true, Bool.true_eq_false, reduceCtorEq, not_false_eq_true, not_true_eq_false, reduceIte, p_dictT, dixQ_t, p_sortT, p_ninT, p_dictP, p_tupP, p_dn, p_getT, ok_dput, dputQ_o, ok_dsd, dsdQ_o, frzQ_t, frzQ_k, sM_d, sM_k, ok_dcomp, ditQ_d, ok_disp, dspQ_d, ok_kput, kputQ_o, p_dictK, p_ninK, p_getK, ok_parT]
      refine pick _ _ b0 b1 fun hz3 => ?_
      generalize nmAt ns b = z3 at hz3 ⊢
      try simp only [ok_asg, ok_par, ok_ownS, ok_newc, newQ_l, ok_cset, csetQ0, ok_app, appQ_o, ok_ins, insQ_o, ok_frz, frzQ_o, frzQ_v, ok_iteS, ok_for, ok_whil, ok_ret, ok_retN, ok_expr, ok_brk, ok_cont, ok_pass, ok_var, ok_own, ok_k, ok_glob, ok_gdk, gdkQ_s, ok_callK, kwQ_s, arF, Option.bind_some, Option.map_some, ok_dct, ok_dix, dixQ_k, tst_callK, ok_lset, lsetQ_o, p_rep, ok_prim, ok_and, ok_or, ok_not, ok_iteE, ok_chain, ok_call, ok_cidx, cidQ0, ok_comp, ok_esnil, ok_escons, ok_t0, ok_t1, ok_seq, seqQQ_l, seqQQ_t, seqQQ_s, ok_rng, ok_rng2, ok_zip, zipQ_l, zipQ_t, ok_enum, enumQ_l, p_sorted, eqD_pair, rngQ_i, ok_tand, ok_tor, ok_tnot, tst_var, tst_own, tst_k, tst_prim, tst_ite, tst_chain, tst_call, tst_cidx, ok_bind, ok_ok, ok_no, ok_guard, Res.bind_ok, eqD_int, eqD_bool, eqD_str, eqD_nil, eqD_none, konV, setAll, seqQ_nx, seqQ_rt, seqQ_bk, seqQ_ct, ok_cons, ok_nil, p_add, p_addL, p_addT, p_addS, p_sub, p_mul, p_fdiv, p_mod, p_pow, p_neg, p_eq, p_ne, p_lt, p_le, p_gt, p_ge, p_in, p_notin, p_isN, p_notN, p_isB, p_notB, p_idxL, p_idxT, p_lst0, p_lst1, p_lst2, p_lst3, p_lst4, p_lst5, p_lst6, p_lst7, p_tup0, p_tup1, p_tup2, p_tup3, p_tup4, p_tup5, p_lenL, p_lenT, p_listL, p_listT, p_tupleL, p_tupleT, p_abs, p_max2, p_min2, p_max4, p_intI, p_intB, p_isi, p_rev, p_revT, ok_popS, popQ_o, t_b, t_i, t_n, a_n, a_t, a_l, sM_t, sM_f, sA_0, sA_1, wE_0, wE_1, List.map_cons, List.map_nil, List.set_cons_zero, List.set_cons_succ, List.getElem?_cons_zero, List.getElem?_cons_succ, Nat.reduceAdd, at0, at1, at2, at3, at4, at5, at6, ix0, ix1, ix2, List.length_cons, List.length_nil, List.nil_append, decide_eq_true_eq, onFin_rt, onFin_nx, Bool.not_eq_true', decide_eq_false_iff_not, Int.reducePow, Int.reduceNeg, Int.reduceLT, Int.reduceLE, Nat.reduceLeDiff, Int.reduceToNat, Nat.reducePow, Int.reduceSub, Int.reduceAdd, Int.reduceMul, true_and, and_true, true_or, or_true, decide_true, and_self, if_true, if_false, Bool.false_eq_true, Bool.true_eq_false, reduceCtorEq, not_false_eq_true, not_true_eq_false, reduceIte, p_dictT, dixQ_t, p_sortT, p_ninT, p_dictP, p_tupP, p_dn, p_getT, ok_dput, dputQ_o, ok_dsd, dsdQ_o, frzQ_t, frzQ_k, sM_d, sM_k, ok_dcomp, ditQ_d, ok_disp, dspQ_d, ok_kput, kputQ_o, p_dictK, p_ninK, p_getK, ok_parT]
      have fin2 : ∀ (c : List Str) (cs : Cells), (c.length ≤ 2 ∧ ∀ y ∈ c, y ∈ ns) → Tape cs → Ok (evSs ⟨R.run Ds gl W (n + 2), gl, W⟩ (.cons s__law_plan_3_5 .nil) [.v (.r 0), .v (.d (.int most)), .v (.d (.list (ns.map .str))), .v (.d (.tuple (os.map .int))), .ol (fs.map rwD), .v (.d (.int i)), .v (.d (.str z1)), .v (.d (.str z2)), .v (.d (.str z3)), .v (.d (.tuple (c.map .str)))] cs)
        fun r => (match r.1 with
          | .nx => ∃ (fs : List Rw) (s5 s6 s7 s8 s9 : Sl), r.2.1 = [.v (.r 0), .v (.d (.int most)), .v (.d (.list (ns.map .str))), .v (.d (.tuple (os.map .int))), .ol (fs.map rwD), s5, s6, s7, s8, s9] ∧ Tape r.2.2 ∧ fs.map (·.nm) = (os.take (i + 1)).map (nmAt ns) ∧ fs.length = i + 1 ∧ ∀ r ∈ fs, (1 ≤ r.tk ∧ r.tk ≤ 20) ∧ r.nx.length ≤ 2 ∧ ∀ y ∈ r.nx, y ∈ ns
          | _ => False) := fun c cs hc ht => by
        rw [ok_cons]
        simp only [ok_asg, ok_par, ok_ownS, ok_newc, newQ_l, ok_cset, csetQ0, ok_app, appQ_o, ok_ins, insQ_o, ok_frz, frzQ_o, frzQ_v, ok_iteS, ok_for, ok_whil, ok_ret, ok_retN, ok_expr, ok_brk, ok_cont, ok_pass, ok_var, ok_own, ok_k, ok_glob, ok_gdk, gdkQ_s, ok_callK, kwQ_s, arF, Option.bind_some, Option.map_some, ok_dct, ok_dix, dixQ_k, tst_callK, ok_lset, lsetQ_o, p_rep, ok_prim, ok_and, ok_or, ok_not, ok_iteE, ok_chain, ok_call, ok_cidx, cidQ0, ok_comp, ok_esnil, ok_escons, ok_t0, ok_t1, ok_seq, seqQQ_l, seqQQ_t, seqQQ_s, ok_rng, ok_rng2, ok_zip, zipQ_l, zipQ_t, ok_enum, enumQ_l, p_sorted, eqD_pair, rngQ_i, ok_tand, ok_tor, ok_tnot, tst_var, tst_own, tst_k, tst_prim, tst_ite, tst_chain, tst_call, tst_cidx, ok_bind, ok_ok, ok_no, ok_guard, Res.bind_ok, eqD_int, eqD_bool, eqD_str, eqD_nil, eqD_none, konV, setAll, seqQ_nx, seqQ_rt, seqQ_bk, seqQ_ct, ok_cons, ok_nil, p_add, p_addL, p_addT, p_addS, p_sub, p_mul, p_fdiv, p_mod, p_pow, p_neg, p_eq, p_ne, p_lt, p_le, p_gt, p_ge, p_in, p_notin, p_isN, p_notN, p_isB, p_notB, p_idxL, p_idxT, p_lst0, p_lst1, p_lst2, p_lst3, p_lst4, p_lst5, p_lst6, p_lst7, p_tup0, p_tup1, p_tup2, p_tup3, p_tup4, p_tup5, p_lenL, p_lenT, p_listL, p_listT, p_tupleL, p_tupleT, p_abs, p_max2, p_min2, p_max4, p_intI, p_intB, p_isi, p_rev, p_revT, ok_popS, popQ_o, t_b, t_i, t_n, a_n, a_t, a_l, sM_t, sM_f, sA_0, sA_1, wE_0, wE_1, List.map_cons, List.map_nil, List.set_cons_zero, List.set_cons_succ, List.getElem?_cons_zero, List.getElem?_cons_succ, Nat.reduceAdd, at0, at1, at2, at3, at4, at5, at6, ix0, ix1, ix2, List.length_cons, List.length_nil, List.nil_append, decide_eq_true_eq, onFin_rt, onFin_nx, Bool.not_eq_true', decide_eq_false_iff_not, Int.reducePow, Int.reduceNeg, Int.reduceLT, Int.reduceLE, Nat.reduceLeDiff, Int.reduceToNat, Nat.reducePow, Int.reduceSub, Int.reduceAdd, Int.reduceMul, true_and, and_true, true_or, or_true, decide_true, and_self, if_true, if_false, Bool.false_eq_true, Bool.true_eq_false, reduceCtorEq, not_false_eq_true, not_true_eq_false, reduceIte, p_dictT, dixQ_t, p_sortT, p_ninT, p_dictP, p_tupP, p_dn, p_getT, ok_dput, dputQ_o, ok_dsd, dsdQ_o, frzQ_t, frzQ_k, sM_d, sM_k, ok_dcomp, ditQ_d, ok_disp, dspQ_d, ok_kput, kputQ_o, p_dictK, p_ninK, p_getK, ok_parT, s__law_plan_3_5]
        refine draw_ok ht (by omega) (by omega) fun e cs4 e0 e1 h4 => ?_
        simp only [ok_asg, ok_par, ok_ownS, ok_newc, newQ_l, ok_cset, csetQ0, ok_app, appQ_o, ok_ins, insQ_o, ok_frz, frzQ_o, frzQ_v, ok_iteS, ok_for, ok_whil, ok_ret, ok_retN, ok_expr, ok_brk, ok_cont, ok_pass, ok_var, ok_own, ok_k, ok_glob, ok_gdk, gdkQ_s, ok_callK, kwQ_s, arF, Option.bind_some, Option.map_some, ok_dct, ok_dix, dixQ_k, tst_callK, ok_lset, lsetQ_o, p_rep, ok_prim, ok_and, ok_or, ok_not, ok_iteE, ok_chain, ok_call, ok_cidx, cidQ0, ok_comp, ok_esnil, ok_escons, ok_t0, ok_t1, ok_seq, seqQQ_l, seqQQ_t, seqQQ_s, ok_rng, ok_rng2, ok_zip, zipQ_l, zipQ_t, ok_enum, enumQ_l, p_sorted, eqD_pair, rngQ_i, ok_tand, ok_tor, ok_tnot, tst_var, tst_own, tst_k, tst_prim, tst_ite, tst_chain, tst_call, tst_cidx, ok_bind, ok_ok, ok_no, ok_guard, Res.bind_ok, eqD_int, eqD_bool, eqD_str, eqD_nil, eqD_none, konV, setAll, seqQ_nx, seqQ_rt, seqQ_bk, seqQ_ct, ok_cons, ok_nil, p_add, p_addL, p_addT, p_addS, p_sub, p_mul, p_fdiv, p_mod, p_pow, p_neg, p_eq, p_ne, p_lt, p_le, p_gt, p_ge, p_in, p_notin, p_isN, p_notN, p_isB, p_notB, p_idxL, p_idxT, p_lst0, p_lst1, p_lst2, p_lst3, p_lst4, p_lst5, p_lst6, p_lst7, p_tup0, p_tup1, p_tup2, p_tup3, p_tup4, p_tup5, p_lenL, p_lenT, p_listL, p_listT, p_tupleL, p_tupleT, p_abs, p_max2, p_min2, p_max4, p_intI, p_intB, p_isi, p_rev, p_revT, ok_popS, popQ_o, t_b, t_i, t_n, a_n, a_t, a_l, sM_t, sM_f, sA_0, sA_1, wE_0, wE_1, List.map_cons, List.map_nil, List.set_cons_zero, List.set_cons_succ, List.getElem?_cons_zero, List.getElem?_cons_succ, Nat.reduceAdd, at0, at1, at2, at3, at4, at5, at6, ix0, ix1, ix2, List.length_cons, List.length_nil, List.nil_append, decide_eq_true_eq, onFin_rt, onFin_nx, Bool.not_eq_true', decide_eq_false_iff_not, Int.reducePow, Int.reduceNeg, Int.reduceLT, Int.reduceLE, Nat.reduceLeDiff, Int.reduceToNat, Nat.reducePow, Int.reduceSub, Int.reduceAdd, Int.reduceMul, true_and, and_true, true_or, or_true, decide_true, and_self, if_true, if_false, Bool.false_eq_true, Bool.true_eq_false, reduceCtorEq, not_false_eq_true, not_true_eq_false, reduceIte, p_dictT, dixQ_t, p_sortT, p_ninT, p_dictP, p_tupP, p_dn, p_getT, ok_dput, dputQ_o, ok_dsd, dsdQ_o, frzQ_t, frzQ_k, sM_d, sM_k, ok_dcomp, ditQ_d, ok_disp, dspQ_d, ok_kput, kputQ_o, p_dictK, p_ninK, p_getK, ok_parT]
        refine draw_ok h4 (by omega) (by omega) fun g cs5 g0 g1 h5 => ?_
        simp only [ok_asg, ok_par, ok_ownS, ok_newc, newQ_l, ok_cset, csetQ0, ok_app, appQ_o, ok_ins, insQ_o, ok_frz, frzQ_o, frzQ_v, ok_iteS, ok_for, ok_whil, ok_ret, ok_retN, ok_expr, ok_brk, ok_cont, ok_pass, ok_var, ok_own, ok_k, ok_glob, ok_gdk, gdkQ_s, ok_callK, kwQ_s, arF, Option.bind_some, Option.map_some, ok_dct, ok_dix, dixQ_k, tst_callK, ok_lset, lsetQ_o, p_rep, ok_prim, ok_and, ok_or, ok_not, ok_iteE, ok_chain, ok_call, ok_cidx, cidQ0, ok_comp, ok_esnil, ok_escons, ok_t0, ok_t1, ok_seq, seqQQ_l, seqQQ_t, seqQQ_s, ok_rng, ok_rng2, ok_zip, zipQ_l, zipQ_t, ok_enum, enumQ_l, p_sorted, eqD_pair, rngQ_i, ok_tand, ok_tor, ok_tnot, tst_var, tst_own, tst_k, tst_prim, tst_ite, tst_chain, tst_call, tst_cidx, ok_bind, ok_ok, ok_no, ok_guard, Res.bind_ok, eqD_int, eqD_bool, eqD_str, eqD_nil, eqD_none, konV, setAll, seqQ_nx, seqQ_rt, seqQ_bk, seqQ_ct, ok_cons, ok_nil, p_add, p_addL, p_addT, p_addS, p_sub, p_mul, p_fdiv, p_mod, p_pow, p_neg, p_eq, p_ne, p_lt, p_le, p_gt, p_ge, p_in, p_notin, p_isN, p_notN, p_isB, p_notB, p_idxL, p_idxT, p_lst0, p_lst1, p_lst2, p_lst3, p_lst4, p_lst5, p_lst6, p_lst7, p_tup0, p_tup1, p_tup2, p_tup3, p_tup4, p_tup5, p_lenL, p_lenT, p_listL, p_listT, p_tupleL, p_tupleT, p_abs, p_max2, p_min2, p_max4, p_intI, p_intB, p_isi, p_rev, p_revT, ok_popS, popQ_o, t_b, t_i, t_n, a_n, a_t, a_l, sM_t, sM_f, sA_0, sA_1, wE_0, wE_1, List.map_cons, List.map_nil, List.set_cons_zero, List.set_cons_succ, List.getElem?_cons_zero, List.getElem?_cons_succ, Nat.reduceAdd, at0, at1, at2, at3, at4, at5, at6, ix0, ix1, ix2, List.length_cons, List.length_nil, List.nil_append, decide_eq_true_eq, onFin_rt, onFin_nx, Bool.not_eq_true', decide_eq_false_iff_not, Int.reducePow, Int.reduceNeg, Int.reduceLT, Int.reduceLE, Nat.reduceLeDiff, Int.reduceToNat, Nat.reducePow, Int.reduceSub, Int.reduceAdd, Int.reduceMul, true_and, and_true, true_or, or_true, decide_true, and_self, if_true, if_false, Bool.false_eq_true, Bool.true_eq_false, reduceCtorEq, not_false_eq_true, not_true_eq_false, reduceIte, p_dictT, dixQ_t, p_sortT, p_ninT, p_dictP, p_tupP, p_dn, p_getT, ok_dput, dputQ_o, ok_dsd, dsdQ_o, frzQ_t, frzQ_k, sM_d, sM_k, ok_dcomp, ditQ_d, ok_disp, dspQ_d, ok_kput, kputQ_o, p_dictK, p_ninK, p_getK, ok_parT]
        refine ok_at g0 (by simp; omega) fun y hy => ?_
        have hy := List.mem_of_getElem? hy
        have hint : ∃ q : Int, y = .int q ∧ 1 ≤ q ∧ q ≤ 20 := by
          simp only [List.mem_cons, List.not_mem_nil, or_false] at hy
          rcases hy with rfl | rfl | rfl | rfl <;> exact ⟨_, rfl, by omega, by omega⟩
        obtain ⟨q, rfl, q0, q1⟩ := hint
        simp only [ok_asg, ok_par, ok_ownS, ok_newc, newQ_l, ok_cset, csetQ0, ok_app, appQ_o, ok_ins, insQ_o, ok_frz, frzQ_o, frzQ_v, ok_iteS, ok_for, ok_whil, ok_ret, ok_retN, ok_expr, ok_brk, ok_cont, ok_pass, ok_var, ok_own, ok_k, ok_glob, ok_gdk, gdkQ_s, ok_callK, kwQ_s, arF, Option.bind_some, Option.map_some, ok_dct, ok_dix, dixQ_k, tst_callK, ok_lset, lsetQ_o, p_rep, ok_prim, ok_and, ok_or, ok_not, ok_iteE, ok_chain, ok_call, ok_cidx, cidQ0, ok_comp, ok_esnil, ok_escons, ok_t0, ok_t1, ok_seq, seqQQ_l, seqQQ_t, seqQQ_s, ok_rng, ok_rng2, ok_zip, zipQ_l, zipQ_t, ok_enum, enumQ_l, p_sorted, eqD_pair, rngQ_i, ok_tand, ok_tor, ok_tnot, tst_var, tst_own, tst_k, tst_prim, tst_ite, tst_chain, tst_call, tst_cidx, ok_bind, ok_ok, ok_no, ok_guard, Res.bind_ok, eqD_int, eqD_bool, eqD_str, eqD_nil, eqD_none, konV, setAll, seqQ_nx, seqQ_rt, seqQ_bk, seqQ_ct, ok_cons, ok_nil, p_add, p_addL, p_addT, p_addS, p_sub, p_mul, p_fdiv, p_mod, p_pow, p_neg, p_eq, p_ne, p_lt, p_le, p_gt, p_ge, p_in, p_notin, p_isN, p_notN, p_isB, p_notB, p_idxL, p_idxT, p_lst0, p_lst1, p_lst2, p_lst3, p_lst4, p_lst5, p_lst6, p_lst7, p_tup0, p_tup1, p_tup2, p_tup3, p_tup4, p_tup5, p_lenL, p_lenT, p_listL, p_listT, p_tupleL, p_tupleT, p_abs, p_max2, p_min2, p_max4, p_intI, p_intB, p_isi, p_rev, p_revT, ok_popS, popQ_o, t_b, t_i, t_n, a_n, a_t, a_l, sM_t, sM_f, sA_0, sA_1, wE_0, wE_1, List.map_cons, List.map_nil, List.set_cons_zero, List.set_cons_succ, List.getElem?_cons_zero, List.getElem?_cons_succ, Nat.reduceAdd, at0, at1, at2, at3, at4, at5, at6, ix0, ix1, ix2, List.length_cons, List.length_nil, List.nil_append, decide_eq_true_eq, onFin_rt, onFin_nx, Bool.not_eq_true', decide_eq_false_iff_not, Int.reducePow, Int.reduceNeg, Int.reduceLT, Int.reduceLE, Nat.reduceLeDiff, Int.reduceToNat, Nat.reducePow, Int.reduceSub, Int.reduceAdd, Int.reduceMul, true_and, and_true, true_or, or_true, decide_true, and_self, if_true, if_false, Bool.false_eq_true, Bool.true_eq_false, reduceCtorEq, not_false_eq_true, not_true_eq_false, reduceIte, p_dictT, dixQ_t, p_sortT, p_ninT, p_dictP, p_tupP, p_dn, p_getT, ok_dput, dputQ_o, ok_dsd, dsdQ_o, frzQ_t, frzQ_k, sM_d, sM_k, ok_dcomp, ditQ_d, ok_disp, dspQ_d, ok_kput, kputQ_o, p_dictK, p_ninK, p_getK, ok_parT, List.length_map]
        refine ⟨line_le (by omega), fs ++ [⟨z1, q, c⟩], _, _, _, _, _, by rw [List.map_append]; rfl, h5, ?_, by rw [List.length_append, hfl]; rfl, fun x hx => ?_⟩
        · rw [List.map_append, hfn, tk, List.map_append]
          show _ ++ [z1] = _ ++ [nmAt ns o1]
          rw [hz]
        · rcases List.mem_append.mp hx with hx | hx
          · exact hb x hx
          · rw [List.mem_singleton.mp hx]
            exact ⟨⟨q0, q1⟩, hc⟩
      have two : ([z2, z3].length ≤ 2 ∧ ∀ y ∈ [z2, z3], y ∈ ns) := ⟨by simp, fun y hy => by
        rcases List.mem_cons.mp hy with rfl | hy
        · exact hz2
        · rw [List.mem_singleton.mp hy]; exact hz3⟩
      have one : ([z2].length ≤ 2 ∧ ∀ y ∈ [z2], y ∈ ns) := ⟨by simp, fun y hy => by rw [List.mem_singleton.mp hy]; exact hz2⟩
      simp only [ok_asg, ok_par, ok_ownS, ok_newc, newQ_l, ok_cset, csetQ0, ok_app, appQ_o, ok_ins, insQ_o, ok_frz, frzQ_o, frzQ_v, ok_iteS, ok_for, ok_whil, ok_ret, ok_retN, ok_expr, ok_brk, ok_cont, ok_pass, ok_var, ok_own, ok_k, ok_glob, ok_gdk, gdkQ_s, ok_callK, kwQ_s, arF, Option.bind_some, Option.map_some, ok_dct, ok_dix, dixQ_k, tst_callK, ok_lset, lsetQ_o, p_rep, ok_prim, ok_and, ok_or, ok_not, ok_iteE, ok_chain, ok_call, ok_cidx, cidQ0, ok_comp, ok_esnil, ok_escons, ok_t0, ok_t1, ok_seq, seqQQ_l, seqQQ_t, seqQQ_s, ok_rng, ok_rng2, ok_zip, zipQ_l, zipQ_t, ok_enum, enumQ_l, p_sorted, eqD_pair, rngQ_i, ok_tand, ok_tor, ok_tnot, tst_var, tst_own, tst_k, tst_prim, tst_ite, tst_chain, tst_call, tst_cidx, ok_bind, ok_ok, ok_no, ok_guard, Res.bind_ok, eqD_int, eqD_bool, eqD_str, eqD_nil, eqD_none, konV, setAll, seqQ_nx, seqQ_rt, seqQ_bk, seqQ_ct, ok_cons, ok_nil, p_add, p_addL, p_addT, p_addS, p_sub, p_mul, p_fdiv, p_mod, p_pow, p_neg, p_eq, p_ne, p_lt, p_le, p_gt, p_ge, p_in, p_notin, p_isN, p_notN, p_isB, p_notB, p_idxL, p_idxT, p_lst0, p_lst1, p_lst2, p_lst3, p_lst4, p_lst5, p_lst6, p_lst7, p_tup0, p_tup1, p_tup2, p_tup3, p_tup4, p_tup5, p_lenL, p_lenT, p_listL, p_listT, p_tupleL, p_tupleT, p_abs, p_max2, p_min2, p_max4, p_intI, p_intB, p_isi, p_rev, p_revT, ok_popS, popQ_o, t_b, t_i, t_n, a_n, a_t, a_l, sM_t, sM_f, sA_0, sA_1, wE_0, wE_1, List.map_cons, List.map_nil, List.set_cons_zero, List.set_cons_succ, List.getElem?_cons_zero, List.getElem?_cons_succ, Nat.reduceAdd, at0, at1, at2, at3, at4, at5, at6, ix0, ix1, ix2, List.length_cons, List.length_nil, List.nil_append, decide_eq_true_eq, onFin_rt, onFin_nx, Bool.not_eq_true', decide_eq_false_iff_not, Int.reducePow, Int.reduceNeg, Int.reduceLT, Int.reduceLE, Nat.reduceLeDiff, Int.reduceToNat, Nat.reducePow, Int.reduceSub, Int.reduceAdd, Int.reduceMul, true_and, and_true, true_or, or_true, decide_true, and_self, if_true, if_false, Bool.false_eq_true, Bool.true_eq_false, reduceCtorEq, not_false_eq_true, not_true_eq_false, reduceIte, p_dictT, dixQ_t, p_sortT, p_ninT, p_dictP, p_tupP, p_dn, p_getT, ok_dput, dputQ_o, ok_dsd, dsdQ_o, frzQ_t, frzQ_k, sM_d, sM_k, ok_dcomp, ditQ_d, ok_disp, dspQ_d, ok_kput, kputQ_o, p_dictK, p_ninK, p_getK, ok_parT, s__law_plan_3_4]
      refine ite_p (fun hc => ?_) (fun hc => ?_)
      · refine draw_ok h3 (by omega) (by omega) fun d cs4 d0 d1 h4 => ?_
        simp only [ok_asg, ok_par, ok_ownS, ok_newc, newQ_l, ok_cset, csetQ0, ok_app, appQ_o, ok_ins, insQ_o, ok_frz, frzQ_o, frzQ_v, ok_iteS, ok_for, ok_whil, ok_ret, ok_retN, ok_expr, ok_brk, ok_cont, ok_pass, ok_var, ok_own, ok_k, ok_glob, ok_gdk, gdkQ_s, ok_callK, kwQ_s, arF, Option.bind_some, Option.map_some, ok_dct, ok_dix, dixQ_k, tst_callK, ok_lset, lsetQ_o, p_rep, ok_prim, ok_and, ok_or, ok_not, ok_iteE, ok_chain, ok_call, ok_cidx, cidQ0, ok_comp, ok_esnil, ok_escons, ok_t0, ok_t1, ok_seq, seqQQ_l, seqQQ_t, seqQQ_s, ok_rng, ok_rng2, ok_zip, zipQ_l, zipQ_t, ok_enum, enumQ_l, p_sorted, eqD_pair, rngQ_i, ok_tand, ok_tor, ok_tnot, tst_var, tst_own, tst_k, tst_prim, tst_ite, tst_chain, tst_call, tst_cidx, ok_bind, ok_ok, ok_no, ok_guard, Res.bind_ok, eqD_int, eqD_bool, eqD_str, eqD_nil, eqD_none, konV, setAll, seqQ_nx, seqQ_rt, seqQ_bk, seqQ_ct, ok_cons, ok_nil, p_add, p_addL, p_addT, p_addS, p_sub, p_mul, p_fdiv, p_mod, p_pow, p_neg, p_eq, p_ne, p_lt, p_le, p_gt, p_ge, p_in, p_notin, p_isN, p_notN, p_isB, p_notB, p_idxL, p_idxT, p_lst0, p_lst1, p_lst2, p_lst3, p_lst4, p_lst5, p_lst6, p_lst7, p_tup0, p_tup1, p_tup2, p_tup3, p_tup4, p_tup5, p_lenL, p_lenT, p_listL, p_listT, p_tupleL, p_tupleT, p_abs, p_max2, p_min2, p_max4, p_intI, p_intB, p_isi, p_rev, p_revT, ok_popS, popQ_o, t_b, t_i, t_n, a_n, a_t, a_l, sM_t, sM_f, sA_0, sA_1, wE_0, wE_1, List.map_cons, List.map_nil, List.set_cons_zero, List.set_cons_succ, List.getElem?_cons_zero, List.getElem?_cons_succ, Nat.reduceAdd, at0, at1, at2, at3, at4, at5, at6, ix0, ix1, ix2, List.length_cons, List.length_nil, List.nil_append, decide_eq_true_eq, onFin_rt, onFin_nx, Bool.not_eq_true', decide_eq_false_iff_not, Int.reducePow, Int.reduceNeg, Int.reduceLT, Int.reduceLE, Nat.reduceLeDiff, Int.reduceToNat, Nat.reducePow, Int.reduceSub, Int.reduceAdd, Int.reduceMul, true_and, and_true, true_or, or_true, decide_true, and_self, if_true, if_false, Bool.false_eq_true, Bool.true_eq_false, reduceCtorEq, not_false_eq_true, not_true_eq_false, reduceIte, p_dictT, dixQ_t, p_sortT, p_ninT, p_dictP, p_tupP, p_dn, p_getT, ok_dput, dputQ_o, ok_dsd, dsdQ_o, frzQ_t, frzQ_k, sM_d, sM_k, ok_dcomp, ditQ_d, ok_disp, dspQ_d, ok_kput, kputQ_o, p_dictK, p_ninK, p_getK, ok_parT]
        refine ite_p (fun hd => ?_) (fun hd => ?_)
        · rw [← ok_cons]
          exact fin2 [z2, z3] _ two h4
        · rw [← ok_cons]
          exact fin2 [z2] _ one h4
      · rw [← ok_cons]
        exact fin2 [z2] _ one h3
    simp only [ok_asg, ok_par, ok_ownS, ok_newc, newQ_l, ok_cset, csetQ0, ok_app, appQ_o, ok_ins, insQ_o, ok_frz, frzQ_o, frzQ_v, ok_iteS, ok_for, ok_whil, ok_ret, ok_retN, ok_expr, ok_brk, ok_cont, ok_pass, ok_var, ok_own, ok_k, ok_glob, ok_gdk, gdkQ_s, ok_callK, kwQ_s, arF, Option.bind_some, Option.map_some, ok_dct, ok_dix, dixQ_k, tst_callK, ok_lset, lsetQ_o, p_rep, ok_prim, ok_and, ok_or, ok_not, ok_iteE, ok_chain, ok_call, ok_cidx, cidQ0, ok_comp, ok_esnil, ok_escons, ok_t0, ok_t1, ok_seq, seqQQ_l, seqQQ_t, seqQQ_s, ok_rng, ok_rng2, ok_zip, zipQ_l, zipQ_t, ok_enum, enumQ_l, p_sorted, eqD_pair, rngQ_i, ok_tand, ok_tor, ok_tnot, tst_var, tst_own, tst_k, tst_prim, tst_ite, tst_chain, tst_call, tst_cidx, ok_bind, ok_ok, ok_no, ok_guard, Res.bind_ok, eqD_int, eqD_bool, eqD_str, eqD_nil, eqD_none, konV, setAll, seqQ_nx, seqQ_rt, seqQ_bk, seqQ_ct, ok_cons, ok_nil, p_add, p_addL, p_addT, p_addS, p_sub, p_mul, p_fdiv, p_mod, p_pow, p_neg, p_eq, p_ne, p_lt, p_le, p_gt, p_ge, p_in, p_notin, p_isN, p_notN, p_isB, p_notB, p_idxL, p_idxT, p_lst0, p_lst1, p_lst2, p_lst3, p_lst4, p_lst5, p_lst6, p_lst7, p_tup0, p_tup1, p_tup2, p_tup3, p_tup4, p_tup5, p_lenL, p_lenT, p_listL, p_listT, p_tupleL, p_tupleT, p_abs, p_max2, p_min2, p_max4, p_intI, p_intB, p_isi, p_rev, p_revT, ok_popS, popQ_o, t_b, t_i, t_n, a_n, a_t, a_l, sM_t, sM_f, sA_0, sA_1, wE_0, wE_1, List.map_cons, List.map_nil, List.set_cons_zero, List.set_cons_succ, List.getElem?_cons_zero, List.getElem?_cons_succ, Nat.reduceAdd, at0, at1, at2, at3, at4, at5, at6, ix0, ix1, ix2, List.length_cons, List.length_nil, List.nil_append, decide_eq_true_eq, onFin_rt, onFin_nx, Bool.not_eq_true', decide_eq_false_iff_not, Int.reducePow, Int.reduceNeg, Int.reduceLT, Int.reduceLE, Nat.reduceLeDiff, Int.reduceToNat, Nat.reducePow, Int.reduceSub, Int.reduceAdd, Int.reduceMul, true_and, and_true, true_or, or_true, decide_true, and_self, if_true, if_false, Bool.false_eq_true, Bool.true_eq_false, reduceCtorEq, not_false_eq_true, not_true_eq_false, reduceIte, p_dictT, dixQ_t, p_sortT, p_ninT, p_dictP, p_tupP, p_dn, p_getT, ok_dput, dputQ_o, ok_dsd, dsdQ_o, frzQ_t, frzQ_k, sM_d, sM_k, ok_dcomp, ditQ_d, ok_disp, dspQ_d, ok_kput, kputQ_o, p_dictK, p_ninK, p_getK, ok_parT, s__law_plan_3_2]
    refine draw_ok ht (by omega) (by omega) fun b cs3 b0 b1 h3 => ?_
    simp only [ok_asg, ok_par, ok_ownS, ok_newc, newQ_l, ok_cset, csetQ0, ok_app, appQ_o, ok_ins, insQ_o, ok_frz, frzQ_o, frzQ_v, ok_iteS, ok_for, ok_whil, ok_ret, ok_retN, ok_expr, ok_brk, ok_cont, ok_pass, ok_var, ok_own, ok_k, ok_glob, ok_gdk, gdkQ_s, ok_callK, kwQ_s, arF, Option.bind_some, Option.map_some, ok_dct, ok_dix, dixQ_k, tst_callK, ok_lset, lsetQ_o, p_rep, ok_prim, ok_and, ok_or, ok_not, ok_iteE, ok_chain, ok_call, ok_cidx, cidQ0, ok_comp, ok_esnil, ok_escons, ok_t0, ok_t1, ok_seq, seqQQ_l, seqQQ_t, seqQQ_s, ok_rng, ok_rng2, ok_zip, zipQ_l, zipQ_t, ok_enum, enumQ_l, p_sorted, eqD_pair, rngQ_i, ok_tand, ok_tor, ok_tnot, tst_var, tst_own, tst_k, tst_prim, tst_ite, tst_chain, tst_call, tst_cidx, ok_bind, ok_ok, ok_no, ok_guard, Res.bind_ok, eqD_int, eqD_bool, eqD_str, eqD_nil, eqD_none, konV, setAll, seqQ_nx, seqQ_rt, seqQ_bk, seqQ_ct, ok_cons, ok_nil, p_add, p_addL, p_addT, p_addS, p_sub, p_mul, p_fdiv, p_mod, p_pow, p_neg, p_eq, p_ne, p_lt, p_le, p_gt, p_ge, p_in, p_notin, p_isN, p_notN, p_isB, p_notB, p_idxL, p_idxT, p_lst0, p_lst1, p_lst2, p_lst3, p_lst4, p_lst5, p_lst6, p_lst7, p_tup0, p_tup1, p_tup2, p_tup3, p_tup4, p_tup5, p_lenL, p_lenT, p_listL, p_listT, p_tupleL, p_tupleT, p_abs, p_max2, p_min2, p_max4, p_intI, p_intB, p_isi, p_rev, p_revT, ok_popS, popQ_o, t_b, t_i, t_n, a_n, a_t, a_l, sM_t, sM_f, sA_0, sA_1, wE_0, wE_1, List.map_cons, List.map_nil, List.set_cons_zero, List.set_cons_succ, List.getElem?_cons_zero, List.getElem?_cons_succ, Nat.reduceAdd, at0, at1, at2, at3, at4, at5, at6, ix0, ix1, ix2, List.length_cons, List.length_nil, List.nil_append, decide_eq_true_eq, onFin_rt, onFin_nx, Bool.not_eq_true', decide_eq_false_iff_not, Int.reducePow, Int.reduceNeg, Int.reduceLT, Int.reduceLE, Nat.reduceLeDiff, Int.reduceToNat, Nat.reducePow, Int.reduceSub, Int.reduceAdd, Int.reduceMul, true_and, and_true, true_or, or_true, decide_true, and_self, if_true, if_false, Bool.false_eq_true, Bool.true_eq_false, reduceCtorEq, not_false_eq_true, not_true_eq_false, reduceIte, p_dictT, dixQ_t, p_sortT, p_ninT, p_dictP, p_tupP, p_dn, p_getT, ok_dput, dputQ_o, ok_dsd, dsdQ_o, frzQ_t, frzQ_k, sM_d, sM_k, ok_dcomp, ditQ_d, ok_disp, dspQ_d, ok_kput, kputQ_o, p_dictK, p_ninK, p_getK, ok_parT]
    refine ite_p (fun hc => ?_) (fun hc => ?_)
    · unfold b__law_plan_3_2t
      simp only [ok_asg, ok_par, ok_ownS, ok_newc, newQ_l, ok_cset, csetQ0, ok_app, appQ_o, ok_ins, insQ_o, ok_frz, frzQ_o, frzQ_v, ok_iteS, ok_for, ok_whil, ok_ret, ok_retN, ok_expr, ok_brk, ok_cont, ok_pass, ok_var, ok_own, ok_k, ok_glob, ok_gdk, gdkQ_s, ok_callK, kwQ_s, arF, Option.bind_some, Option.map_some, ok_dct, ok_dix, dixQ_k, tst_callK, ok_lset, lsetQ_o, p_rep, ok_prim, ok_and, ok_or, ok_not, ok_iteE, ok_chain, ok_call, ok_cidx, cidQ0, ok_comp, ok_esnil, ok_escons, ok_t0, ok_t1, ok_seq, seqQQ_l, seqQQ_t, seqQQ_s, ok_rng, ok_rng2, ok_zip, zipQ_l, zipQ_t, ok_enum, enumQ_l, p_sorted, eqD_pair, rngQ_i, ok_tand, ok_tor, ok_tnot, tst_var, tst_own, tst_k, tst_prim, tst_ite, tst_chain, tst_call, tst_cidx, ok_bind, ok_ok, ok_no, ok_guard, Res.bind_ok, eqD_int, eqD_bool, eqD_str, eqD_nil, eqD_none, konV, setAll, seqQ_nx, seqQ_rt, seqQ_bk, seqQ_ct, ok_cons, ok_nil, p_add, p_addL, p_addT, p_addS, p_sub, p_mul, p_fdiv, p_mod, p_pow, p_neg, p_eq, p_ne, p_lt, p_le, p_gt, p_ge, p_in, p_notin, p_isN, p_notN, p_isB, p_notB, p_idxL, p_idxT, p_lst0, p_lst1, p_lst2, p_lst3, p_lst4, p_lst5, p_lst6, p_lst7, p_tup0, p_tup1, p_tup2, p_tup3, p_tup4, p_tup5, p_lenL, p_lenT, p_listL, p_listT, p_tupleL, p_tupleT, p_abs, p_max2, p_min2, p_max4, p_intI, p_intB, p_isi, p_rev, p_revT, ok_popS, popQ_o, t_b, t_i, t_n, a_n, a_t, a_l, sM_t, sM_f, sA_0, sA_1, wE_0, wE_1, List.map_cons, List.map_nil, List.set_cons_zero, List.set_cons_succ, List.getElem?_cons_zero, List.getElem?_cons_succ, Nat.reduceAdd, at0, at1, at2, at3, at4, at5, at6, ix0, ix1, ix2, List.length_cons, List.length_nil, List.nil_append, decide_eq_true_eq, onFin_rt, onFin_nx, Bool.not_eq_true', decide_eq_false_iff_not, Int.reducePow, Int.reduceNeg, Int.reduceLT, Int.reduceLE, Nat.reduceLeDiff, Int.reduceToNat, Nat.reducePow, Int.reduceSub, Int.reduceAdd, Int.reduceMul, true_and, and_true, true_or, or_true, decide_true, and_self, if_true, if_false, Bool.false_eq_true, Bool.true_eq_false, reduceCtorEq, not_false_eq_true, not_true_eq_false, reduceIte, p_dictT, dixQ_t, p_sortT, p_ninT, p_dictP, p_tupP, p_dn, p_getT, ok_dput, dputQ_o, ok_dsd, dsdQ_o, frzQ_t, frzQ_k, sM_d, sM_k, ok_dcomp, ditQ_d, ok_disp, dspQ_d, ok_kput, kputQ_o, p_dictK, p_ninK, p_getK, ok_parT, s__law_plan_3_2t_0, List.length_map]
      refine draw_ok h3 (by omega) (by omega) fun c cs4 c0 c1 h4 => ?_
      simp only [ok_asg, ok_par, ok_ownS, ok_newc, newQ_l, ok_cset, csetQ0, ok_app, appQ_o, ok_ins, insQ_o, ok_frz, frzQ_o, frzQ_v, ok_iteS, ok_for, ok_whil, ok_ret, ok_retN, ok_expr, ok_brk, ok_cont, ok_pass, ok_var, ok_own, ok_k, ok_glob, ok_gdk, gdkQ_s, ok_callK, kwQ_s, arF, Option.bind_some, Option.map_some, ok_dct, ok_dix, dixQ_k, tst_callK, ok_lset, lsetQ_o, p_rep, ok_prim, ok_and, ok_or, ok_not, ok_iteE, ok_chain, ok_call, ok_cidx, cidQ0, ok_comp, ok_esnil, ok_escons, ok_t0, ok_t1, ok_seq, seqQQ_l, seqQQ_t, seqQQ_s, ok_rng, ok_rng2, ok_zip, zipQ_l, zipQ_t, ok_enum, enumQ_l, p_sorted, eqD_pair, rngQ_i, ok_tand, ok_tor, ok_tnot, tst_var, tst_own, tst_k, tst_prim, tst_ite, tst_chain, tst_call, tst_cidx, ok_bind, ok_ok, ok_no, ok_guard, Res.bind_ok, eqD_int, eqD_bool, eqD_str, eqD_nil, eqD_none, konV, setAll, seqQ_nx, seqQ_rt, seqQ_bk, seqQ_ct, ok_cons, ok_nil, p_add, p_addL, p_addT, p_addS, p_sub, p_mul, p_fdiv, p_mod, p_pow, p_neg, p_eq, p_ne, p_lt, p_le, p_gt, p_ge, p_in, p_notin, p_isN, p_notN, p_isB, p_notB, p_idxL, p_idxT, p_lst0, p_lst1, p_lst2, p_lst3, p_lst4, p_lst5, p_lst6, p_lst7, p_tup0, p_tup1, p_tup2, p_tup3, p_tup4, p_tup5, p_lenL, p_lenT, p_listL, p_listT, p_tupleL, p_tupleT, p_abs, p_max2, p_min2, p_max4, p_intI, p_intB, p_isi, p_rev, p_revT, ok_popS, popQ_o, t_b, t_i, t_n, a_n, a_t, a_l, sM_t, sM_f, sA_0, sA_1, wE_0, wE_1, List.map_cons, List.map_nil, List.set_cons_zero, List.set_cons_succ, List.getElem?_cons_zero, List.getElem?_cons_succ, Nat.reduceAdd, at0, at1, at2, at3, at4, at5, at6, ix0, ix1, ix2, List.length_cons, List.length_nil, List.nil_append, decide_eq_true_eq, onFin_rt, onFin_nx, Bool.not_eq_true', decide_eq_false_iff_not, Int.reducePow, Int.reduceNeg, Int.reduceLT, Int.reduceLE, Nat.reduceLeDiff, Int.reduceToNat, Nat.reducePow, Int.reduceSub, Int.reduceAdd, Int.reduceMul, true_and, and_true, true_or, or_true, decide_true, and_self, if_true, if_false, Bool.false_eq_true, Bool.true_eq_false, reduceCtorEq, not_false_eq_true, not_true_eq_false, reduceIte, p_dictT, dixQ_t, p_sortT, p_ninT, p_dictP, p_tupP, p_dn, p_getT, ok_dput, dputQ_o, ok_dsd, dsdQ_o, frzQ_t, frzQ_k, sM_d, sM_k, ok_dcomp, ditQ_d, ok_disp, dspQ_d, ok_kput, kputQ_o, p_dictK, p_ninK, p_getK, ok_parT]
      refine pick _ _ c0 c1 fun hz4 => ?_
      generalize nmAt ns c = z4 at hz4 ⊢
      try simp only [ok_asg, ok_par, ok_ownS, ok_newc, newQ_l, ok_cset, csetQ0, ok_app, appQ_o, ok_ins, insQ_o, ok_frz, frzQ_o, frzQ_v, ok_iteS, ok_for, ok_whil, ok_ret, ok_retN, ok_expr, ok_brk, ok_cont, ok_pass, ok_var, ok_own, ok_k, ok_glob, ok_gdk, gdkQ_s, ok_callK, kwQ_s, arF, Option.bind_some, Option.map_some, ok_dct, ok_dix, dixQ_k, tst_callK, ok_lset, lsetQ_o, p_rep, ok_prim, ok_and, ok_or, ok_not, ok_iteE, ok_chain, ok_call, ok_cidx, cidQ0, ok_comp, ok_esnil, ok_escons, ok_t0, ok_t1, ok_seq, seqQQ_l, seqQQ_t, seqQQ_s, ok_rng, ok_rng2, ok_zip, zipQ_l, zipQ_t, ok_enum, enumQ_l, p_sorted, eqD_pair, rngQ_i, ok_tand, ok_tor, ok_tnot, tst_var, tst_own, tst_k, tst_prim, tst_ite, tst_chain, tst_call, tst_cidx, ok_bind, ok_ok, ok_no, ok_guard, Res.bind_ok, eqD_int, eqD_bool, eqD_str, eqD_nil, eqD_none, konV, setAll, seqQ_nx, seqQ_rt, seqQ_bk, seqQ_ct, ok_cons, ok_nil, p_add, p_addL, p_addT, p_addS, p_sub, p_mul, p_fdiv, p_mod, p_pow, p_neg, p_eq, p_ne, p_lt, p_le, p_gt, p_ge, p_in, p_notin, p_isN, p_notN, p_isB, p_notB, p_idxL, p_idxT, p_lst0, p_lst1, p_lst2, p_lst3, p_lst4, p_lst5, p_lst6, p_lst7, p_tup0, p_tup1, p_tup2, p_tup3, p_tup4, p_tup5, p_lenL, p_lenT, p_listL, p_listT, p_tupleL, p_tupleT, p_abs, p_max2, p_min2, p_max4, p_intI, p_intB, p_isi, p_rev, p_revT, ok_popS, popQ_o, t_b, t_i, t_n, a_n, a_t, a_l, sM_t, sM_f, sA_0, sA_1, wE_0, wE_1, List.map_cons, List.map_nil, List.set_cons_zero, List.set_cons_succ, List.getElem?_cons_zero, List.getElem?_cons_succ, Nat.reduceAdd, at0, at1, at2, at3, at4, at5, at6, ix0, ix1, ix2, List.length_cons, List.length_nil, List.nil_append, decide_eq_true_eq, onFin_rt, onFin_nx, Bool.not_eq_true', decide_eq_false_iff_not, Int.reducePow, Int.reduceNeg, Int.reduceLT, Int.reduceLE, Nat.reduceLeDiff, Int.reduceToNat, Nat.reducePow, Int.reduceSub, Int.reduceAdd, Int.reduceMul, true_and, and_true, true_or, or_true, decide_true, and_self, if_true, if_false, Bool.false_eq_true, Bool.true_eq_false, reduceCtorEq, not_false_eq_true, not_true_eq_false, reduceIte, p_dictT, dixQ_t, p_sortT, p_ninT, p_dictP, p_tupP, p_dn, p_getT, ok_dput, dputQ_o, ok_dsd, dsdQ_o, frzQ_t, frzQ_k, sM_d, sM_k, ok_dcomp, ditQ_d, ok_disp, dspQ_d, ok_kput, kputQ_o, p_dictK, p_ninK, p_getK, ok_parT]
      rw [← ok_cons]
      refine (fin z4 _ hz4 h4).imp fun r hr => ?_
      obtain ⟨f, env2, cs9⟩ := r
      cases f with
      | nx => exact hr
      | _ => exact hr.elim
    · unfold b__law_plan_3_2e
      simp only [ok_asg, ok_par, ok_ownS, ok_newc, newQ_l, ok_cset, csetQ0, ok_app, appQ_o, ok_ins, insQ_o, ok_frz, frzQ_o, frzQ_v, ok_iteS, ok_for, ok_whil, ok_ret, ok_retN, ok_expr, ok_brk, ok_cont, ok_pass, ok_var, ok_own, ok_k, ok_glob, ok_gdk, gdkQ_s, ok_callK, kwQ_s, arF, Option.bind_some, Option.map_some, ok_dct, ok_dix, dixQ_k, tst_callK, ok_lset, lsetQ_o, p_rep, ok_prim, ok_and, ok_or, ok_not, ok_iteE, ok_chain, ok_call, ok_cidx, cidQ0, ok_comp, ok_esnil, ok_escons, ok_t0, ok_t1, ok_seq, seqQQ_l, seqQQ_t, seqQQ_s, ok_rng, ok_rng2, ok_zip, zipQ_l, zipQ_t, ok_enum, enumQ_l, p_sorted, eqD_pair, rngQ_i, ok_tand, ok_tor, ok_tnot, tst_var, tst_own, tst_k, tst_prim, tst_ite, tst_chain, tst_call, tst_cidx, ok_bind, ok_ok, ok_no, ok_guard, Res.bind_ok, eqD_int, eqD_bool, eqD_str, eqD_nil, eqD_none, konV, setAll, seqQ_nx, seqQ_rt, seqQ_bk, seqQ_ct, ok_cons, ok_nil, p_add, p_addL, p_addT, p_addS, p_sub, p_mul, p_fdiv, p_mod, p_pow, p_neg, p_eq, p_ne, p_lt, p_le, p_gt, p_ge, p_in, p_notin, p_isN, p_notN, p_isB, p_notB, p_idxL, p_idxT, p_lst0, p_lst1, p_lst2, p_lst3, p_lst4, p_lst5, p_lst6, p_lst7, p_tup0, p_tup1, p_tup2, p_tup3, p_tup4, p_tup5, p_lenL, p_lenT, p_listL, p_listT, p_tupleL, p_tupleT, p_abs, p_max2, p_min2, p_max4, p_intI, p_intB, p_isi, p_rev, p_revT, ok_popS, popQ_o, t_b, t_i, t_n, a_n, a_t, a_l, sM_t, sM_f, sA_0, sA_1, wE_0, wE_1, List.map_cons, List.map_nil, List.set_cons_zero, List.set_cons_succ, List.getElem?_cons_zero, List.getElem?_cons_succ, Nat.reduceAdd, at0, at1, at2, at3, at4, at5, at6, ix0, ix1, ix2, List.length_cons, List.length_nil, List.nil_append, decide_eq_true_eq, onFin_rt, onFin_nx, Bool.not_eq_true', decide_eq_false_iff_not, Int.reducePow, Int.reduceNeg, Int.reduceLT, Int.reduceLE, Nat.reduceLeDiff, Int.reduceToNat, Nat.reducePow, Int.reduceSub, Int.reduceAdd, Int.reduceMul, true_and, and_true, true_or, or_true, decide_true, and_self, if_true, if_false, Bool.false_eq_true, Bool.true_eq_false, reduceCtorEq, not_false_eq_true, not_true_eq_false, reduceIte, p_dictT, dixQ_t, p_sortT, p_ninT, p_dictP, p_tupP, p_dn, p_getT, ok_dput, dputQ_o, ok_dsd, dsdQ_o, frzQ_t, frzQ_k, sM_d, sM_k, ok_dcomp, ditQ_d, ok_disp, dspQ_d, ok_kput, kputQ_o, p_dictK, p_ninK, p_getK, ok_parT]
      rw [← ok_cons]
      refine (fin z2 _ hz2 h3).imp fun r hr => ?_
      obtain ⟨f, env2, cs9⟩ := r
      cases f with
      | nx => exact hr
      | _ => exact hr.elim
  · rintro env cs' ⟨fs, s5, s6, s7, s8, s9, rfl, ht, hfn, hfl, hb⟩
    rw [rngL_length, Nat.zero_add] at hfn hfl
    have hfl : fs.length = ns.length := by omega
    simp only [ok_asg, ok_par, ok_ownS, ok_newc, newQ_l, ok_cset, csetQ0, ok_app, appQ_o, ok_ins, insQ_o, ok_frz, frzQ_o, frzQ_v, ok_iteS, ok_for, ok_whil, ok_ret, ok_retN, ok_expr, ok_brk, ok_cont, ok_pass, ok_var, ok_own, ok_k, ok_glob, ok_gdk, gdkQ_s, ok_callK, kwQ_s, arF, Option.bind_some, Option.map_some, ok_dct, ok_dix, dixQ_k, tst_callK, ok_lset, lsetQ_o, p_rep, ok_prim, ok_and, ok_or, ok_not, ok_iteE, ok_chain, ok_call, ok_cidx, cidQ0, ok_comp, ok_esnil, ok_escons, ok_t0, ok_t1, ok_seq, seqQQ_l, seqQQ_t, seqQQ_s, ok_rng, ok_rng2, ok_zip, zipQ_l, zipQ_t, ok_enum, enumQ_l, p_sorted, eqD_pair, rngQ_i, ok_tand, ok_tor, ok_tnot, tst_var, tst_own, tst_k, tst_prim, tst_ite, tst_chain, tst_call, tst_cidx, ok_bind, ok_ok, ok_no, ok_guard, Res.bind_ok, eqD_int, eqD_bool, eqD_str, eqD_nil, eqD_none, konV, setAll, seqQ_nx, seqQ_rt, seqQ_bk, seqQ_ct, ok_cons, ok_nil, p_add, p_addL, p_addT, p_addS, p_sub, p_mul, p_fdiv, p_mod, p_pow, p_neg, p_eq, p_ne, p_lt, p_le, p_gt, p_ge, p_in, p_notin, p_isN, p_notN, p_isB, p_notB, p_idxL, p_idxT, p_lst0, p_lst1, p_lst2, p_lst3, p_lst4, p_lst5, p_lst6, p_lst7, p_tup0, p_tup1, p_tup2, p_tup3, p_tup4, p_tup5, p_lenL, p_lenT, p_listL, p_listT, p_tupleL, p_tupleT, p_abs, p_max2, p_min2, p_max4, p_intI, p_intB, p_isi, p_rev, p_revT, ok_popS, popQ_o, t_b, t_i, t_n, a_n, a_t, a_l, sM_t, sM_f, sA_0, sA_1, wE_0, wE_1, List.map_cons, List.map_nil, List.set_cons_zero, List.set_cons_succ, List.getElem?_cons_zero, List.getElem?_cons_succ, Nat.reduceAdd, at0, at1, at2, at3, at4, at5, at6, ix0, ix1, ix2, List.length_cons, List.length_nil, List.nil_append, decide_eq_true_eq, onFin_rt, onFin_nx, Bool.not_eq_true', decide_eq_false_iff_not, Int.reducePow, Int.reduceNeg, Int.reduceLT, Int.reduceLE, Nat.reduceLeDiff, Int.reduceToNat, Nat.reducePow, Int.reduceSub, Int.reduceAdd, Int.reduceMul, true_and, and_true, true_or, or_true, decide_true, and_self, if_true, if_false, Bool.false_eq_true, Bool.true_eq_false, reduceCtorEq, not_false_eq_true, not_true_eq_false, reduceIte, p_dictT, dixQ_t, p_sortT, p_ninT, p_dictP, p_tupP, p_dn, p_getT, ok_dput, dputQ_o, ok_dsd, dsdQ_o, frzQ_t, frzQ_k, sM_d, sM_k, ok_dcomp, ditQ_d, ok_disp, dspQ_d, ok_kput, kputQ_o, p_dictK, p_ninK, p_getK, ok_parT]
    simp only [ok_asg, ok_par, ok_ownS, ok_newc, newQ_l, ok_cset, csetQ0, ok_app, appQ_o, ok_ins, insQ_o, ok_frz, frzQ_o, frzQ_v, ok_iteS, ok_for, ok_whil, ok_ret, ok_retN, ok_expr, ok_brk, ok_cont, ok_pass, ok_var, ok_own, ok_k, ok_glob, ok_gdk, gdkQ_s, ok_callK, kwQ_s, arF, Option.bind_some, Option.map_some, ok_dct, ok_dix, dixQ_k, tst_callK, ok_lset, lsetQ_o, p_rep, ok_prim, ok_and, ok_or, ok_not, ok_iteE, ok_chain, ok_call, ok_cidx, cidQ0, ok_comp, ok_esnil, ok_escons, ok_t0, ok_t1, ok_seq, seqQQ_l, seqQQ_t, seqQQ_s, ok_rng, ok_rng2, ok_zip, zipQ_l, zipQ_t, ok_enum, enumQ_l, p_sorted, eqD_pair, rngQ_i, ok_tand, ok_tor, ok_tnot, tst_var, tst_own, tst_k, tst_prim, tst_ite, tst_chain, tst_call, tst_cidx, ok_bind, ok_ok, ok_no, ok_guard, Res.bind_ok, eqD_int, eqD_bool, eqD_str, eqD_nil, eqD_none, konV, setAll, seqQ_nx, seqQ_rt, seqQ_bk, seqQ_ct, ok_cons, ok_nil, p_add, p_addL, p_addT, p_addS, p_sub, p_mul, p_fdiv, p_mod, p_pow, p_neg, p_eq, p_ne, p_lt, p_le, p_gt, p_ge, p_in, p_notin, p_isN, p_notN, p_isB, p_notB, p_idxL, p_idxT, p_lst0, p_lst1, p_lst2, p_lst3, p_lst4, p_lst5, p_lst6, p_lst7, p_tup0, p_tup1, p_tup2, p_tup3, p_tup4, p_tup5, p_lenL, p_lenT, p_listL, p_listT, p_tupleL, p_tupleT, p_abs, p_max2, p_min2, p_max4, p_intI, p_intB, p_isi, p_rev, p_revT, ok_popS, popQ_o, t_b, t_i, t_n, a_n, a_t, a_l, sM_t, sM_f, sA_0, sA_1, wE_0, wE_1, List.map_cons, List.map_nil, List.set_cons_zero, List.set_cons_succ, List.getElem?_cons_zero, List.getElem?_cons_succ, Nat.reduceAdd, at0, at1, at2, at3, at4, at5, at6, ix0, ix1, ix2, List.length_cons, List.length_nil, List.nil_append, decide_eq_true_eq, onFin_rt, onFin_nx, Bool.not_eq_true', decide_eq_false_iff_not, Int.reducePow, Int.reduceNeg, Int.reduceLT, Int.reduceLE, Nat.reduceLeDiff, Int.reduceToNat, Nat.reducePow, Int.reduceSub, Int.reduceAdd, Int.reduceMul, true_and, and_true, true_or, or_true, decide_true, and_self, if_true, if_false, Bool.false_eq_true, Bool.true_eq_false, reduceCtorEq, not_false_eq_true, not_true_eq_false, reduceIte, p_dictT, dixQ_t, p_sortT, p_ninT, p_dictP, p_tupP, p_dn, p_getT, ok_dput, dputQ_o, ok_dsd, dsdQ_o, frzQ_t, frzQ_k, sM_d, sM_k, ok_dcomp, ditQ_d, ok_disp, dspQ_d, ok_kput, kputQ_o, p_dictK, p_ninK, p_getK, ok_parT, s__law_plan_4, rw_sortOk (show fs.length ≤ 1000 by omega), sort_rw]
    have hp := sortW_perm fs
    have hnm : ((sortW fs).map (·.nm)).Perm ns := by
      refine (hp.map _).trans ?_
      rw [hfn, List.take_of_length_le (by omega)]
      have := hop.map (nmAt ns)
      rwa [nmAt_rng] at this
    refine k (sortW fs) _ ⟨hnm.nodup_iff.mpr hnd, fun r hr => (hb r (hp.mem_iff.mp hr)).1, fun r hr => ?_, by rw [hp.length_eq]; omega, fun z hz => hok z (hnm.mem_iff.mp hz)⟩ (by rw [hp.length_eq]; omega) (by rw [hp.length_eq]; omega) ht
    obtain ⟨_, h4, h5⟩ := hb r (hp.mem_iff.mp hr)
    exact ⟨h4, fun y hy => hnm.mem_iff.mpr (h5 y hy)⟩
def tabD (pl : List Rw) : List (L2.Key × PyData) := pl.map fun r => (Sum.inr r.nm, vrw r)
theorem kd_s {z : Str} {kvs : List (L2.Key × PyData)} : (keyD (.str z)).bind (lookK kvs) = lookK kvs (Sum.inr z) := nr rfl
theorem put_fresh {acc : List (L2.Key × PyData)} {k : L2.Key} {v : PyData} (h : k ∉ acc.map (·.1)) : putD acc k v = acc ++ [(k, v)] := by
  unfold putD
  rw [if_neg]
  intro z
  rw [List.any_eq_true] at z
  obtain ⟨q, hq, e⟩ := z
  exact h (List.mem_map.mpr ⟨q, hq, of_decide_eq_true e⟩)
theorem merge_fresh : ∀ (ps acc : List (L2.Key × PyData)), (ps.map (·.1)).Nodup → (∀ k ∈ ps.map (·.1), k ∉ acc.map (·.1)) → mergeD acc ps = acc ++ ps
  | [], acc, _, _ => by rw [List.append_nil]; rfl
  | p :: ps, acc, hn, hf => by
    rw [List.map_cons, List.nodup_cons] at hn
    show mergeD (putD acc p.1 p.2) ps = _
    rw [put_fresh (hf p.1 List.mem_cons_self), merge_fresh ps _ hn.2 fun k hk z => ?_, List.append_assoc]
    · rfl
    · rw [List.map_append] at z
      rcases List.mem_append.mp z with z | z
      · exact hf k (List.mem_cons_of_mem _ hk) z
      · have e : k = p.1 := by simpa using z
        rw [e] at hk
        exact hn.1 hk
theorem tab_keys (pl : List Rw) : (tabD pl).map (·.1) = (pl.map (·.nm)).map Sum.inr := by
  unfold tabD
  rw [List.map_map, List.map_map]
  rfl
theorem merge_tab {pl : List Rw} (g : GdP pl) : mergeD [] (tabD pl) = tabD pl := by
  refine merge_fresh _ [] ?_ fun k _ z => by cases z
  rw [tab_keys]
  exact List.Pairwise.map (S := fun a b : L2.Key => a ≠ b) Sum.inr (fun _ _ (hne : _ ≠ _) hq => hne (Sum.inr.inj hq)) g.nd
theorem look_tab (z : Str) : ∀ pl : List Rw, lookK (tabD pl) (Sum.inr z) = (rof pl z).map vrw
  | [] => rfl
  | r :: pl => by
    have ih := look_tab z pl
    show (if (Sum.inr r.nm : L2.Key) = Sum.inr z then some (vrw r) else lookK (tabD pl) (Sum.inr z)) = _
    unfold rof
    by_cases e : r.nm = z
    · rw [if_pos (by rw [e]), List.find?_cons_of_pos (by simpa using e)]
      rfl
    · rw [if_neg (fun q => e (Sum.inr.inj q)), List.find?_cons_of_neg (by simpa using e), ih]
      rfl
theorem table_ok {W n : Nat} {pl : List Rw} {cs : Cells} {Q : MV × Cells → Prop} (g : GdP pl) (k : Q (.k (tabD pl), cs)) : Ok (R.run Ds gl W (n + 1) i_table_of [.d (.tuple (pl.map rwD))] cs) Q := by
  rw [u_table_of, ok_fin]
  unfold b_table_of
  simp only [ok_asg, ok_par, ok_ownS, ok_newc, newQ_l, ok_cset, csetQ0, ok_app, appQ_o, ok_ins, insQ_o, ok_frz, frzQ_o, frzQ_v, ok_iteS, ok_for, ok_whil, ok_ret, ok_retN, ok_expr, ok_brk, ok_cont, ok_pass, ok_var, ok_own, ok_k, ok_glob, ok_gdk, gdkQ_s, ok_callK, kwQ_s, arF, Option.bind_some, Option.map_some, ok_dct, ok_dix, dixQ_k, tst_callK, ok_lset, lsetQ_o, p_rep, ok_prim, ok_and, ok_or, ok_not, ok_iteE, ok_chain, ok_call, ok_cidx, cidQ0, ok_comp, ok_esnil, ok_escons, ok_t0, ok_t1, ok_seq, seqQQ_l, seqQQ_t, seqQQ_s, ok_rng, ok_rng2, ok_zip, zipQ_l, zipQ_t, ok_enum, enumQ_l, p_sorted, eqD_pair, rngQ_i, ok_tand, ok_tor, ok_tnot, tst_var, tst_own, tst_k, tst_prim, tst_ite, tst_chain, tst_call, tst_cidx, ok_bind, ok_ok, ok_no, ok_guard, Res.bind_ok, eqD_int, eqD_bool, eqD_str, eqD_nil, eqD_none, konV, setAll, seqQ_nx, seqQ_rt, seqQ_bk, seqQ_ct, ok_cons, ok_nil, p_add, p_addL, p_addT, p_addS, p_sub, p_mul, p_fdiv, p_mod, p_pow, p_neg, p_eq, p_ne, p_lt, p_le, p_gt, p_ge, p_in, p_notin, p_isN, p_notN, p_isB, p_notB, p_idxL, p_idxT, p_lst0, p_lst1, p_lst2, p_lst3, p_lst4, p_lst5, p_lst6, p_lst7, p_tup0, p_tup1, p_tup2, p_tup3, p_tup4, p_tup5, p_lenL, p_lenT, p_listL, p_listT, p_tupleL, p_tupleT, p_abs, p_max2, p_min2, p_max4, p_intI, p_intB, p_isi, p_rev, p_revT, ok_popS, popQ_o, t_b, t_i, t_n, a_n, a_t, a_l, sM_t, sM_f, sA_0, sA_1, wE_0, wE_1, List.map_cons, List.map_nil, List.set_cons_zero, List.set_cons_succ, List.getElem?_cons_zero, List.getElem?_cons_succ, Nat.reduceAdd, at0, at1, at2, at3, at4, at5, at6, ix0, ix1, ix2, List.length_cons, List.length_nil, List.nil_append, decide_eq_true_eq, onFin_rt, onFin_nx, Bool.not_eq_true', decide_eq_false_iff_not, Int.reducePow, Int.reduceNeg, Int.reduceLT, Int.reduceLE, Nat.reduceLeDiff, Int.reduceToNat, Nat.reducePow, Int.reduceSub, Int.reduceAdd, Int.reduceMul, true_and, and_true, true_or, or_true, decide_true, and_self, if_true, if_false, Bool.false_eq_true, Bool.true_eq_false, reduceCtorEq, not_false_eq_true, not_true_eq_false, reduceIte, p_dictT, dixQ_t, p_sortT, p_ninT, p_dictP, p_tupP, p_dn, p_getT, ok_dput, dputQ_o, ok_dsd, dsdQ_o, frzQ_t, frzQ_k, sM_d, sM_k, ok_dcomp, ditQ_d, ok_disp, dspQ_d, ok_kput, kputQ_o, p_dictK, p_ninK, p_getK, ok_parT, s_table_of_0]
  refine ok_dcE rwD (fun r => (Sum.inr r.nm, vrw r)) _ (fun r hr T t => ?_) (line_le (by have := g.len; omega)) ?_
  · rw [ok_dstep]
    unfold rwD
    simp only [ok_asg, ok_par, ok_ownS, ok_newc, newQ_l, ok_cset, csetQ0, ok_app, appQ_o, ok_ins, insQ_o, ok_frz, frzQ_o, frzQ_v, ok_iteS, ok_for, ok_whil, ok_ret, ok_retN, ok_expr, ok_brk, ok_cont, ok_pass, ok_var, ok_own, ok_k, ok_glob, ok_gdk, gdkQ_s, ok_callK, kwQ_s, arF, Option.bind_some, Option.map_some, ok_dct, ok_dix, dixQ_k, tst_callK, ok_lset, lsetQ_o, p_rep, ok_prim, ok_and, ok_or, ok_not, ok_iteE, ok_chain, ok_call, ok_cidx, cidQ0, ok_comp, ok_esnil, ok_escons, ok_t0, ok_t1, ok_seq, seqQQ_l, seqQQ_t, seqQQ_s, ok_rng, ok_rng2, ok_zip, zipQ_l, zipQ_t, ok_enum, enumQ_l, p_sorted, eqD_pair, rngQ_i, ok_tand, ok_tor, ok_tnot, tst_var, tst_own, tst_k, tst_prim, tst_ite, tst_chain, tst_call, tst_cidx, ok_bind, ok_ok, ok_no, ok_guard, Res.bind_ok, eqD_int, eqD_bool, eqD_str, eqD_nil, eqD_none, konV, setAll, seqQ_nx, seqQ_rt, seqQ_bk, seqQ_ct, ok_cons, ok_nil, p_add, p_addL, p_addT, p_addS, p_sub, p_mul, p_fdiv, p_mod, p_pow, p_neg, p_eq, p_ne, p_lt, p_le, p_gt, p_ge, p_in, p_notin, p_isN, p_notN, p_isB, p_notB, p_idxL, p_idxT, p_lst0, p_lst1, p_lst2, p_lst3, p_lst4, p_lst5, p_lst6, p_lst7, p_tup0, p_tup1, p_tup2, p_tup3, p_tup4, p_tup5, p_lenL, p_lenT, p_listL, p_listT, p_tupleL, p_tupleT, p_abs, p_max2, p_min2, p_max4, p_intI, p_intB, p_isi, p_rev, p_revT, ok_popS, popQ_o, t_b, t_i, t_n, a_n, a_t, a_l, sM_t, sM_f, sA_0, sA_1, wE_0, wE_1, List.map_cons, List.map_nil, List.set_cons_zero, List.set_cons_succ, List.getElem?_cons_zero, List.getElem?_cons_succ, Nat.reduceAdd, at0, at1, at2, at3, at4, at5, at6, ix0, ix1, ix2, List.length_cons, List.length_nil, List.nil_append, decide_eq_true_eq, onFin_rt, onFin_nx, Bool.not_eq_true', decide_eq_false_iff_not, Int.reducePow, Int.reduceNeg, Int.reduceLT, Int.reduceLE, Nat.reduceLeDiff, Int.reduceToNat, Nat.reducePow, Int.reduceSub, Int.reduceAdd, Int.reduceMul, true_and, and_true, true_or, or_true, decide_true, and_self, if_true, if_false, Bool.false_eq_true, Bool.true_eq_false, reduceCtorEq, not_false_eq_true, not_true_eq_false, reduceIte, p_dictT, dixQ_t, p_sortT, p_ninT, p_dictP, p_tupP, p_dn, p_getT, ok_dput, dputQ_o, ok_dsd, dsdQ_o, frzQ_t, frzQ_k, sM_d, sM_k, ok_dcomp, ditQ_d, ok_disp, dspQ_d, ok_kput, kputQ_o, p_dictK, p_ninK, p_getK, ok_parT]
    exact t
  · have e : (pl.map fun r => ((Sum.inr r.nm : L2.Key), vrw r)) = tabD pl := rfl
    rw [e, merge_tab g]
    simp only [ok_asg, ok_par, ok_ownS, ok_newc, newQ_l, ok_cset, csetQ0, ok_app, appQ_o, ok_ins, insQ_o, ok_frz, frzQ_o, frzQ_v, ok_iteS, ok_for, ok_whil, ok_ret, ok_retN, ok_expr, ok_brk, ok_cont, ok_pass, ok_var, ok_own, ok_k, ok_glob, ok_gdk, gdkQ_s, ok_callK, kwQ_s, arF, Option.bind_some, Option.map_some, ok_dct, ok_dix, dixQ_k, tst_callK, ok_lset, lsetQ_o, p_rep, ok_prim, ok_and, ok_or, ok_not, ok_iteE, ok_chain, ok_call, ok_cidx, cidQ0, ok_comp, ok_esnil, ok_escons, ok_t0, ok_t1, ok_seq, seqQQ_l, seqQQ_t, seqQQ_s, ok_rng, ok_rng2, ok_zip, zipQ_l, zipQ_t, ok_enum, enumQ_l, p_sorted, eqD_pair, rngQ_i, ok_tand, ok_tor, ok_tnot, tst_var, tst_own, tst_k, tst_prim, tst_ite, tst_chain, tst_call, tst_cidx, ok_bind, ok_ok, ok_no, ok_guard, Res.bind_ok, eqD_int, eqD_bool, eqD_str, eqD_nil, eqD_none, konV, setAll, seqQ_nx, seqQ_rt, seqQ_bk, seqQ_ct, ok_cons, ok_nil, p_add, p_addL, p_addT, p_addS, p_sub, p_mul, p_fdiv, p_mod, p_pow, p_neg, p_eq, p_ne, p_lt, p_le, p_gt, p_ge, p_in, p_notin, p_isN, p_notN, p_isB, p_notB, p_idxL, p_idxT, p_lst0, p_lst1, p_lst2, p_lst3, p_lst4, p_lst5, p_lst6, p_lst7, p_tup0, p_tup1, p_tup2, p_tup3, p_tup4, p_tup5, p_lenL, p_lenT, p_listL, p_listT, p_tupleL, p_tupleT, p_abs, p_max2, p_min2, p_max4, p_intI, p_intB, p_isi, p_rev, p_revT, ok_popS, popQ_o, t_b, t_i, t_n, a_n, a_t, a_l, sM_t, sM_f, sA_0, sA_1, wE_0, wE_1, List.map_cons, List.map_nil, List.set_cons_zero, List.set_cons_succ, List.getElem?_cons_zero, List.getElem?_cons_succ, Nat.reduceAdd, at0, at1, at2, at3, at4, at5, at6, ix0, ix1, ix2, List.length_cons, List.length_nil, List.nil_append, decide_eq_true_eq, onFin_rt, onFin_nx, Bool.not_eq_true', decide_eq_false_iff_not, Int.reducePow, Int.reduceNeg, Int.reduceLT, Int.reduceLE, Nat.reduceLeDiff, Int.reduceToNat, Nat.reducePow, Int.reduceSub, Int.reduceAdd, Int.reduceMul, true_and, and_true, true_or, or_true, decide_true, and_self, if_true, if_false, Bool.false_eq_true, Bool.true_eq_false, reduceCtorEq, not_false_eq_true, not_true_eq_false, reduceIte, p_dictT, dixQ_t, p_sortT, p_ninT, p_dictP, p_tupP, p_dn, p_getT, ok_dput, dputQ_o, ok_dsd, dsdQ_o, frzQ_t, frzQ_k, sM_d, sM_k, ok_dcomp, ditQ_d, ok_disp, dspQ_d, ok_kput, kputQ_o, p_dictK, p_ninK, p_getK, ok_parT]
    exact k
theorem prs_tab : ∀ pl : List Rw, prsK (pl.map fun r => PyData.tuple [.str r.nm, vrw r]) = some (tabD pl)
  | [] => rfl
  | r :: pl => by
    rw [List.map_cons, prsK, prs_tab pl]
    rfl
theorem Bi.up {pl : List Rw} {u0 : Str} {B : BD} (g : GdP pl) (h : Bi pl u0 B) {u v : Str} {o : List Str} (ho : lookB B u = some o) (hv : v ∈ nxo pl u) (hb : btr pl B v (o ++ [v]) = true) :
    Bi pl u0 (putB B v (o ++ [v])) ∧ Le pl B (putB B v (o ++ [v])) ∧ Dom pl (putB B v (o ++ [v])) v (o ++ [v]) ∧ lookB (putB B v (o ++ [v])) u = some o := by
  have hw := (h.wk u o ho).snoc hv
  obtain ⟨a, ha⟩ := (h.wk u o ho).form
  refine ⟨h.put g hw.1 (by rw [ha]; simp) (by have := h.co u o ho; have := tko_b g u; rw [hw.2]; omega) hb, put_le hb, put_dom pl B v _, ?_⟩
  rw [look_put, if_neg fun e => ?_]
  · exact ho
  · subst e
    rw [btr_self g h ho] at hb
    cases hb
theorem keys_len {pl : List Rw} {u0 : Str} {B : BD} (g : GdP pl) (hu : u0 ∈ pl.map (·.nm)) (h : Bi pl u0 B) : B.length ≤ 10 := by
  have := sub_len h.nd (l := pl.map (·.nm)) fun z hz => by
    obtain ⟨p, hp⟩ := Option.isSome_iff_exists.mp (look_key.mpr hz)
    have hw := h.wk z p hp
    obtain ⟨a, rfl⟩ := hw.form
    exact hw.nodes g hu z (by simp)
  rw [List.length_map, List.length_map] at this
  have := g.len
  omega
theorem Bi.row {pl : List Rw} {u0 : Str} {B : BD} (g : GdP pl) (hu : u0 ∈ pl.map (·.nm)) (h : Bi pl u0 B) {u : Str} {o : List Str} (ho : lookB B u = some o) : ∃ r, rof pl u = some r := by
  have hw := h.wk u o ho
  obtain ⟨a, rfl⟩ := hw.form
  exact rof_some (hw.nodes g hu u (by simp))
theorem nxo_of {pl : List Rw} {u : Str} {r : Rw} (h : rof pl u = some r) : nxo pl u = r.nx := by unfold nxo; rw [h]
theorem tko_of {pl : List Rw} {u : Str} {r : Rw} (h : rof pl u = some r) : tko pl u = r.tk := by unfold tko; rw [h]
theorem tx_enc (pl : List Rw) : ∀ B : BD, txK (encB pl B) = some (B.map (·.1))
  | [] => rfl
  | b :: r => by
    show (txK (encB pl r)).map (b.1 :: ·) = _
    rw [tx_enc pl r]
    rfl
theorem path_le {pl : List Rw} {u0 : Str} {B : BD} (g : GdP pl) (hu : u0 ∈ pl.map (·.nm)) (h : Bi pl u0 B) {z : Str} {p : List Str} (hz : lookB B z = some p) : p.length ≤ 1000 := by
  have h1 := cst_pos g p
  have h2 := h.co z p hz
  have h3 := keys_len g hu h
  omega
theorem lblocks_ok {W n : Nat} {pl : List Rw} {cs : Cells} {Q : MV × Cells → Prop} (g : GdP pl) (k : Q (.k (tabD pl), cs)) : Ok (R.run Ds gl W (n + 1) i__law_blocks [.d (.tuple (pl.map rwD))] cs) Q := by
  rw [u__law_blocks, ok_fin]
  unfold b__law_blocks
  simp only [ok_asg, ok_par, ok_ownS, ok_newc, newQ_l, ok_cset, csetQ0, ok_app, appQ_o, ok_ins, insQ_o, ok_frz, frzQ_o, frzQ_v, ok_iteS, ok_for, ok_whil, ok_ret, ok_retN, ok_expr, ok_brk, ok_cont, ok_pass, ok_var, ok_own, ok_k, ok_glob, ok_gdk, gdkQ_s, ok_callK, kwQ_s, arF, Option.bind_some, Option.map_some, ok_dct, ok_dix, dixQ_k, tst_callK, ok_lset, lsetQ_o, p_rep, ok_prim, ok_and, ok_or, ok_not, ok_iteE, ok_chain, ok_call, ok_cidx, cidQ0, ok_comp, ok_esnil, ok_escons, ok_t0, ok_t1, ok_seq, seqQQ_l, seqQQ_t, seqQQ_s, ok_rng, ok_rng2, ok_zip, zipQ_l, zipQ_t, ok_enum, enumQ_l, p_sorted, eqD_pair, rngQ_i, ok_tand, ok_tor, ok_tnot, tst_var, tst_own, tst_k, tst_prim, tst_ite, tst_chain, tst_call, tst_cidx, ok_bind, ok_ok, ok_no, ok_guard, Res.bind_ok, eqD_int, eqD_bool, eqD_str, eqD_nil, eqD_none, konV, setAll, seqQ_nx, seqQ_rt, seqQ_bk, seqQ_ct, ok_cons, ok_nil, p_add, p_addL, p_addT, p_addS, p_sub, p_mul, p_fdiv, p_mod, p_pow, p_neg, p_eq, p_ne, p_lt, p_le, p_gt, p_ge, p_in, p_notin, p_isN, p_notN, p_isB, p_notB, p_idxL, p_idxT, p_lst0, p_lst1, p_lst2, p_lst3, p_lst4, p_lst5, p_lst6, p_lst7, p_tup0, p_tup1, p_tup2, p_tup3, p_tup4, p_tup5, p_lenL, p_lenT, p_listL, p_listT, p_tupleL, p_tupleT, p_abs, p_max2, p_min2, p_max4, p_intI, p_intB, p_isi, p_rev, p_revT, ok_popS, popQ_o, t_b, t_i, t_n, a_n, a_t, a_l, sM_t, sM_f, sA_0, sA_1, wE_0, wE_1, List.map_cons, List.map_nil, List.set_cons_zero, List.set_cons_succ, List.getElem?_cons_zero, List.getElem?_cons_succ, Nat.reduceAdd, at0, at1, at2, at3, at4, at5, at6, ix0, ix1, ix2, List.length_cons, List.length_nil, List.nil_append, decide_eq_true_eq, onFin_rt, onFin_nx, Bool.not_eq_true', decide_eq_false_iff_not, Int.reducePow, Int.reduceNeg, Int.reduceLT, Int.reduceLE, Nat.reduceLeDiff, Int.reduceToNat, Nat.reducePow, Int.reduceSub, Int.reduceAdd, Int.reduceMul, true_and, and_true, true_or, or_true, decide_true, and_self, if_true, if_false, Bool.false_eq_true, Bool.true_eq_false, reduceCtorEq, not_false_eq_true, not_true_eq_false, reduceIte, p_dictT, dixQ_t, p_sortT, p_ninT, p_dictP, p_tupP, p_dn, p_getT, ok_dput, dputQ_o, ok_dsd, dsdQ_o, frzQ_t, frzQ_k, sM_d, sM_k, ok_dcomp, ditQ_d, ok_disp, dspQ_d, ok_kput, kputQ_o, p_dictK, p_ninK, p_getK, ok_parT, s__law_blocks_0]
  refine ok_lcE rwD (fun r => some (.tuple [.str r.nm, vrw r])) _ (fun r hr T t => ?_) (line_le (by have := g.len; omega)) ?_
  · rw [ok_cstep]
    unfold rwD
    simp only [ok_asg, ok_par, ok_ownS, ok_newc, newQ_l, ok_cset, csetQ0, ok_app, appQ_o, ok_ins, insQ_o, ok_frz, frzQ_o, frzQ_v, ok_iteS, ok_for, ok_whil, ok_ret, ok_retN, ok_expr, ok_brk, ok_cont, ok_pass, ok_var, ok_own, ok_k, ok_glob, ok_gdk, gdkQ_s, ok_callK, kwQ_s, arF, Option.bind_some, Option.map_some, ok_dct, ok_dix, dixQ_k, tst_callK, ok_lset, lsetQ_o, p_rep, ok_prim, ok_and, ok_or, ok_not, ok_iteE, ok_chain, ok_call, ok_cidx, cidQ0, ok_comp, ok_esnil, ok_escons, ok_t0, ok_t1, ok_seq, seqQQ_l, seqQQ_t, seqQQ_s, ok_rng, ok_rng2, ok_zip, zipQ_l, zipQ_t, ok_enum, enumQ_l, p_sorted, eqD_pair, rngQ_i, ok_tand, ok_tor, ok_tnot, tst_var, tst_own, tst_k, tst_prim, tst_ite, tst_chain, tst_call, tst_cidx, ok_bind, ok_ok, ok_no, ok_guard, Res.bind_ok, eqD_int, eqD_bool, eqD_str, eqD_nil, eqD_none, konV, setAll, seqQ_nx, seqQ_rt, seqQ_bk, seqQ_ct, ok_cons, ok_nil, p_add, p_addL, p_addT, p_addS, p_sub, p_mul, p_fdiv, p_mod, p_pow, p_neg, p_eq, p_ne, p_lt, p_le, p_gt, p_ge, p_in, p_notin, p_isN, p_notN, p_isB, p_notB, p_idxL, p_idxT, p_lst0, p_lst1, p_lst2, p_lst3, p_lst4, p_lst5, p_lst6, p_lst7, p_tup0, p_tup1, p_tup2, p_tup3, p_tup4, p_tup5, p_lenL, p_lenT, p_listL, p_listT, p_tupleL, p_tupleT, p_abs, p_max2, p_min2, p_max4, p_intI, p_intB, p_isi, p_rev, p_revT, ok_popS, popQ_o, t_b, t_i, t_n, a_n, a_t, a_l, sM_t, sM_f, sA_0, sA_1, wE_0, wE_1, List.map_cons, List.map_nil, List.set_cons_zero, List.set_cons_succ, List.getElem?_cons_zero, List.getElem?_cons_succ, Nat.reduceAdd, at0, at1, at2, at3, at4, at5, at6, ix0, ix1, ix2, List.length_cons, List.length_nil, List.nil_append, decide_eq_true_eq, onFin_rt, onFin_nx, Bool.not_eq_true', decide_eq_false_iff_not, Int.reducePow, Int.reduceNeg, Int.reduceLT, Int.reduceLE, Nat.reduceLeDiff, Int.reduceToNat, Nat.reducePow, Int.reduceSub, Int.reduceAdd, Int.reduceMul, true_and, and_true, true_or, or_true, decide_true, and_self, if_true, if_false, Bool.false_eq_true, Bool.true_eq_false, reduceCtorEq, not_false_eq_true, not_true_eq_false, reduceIte, p_dictT, dixQ_t, p_sortT, p_ninT, p_dictP, p_tupP, p_dn, p_getT, ok_dput, dputQ_o, ok_dsd, dsdQ_o, frzQ_t, frzQ_k, sM_d, sM_k, ok_dcomp, ditQ_d, ok_disp, dspQ_d, ok_kput, kputQ_o, p_dictK, p_ninK, p_getK, ok_parT, itQ_d]
    exact t
  · rw [fm_some]
    have e : dictKD (pl.map fun r => PyData.tuple [.str r.nm, vrw r]) = .ok (.k (tabD pl)) := by
      unfold dictKD
      rw [prs_tab]
      show (if lenOk _ = true then Res.ok (MV.k (mergeD [] (tabD pl))) else .no) = _
      rw [if_pos (by unfold lenOk; rw [List.length_map]; exact decide_eq_true (line_le (by have := g.len; omega))), merge_tab g]
    simp only [ok_asg, ok_par, ok_ownS, ok_newc, newQ_l, ok_cset, csetQ0, ok_app, appQ_o, ok_ins, insQ_o, ok_frz, frzQ_o, frzQ_v, ok_iteS, ok_for, ok_whil, ok_ret, ok_retN, ok_expr, ok_brk, ok_cont, ok_pass, ok_var, ok_own, ok_k, ok_glob, ok_gdk, gdkQ_s, ok_callK, kwQ_s, arF, Option.bind_some, Option.map_some, ok_dct, ok_dix, dixQ_k, tst_callK, ok_lset, lsetQ_o, p_rep, ok_prim, ok_and, ok_or, ok_not, ok_iteE, ok_chain, ok_call, ok_cidx, cidQ0, ok_comp, ok_esnil, ok_escons, ok_t0, ok_t1, ok_seq, seqQQ_l, seqQQ_t, seqQQ_s, ok_rng, ok_rng2, ok_zip, zipQ_l, zipQ_t, ok_enum, enumQ_l, p_sorted, eqD_pair, rngQ_i, ok_tand, ok_tor, ok_tnot, tst_var, tst_own, tst_k, tst_prim, tst_ite, tst_chain, tst_call, tst_cidx, ok_bind, ok_ok, ok_no, ok_guard, Res.bind_ok, eqD_int, eqD_bool, eqD_str, eqD_nil, eqD_none, konV, setAll, seqQ_nx, seqQ_rt, seqQ_bk, seqQ_ct, ok_cons, ok_nil, p_add, p_addL, p_addT, p_addS, p_sub, p_mul, p_fdiv, p_mod, p_pow, p_neg, p_eq, p_ne, p_lt, p_le, p_gt, p_ge, p_in, p_notin, p_isN, p_notN, p_isB, p_notB, p_idxL, p_idxT, p_lst0, p_lst1, p_lst2, p_lst3, p_lst4, p_lst5, p_lst6, p_lst7, p_tup0, p_tup1, p_tup2, p_tup3, p_tup4, p_tup5, p_lenL, p_lenT, p_listL, p_listT, p_tupleL, p_tupleT, p_abs, p_max2, p_min2, p_max4, p_intI, p_intB, p_isi, p_rev, p_revT, ok_popS, popQ_o, t_b, t_i, t_n, a_n, a_t, a_l, sM_t, sM_f, sA_0, sA_1, wE_0, wE_1, List.map_cons, List.map_nil, List.set_cons_zero, List.set_cons_succ, List.getElem?_cons_zero, List.getElem?_cons_succ, Nat.reduceAdd, at0, at1, at2, at3, at4, at5, at6, ix0, ix1, ix2, List.length_cons, List.length_nil, List.nil_append, decide_eq_true_eq, onFin_rt, onFin_nx, Bool.not_eq_true', decide_eq_false_iff_not, Int.reducePow, Int.reduceNeg, Int.reduceLT, Int.reduceLE, Nat.reduceLeDiff, Int.reduceToNat, Nat.reducePow, Int.reduceSub, Int.reduceAdd, Int.reduceMul, true_and, and_true, true_or, or_true, decide_true, and_self, if_true, if_false, Bool.false_eq_true, Bool.true_eq_false, reduceCtorEq, not_false_eq_true, not_true_eq_false, reduceIte, p_dictT, dixQ_t, p_sortT, p_ninT, p_dictP, p_tupP, p_dn, p_getT, ok_dput, dputQ_o, ok_dsd, dsdQ_o, frzQ_t, frzQ_k, sM_d, sM_k, ok_dcomp, ditQ_d, ok_disp, dspQ_d, ok_kput, kputQ_o, p_dictK, p_ninK, p_getK, ok_parT, e]
    exact k
theorem rof_set {r r2 : Rw} (e : r2.nm = r.nm) (z : Str) (B : List Rw) : ∀ A : List Rw, ((A ++ r :: B).map (·.nm)).Nodup → rof (A ++ r2 :: B) z = if z = r.nm then some r2 else rof (A ++ r :: B) z
  | [], h => by
    unfold rof
    rw [List.nil_append, List.nil_append]
    by_cases c : z = r.nm
    · rw [if_pos c, List.find?_cons_of_pos (by simp [e, c])]
    · rw [if_neg c, List.find?_cons_of_neg (by simp [e]; exact fun q => c q.symm), List.find?_cons_of_neg (by simp; exact fun q => c q.symm)]
  | a :: A, h => by
    rw [List.cons_append, List.map_cons, List.nodup_cons] at h
    have ih := rof_set e z B A h.2
    have ha : a.nm ≠ r.nm := fun q => h.1 (by rw [q]; simp)
    unfold rof at ih ⊢
    rw [List.cons_append, List.cons_append]
    by_cases c : a.nm = z
    · rw [List.find?_cons_of_pos (by simpa using c), List.find?_cons_of_pos (by simpa using c), if_neg (fun q => ha (by rw [c, q]))]
    · rw [List.find?_cons_of_neg (by simpa using c), List.find?_cons_of_neg (by simpa using c), ih]
theorem rof_self {r : Rw} (B : List Rw) (A : List Rw) (h : ((A ++ r :: B).map (·.nm)).Nodup) : rof (A ++ r :: B) r.nm = some r := by
  have := rof_set (r := r) (r2 := r) rfl r.nm B A h
  rwa [if_pos rfl] at this
theorem gd_set {r r2 : Rw} {A B : List Rw} (g : GdP (A ++ r :: B)) (e : r2.nm = r.nm) (ht : 1 ≤ r2.tk ∧ r2.tk ≤ 20) (hl : r2.nx.length ≤ 2) (hy : ∀ y ∈ r2.nx, y ∈ (A ++ r :: B).map (·.nm)) : GdP (A ++ r2 :: B) := by
  have en : (A ++ r2 :: B).map (·.nm) = (A ++ r :: B).map (·.nm) := by
    rw [List.map_append, List.map_append, List.map_cons, List.map_cons, e]
  refine ⟨by rw [en]; exact g.nd, fun x hx => ?_, fun x hx => ?_, ?_, by rw [en]; exact g.ok⟩
  · rcases List.mem_append.mp hx with hx | hx
    · exact g.tk x (List.mem_append_left _ hx)
    · rcases List.mem_cons.mp hx with rfl | hx
      · exact ht
      · exact g.tk x (by simp [hx])
  · rw [en]
    rcases List.mem_append.mp hx with hx | hx
    · exact g.nx x (List.mem_append_left _ hx)
    · rcases List.mem_cons.mp hx with rfl | hx
      · exact ⟨hl, hy⟩
      · exact g.nx x (by simp [hx])
  · have := g.len
    rw [List.length_append, List.length_cons] at this ⊢
    exact this
/-- the other plan has these ways, and the same ticks -/
theorem ed_up {pl pl2 : List Rw} (h : ∀ x, ∀ y ∈ nxo pl x, y ∈ nxo pl2 x) : ∀ p : List Str, ed pl p → ed pl2 p
  | [], _ => trivial
  | [_], _ => trivial
  | x :: y :: r, he => by
    have he : y ∈ nxo pl x ∧ ed pl (y :: r) := he
    exact ⟨h x y he.1, ed_up h (y :: r) he.2⟩
theorem W.up {pl pl2 : List Rw} (h : ∀ x, ∀ y ∈ nxo pl x, y ∈ nxo pl2 x) {u v : Str} {p : List Str} (hw : W pl u v p) : W pl2 u v p := ⟨ed_up h p hw.go, hw.hd, hw.lst⟩
theorem cst_le {pl pl2 : List Rw} (h : ∀ x, tko pl x ≤ tko pl2 x) : ∀ p : List Str, cst pl p ≤ cst pl2 p
  | [] => by show (0 : Int) ≤ 0; omega
  | [_] => by show (0 : Int) ≤ 0; omega
  | x :: y :: r => by
    have := cst_le h (y :: r)
    have := h x
    show tko pl x + cst pl (y :: r) ≤ tko pl2 x + cst pl2 (y :: r)
    omega
theorem cst_sum {pl : List Rw} : ∀ p : List Str, cst pl p = ((p.dropLast).map (tko pl)).sum
  | [] => rfl
  | [_] => rfl
  | x :: y :: r => by
    show tko pl x + cst pl (y :: r) = _
    rw [cst_sum (y :: r)]
    rfl
theorem Mst.short {pl : List Rw} {u0 z : Str} {B : BD} (g : GdP pl) (h : Mst pl u0 B) {p : List Str} (hp : lookB B z = some p) : p.Nodup := by
  by_cases hn : p.Nodup
  · exact hn
  · exfalso
    obtain ⟨q, hq, hc, _⟩ := (h.bi.wk z p hp).cut g hn
    obtain ⟨o, ho, hr⟩ := h.all z q hq
    rw [hp] at ho
    cases ho
    rw [rl_cost (a := lab pl q) (b := lab pl p) hc] at hr
    cases hr
theorem Mst.pre {pl : List Rw} {u0 y v : Str} {B : BD} {q : List Str} (g : GdP pl) (h : Mst pl u0 B) (hp : lookB B v = some (q ++ [v])) (hq : W pl u0 y q) (hv : v ∈ nxo pl y) : lookB B y = some q := by
  obtain ⟨o, ho, hr⟩ := h.all y q hq
  have hw := h.bi.wk y o ho
  cases c : rl (lab pl o) (lab pl q) with
  | false =>
    have := rl_tot hr c
    have : q = o := congrArg Prod.snd this
    rw [this]
    exact ho
  | true =>
    exfalso
    obtain ⟨o2, ho2, hr2⟩ := h.all v (o ++ [v]) (hw.snoc hv).1
    rw [hp] at ho2
    cases ho2
    rw [rl_snoc g hw hq hv c] at hr2
    cases hr2
theorem Mst.some {pl : List Rw} {u0 z : Str} {B : BD} (h : Mst pl u0 B) {p : List Str} (hp : W pl u0 z p) : ∃ o, lookB B z = some o ∧ W pl u0 z o ∧ cst pl o ≤ cst pl p := by
  obtain ⟨o, ho, hr⟩ := h.all z p hp
  exact ⟨o, ho, h.bi.wk z o ho, rl_le_cost (a := lab pl o) (b := lab pl p) hr⟩
def Upto (pl : List Rw) (u0 : Str) (B : BD) (m : Nat) : Prop := ∀ z p, W pl u0 z p → p.length ≤ m → Dom pl B z p
def wt (k : Nat) : Nat := 2 ^ (10 - k) - 1
theorem wt_step {k : Nat} (h : k < 9) : wt k = 1 + 2 * wt (k + 1) := by
  have : k = 0 ∨ k = 1 ∨ k = 2 ∨ k = 3 ∨ k = 4 ∨ k = 5 ∨ k = 6 ∨ k = 7 ∨ k = 8 := by omega
  rcases this with rfl | rfl | rfl | rfl | rfl | rfl | rfl | rfl | rfl <;> rfl
theorem wt_9 : wt 9 = 1 := rfl
def Rlx (pl : List Rw) (B : BD) (u : Str) (o : List Str) : Prop := ∀ v ∈ nxo pl u, Dom pl B v (o ++ [v])
/-- a pass: what is to be gone from yet, what in the next pass -/
structure Pas (pl : List Rw) (u0 : Str) (k : Nat) (cur nxt : List Str) (B0 B : BD) : Prop where
  b0 : Bi pl u0 B0
  bi : Bi pl u0 B
  le : Le pl B0 B
  up : Upto pl u0 B0 (k + 1)
  k9 : k ≤ 9
  n9 : k = 9 → nxt = []
  has : ∀ u ∈ cur ++ nxt, ∃ o, lookB B u = some o
  a : ∀ u o, lookB B u = some o → u ∈ cur ++ nxt ∨ Rlx pl B u o
  b : ∀ u o, lookB B0 u = some o → u ∈ cur ∨ Rlx pl B u o
  len : cur.length ≤ 2 ^ k
  ln2 : nxt.length + 2 * cur.length ≤ 2 * 2 ^ k
theorem Pas.init (pl : List Rw) (u0 : Str) : Pas pl u0 0 [u0] [] [(u0, [u0])] [(u0, [u0])] := by
  have hb := Bi.init pl u0
  have key : ∀ u o, lookB [(u0, [u0])] u = some o → u = u0 := fun u o h => by
    unfold lookB at h
    split at h
    · rename_i e; exact e.symm
    · cases h
  refine ⟨hb, hb, Le.refl _ _, fun z p hw hl => ?_, by omega, fun h => (by cases h), fun u hu => ?_, fun u o h => .inl (by rw [key u o h]; simp), fun u o h => .inl (by rw [key u o h]; simp), by simp, by simp⟩
  · rcases hw.back with ⟨rfl, rfl⟩ | ⟨y, q, hy, hz, rfl⟩
    · exact ⟨_, hb.st, rl_irr _⟩
    · obtain ⟨a, rfl⟩ := hy.form
      simp at hl
  · have e : u = u0 := by simpa using hu
    rw [e]
    exact ⟨_, hb.st⟩
theorem Pas.next {pl : List Rw} {u0 : Str} {k : Nat} {nxt : List Str} {B0 B : BD} (g : GdP pl) (h : Pas pl u0 k [] nxt B0 B) (hn : nxt ≠ []) : Pas pl u0 (k + 1) nxt [] B B := by
  have hk : k < 9 := by
    have := h.k9
    rcases Nat.lt_or_ge k 9 with c | c
    · exact c
    · exact absurd (h.n9 (by omega)) hn
  have h2 := h.ln2
  simp only [List.length_nil, Nat.mul_zero, Nat.add_zero] at h2
  refine ⟨h.bi, h.bi, Le.refl _ _, fun z p hw hl => ?_, by omega, fun _ => rfl, fun u hu => h.has u (by simpa using hu), fun u o ho => ?_, fun u o ho => ?_, by rw [Nat.pow_succ]; omega, by simp only [List.length_nil]; rw [Nat.pow_succ]; omega⟩
  · rcases hw.back with ⟨rfl, rfl⟩ | ⟨y, q, hy, hz, rfl⟩
    · exact ⟨_, h.bi.st, rl_irr _⟩
    · have hql : q.length ≤ k + 1 := by
        rw [List.length_append] at hl
        simpa using hl
      obtain ⟨o, ho, hr⟩ := h.up y q hy hql
      rcases h.b y o ho with c | c
      · cases c
      · obtain ⟨o2, ho2, hr2⟩ := c z hz
        exact ⟨o2, ho2, rl_le (rl_snoc_le g hy (h.b0.wk y o ho) hz hr) hr2⟩
  · rcases h.a u o ho with c | c
    · exact .inl (by simpa using c)
    · exact .inr c
  · rcases h.a u o ho with c | c
    · exact .inl (by simpa using c)
    · exact .inr c
theorem Rlx.up {pl : List Rw} {B B2 : BD} {u : Str} {o : List Str} (h : Rlx pl B u o) (l : Le pl B B2) : Rlx pl B2 u o := fun v hv => (h v hv).up l
/-- within the turn of one block -/
structure Trn (pl : List Rw) (u0 : Str) (k : Nat) (x : Str) (o : List Str) (cur nxt : List Str) (B0 B : BD) (vs : List Str) (nxt2 : List Str) (B2 : BD) : Prop where
  bi : Bi pl u0 B2
  le : Le pl B B2
  here : lookB B2 x = some o
  dn : ∀ v ∈ vs, Dom pl B2 v (o ++ [v])
  n9 : k = 9 → nxt2 = []
  has : ∀ u ∈ cur ++ nxt2, ∃ o, lookB B2 u = some o
  a : ∀ u p, lookB B2 u = some p → u = x ∨ u ∈ cur ++ nxt2 ∨ Rlx pl B2 u p
  len : nxt2.length ≤ nxt.length + vs.length
theorem Trn.init {pl : List Rw} {u0 : Str} {k : Nat} {x : Str} {o cur nxt : List Str} {B0 B : BD} (h : Pas pl u0 k (x :: cur) nxt B0 B) (ho : lookB B x = some o) : Trn pl u0 k x o cur nxt B0 B [] nxt B := by
  refine ⟨h.bi, Le.refl _ _, ho, fun v hv => (by cases hv), h.n9, fun u hu => h.has u (List.mem_cons_of_mem _ hu), fun u p hp => ?_, by simp⟩
  rcases h.a u p hp with c | c
  · rcases List.mem_cons.mp c with c | c
    · exact .inl c
    · exact .inr (.inl c)
  · exact .inr (.inr c)
theorem Trn.no {pl : List Rw} {u0 : Str} {k : Nat} {x v : Str} {o cur nxt vs nxt2 : List Str} {B0 B B2 : BD} (h : Trn pl u0 k x o cur nxt B0 B vs nxt2 B2) (hb : btr pl B2 v (o ++ [v]) = false) : Trn pl u0 k x o cur nxt B0 B (vs ++ [v]) nxt2 B2 := by
  refine ⟨h.bi, h.le, h.here, fun w hw => ?_, h.n9, h.has, h.a, by rw [List.length_append]; have := h.len; omega⟩
  rcases List.mem_append.mp hw with hw | hw
  · exact h.dn w hw
  · rw [List.mem_singleton.mp hw]
    exact no_dom hb
theorem Trn.yes {pl : List Rw} {u0 : Str} {k : Nat} {x v : Str} {o cur nxt vs nxt2 : List Str} {B0 B B2 : BD} (g : GdP pl) (hu : u0 ∈ pl.map (·.nm)) (hp : Pas pl u0 k (x :: cur) nxt B0 B) (h : Trn pl u0 k x o cur nxt B0 B vs nxt2 B2) (hv : v ∈ nxo pl x) (hb : btr pl B2 v (o ++ [v]) = true) :
    Trn pl u0 k x o cur nxt B0 B (vs ++ [v]) (nxt2 ++ [v]) (putB B2 v (o ++ [v])) := by
  obtain ⟨p1, p2, p3, p4⟩ := h.bi.up g h.here hv hb
  refine ⟨p1, h.le.trans p2, p4, fun w hw => ?_, fun h9 => ?_, fun u hu => ?_, fun u p hq => ?_, by rw [List.length_append, List.length_append]; have := h.len; simp only [List.length_cons, List.length_nil]; omega⟩
  · rcases List.mem_append.mp hw with hw | hw
    · exact (h.dn w hw).up p2
    · rw [List.mem_singleton.mp hw]
      exact p3
  · exfalso
    have hm : Mst pl u0 B0 := short_mst g hu hp.b0 fun z q hw hl => hp.up z q hw (by have := g.len; omega)
    obtain ⟨o2, ho2, hr⟩ := (hm.all v _ ((h.bi.wk x o h.here).snoc hv).1).up (hp.le.trans h.le)
    unfold btr at hb
    rw [ho2] at hb
    have hb : rl (lab pl (o ++ [v])) (lab pl o2) = true := hb
    rw [hr] at hb
    cases hb
  · rw [look_put]
    split
    · exact ⟨_, rfl⟩
    · rename_i e
      rw [← List.append_assoc] at hu
      rcases List.mem_append.mp hu with hu | hu
      · exact h.has u hu
      · exact absurd (List.mem_singleton.mp hu) e
  · rw [look_put] at hq
    split at hq
    · rename_i e
      exact .inr (.inl (by rw [e]; simp))
    · rcases h.a u p hq with c | c | c
      · exact .inl c
      · exact .inr (.inl (by rw [← List.append_assoc]; exact List.mem_append_left _ c))
      · exact .inr (.inr (c.up p2))
theorem Trn.done {pl : List Rw} {u0 : Str} {k : Nat} {x : Str} {o cur nxt nxt2 : List Str} {B0 B B2 : BD} (g : GdP pl) (hp : Pas pl u0 k (x :: cur) nxt B0 B) (ho : lookB B x = some o) (h : Trn pl u0 k x o cur nxt B0 B (nxo pl x) nxt2 B2) (h2 : (nxo pl x).length ≤ 2) : Pas pl u0 k cur nxt2 B0 B2 := by
  have hx : Rlx pl B2 x o := h.dn
  have l2 := hp.ln2
  have l1 := hp.len
  rw [List.length_cons] at l1 l2
  refine ⟨hp.b0, h.bi, hp.le.trans h.le, hp.up, hp.k9, h.n9, h.has, fun u p hq => ?_, fun u p hq => ?_, by omega, by have := h.len; omega⟩
  · rcases h.a u p hq with c | c | c
    · subst c
      rw [h.here] at hq
      cases hq
      exact .inr hx
    · exact .inl c
    · exact .inr c
  · rcases hp.b u p hq with c | c
    · rcases List.mem_cons.mp c with c | c
      · subst c
        refine .inr fun v hv => ?_
        obtain ⟨o1, ho1, hr1⟩ := hp.le u p hq
        rw [ho] at ho1
        cases ho1
        obtain ⟨o2, ho2, hr2⟩ := hx v hv
        exact ⟨o2, ho2, rl_le (rl_snoc_le g (hp.b0.wk u p hq) (hp.bi.wk u o ho) hv hr1) hr2⟩
      · exact .inl c
    · exact .inr (c.up h.le)
theorem Pas.ends {pl : List Rw} {u0 : Str} {k : Nat} {B0 B : BD} (g : GdP pl) (h : Pas pl u0 k [] [] B0 B) : Mst pl u0 B := closed_mst g h.bi fun u q hq => by
  rcases h.a u q hq with c | c
  · cases c
  · exact c
theorem cm_strs {xs : List Str} (h : ∀ x ∈ xs, PyData.strOk x = true) : Cm 1 (.list (xs.map .str)) := fun y hy => by
  obtain ⟨x, hx, rfl⟩ := List.mem_map.mp hy
  exact h x hx
def optW (pl : List Rw) : Option (List Str) → PyData
  | none => .none
  | some p => rowD (lab pl p)
theorem way_in {W n : Nat} {pl : List Rw} {u0 x : Str} {k : Nat} {cur nxt : List Str} {B0 B : BD} {o : List Str} {s0 s1 s2 s7 s8 : Sl} {cs : Cells} {O : Out → Prop} (g : GdP pl) (hu : u0 ∈ pl.map (·.nm)) (hp : Pas pl u0 k (x :: cur) nxt B0 B) (ho : lookB B x = some o)
    (kk : ∀ B2 nxt2 s7 s8, Pas pl u0 k cur nxt2 B0 B2 → nxt2.length ≤ nxt.length + 2 → O (.nx, [s0, s1, s2, .v (.k (tabD pl)), .ok (encB pl B2), .ol ((cur ++ nxt2).map .str), .v (.d (.str x)), s7, s8], cs)) :
    Ok (evS ⟨R.run Ds gl W n, gl, W⟩ s_way_3_2 [s0, s1, s2, .v (.k (tabD pl)), .ok (encB pl B), .ol ((cur ++ nxt).map .str), .v (.d (.str x)), s7, s8] cs) O := by
  obtain ⟨r, hr⟩ := hp.bi.row g hu ho
  have lt : lookK (tabD pl) (Sum.inr x) = some (.tuple [.int r.tk, .tuple (r.nx.map .str)]) := by rw [look_tab, hr]; rfl
  have en := nxo_of hr
  have h2 : r.nx.length ≤ 2 := (g.nx r (rof_mem hr).1).1
  have hpow : 2 ^ k ≤ 512 := by
    have := Nat.pow_le_pow_right (n := 2) (by omega) hp.k9
    exact this
  simp only [ok_asg, ok_par, ok_ownS, ok_newc, newQ_l, ok_cset, csetQ0, ok_app, appQ_o, ok_ins, insQ_o, ok_frz, frzQ_o, frzQ_v, ok_iteS, ok_for, ok_whil, ok_ret, ok_retN, ok_expr, ok_brk, ok_cont, ok_pass, ok_var, ok_own, ok_k, ok_glob, ok_gdk, gdkQ_s, ok_callK, kwQ_s, arF, Option.bind_some, Option.map_some, ok_dct, ok_dix, dixQ_k, tst_callK, ok_lset, lsetQ_o, p_rep, ok_prim, ok_and, ok_or, ok_not, ok_iteE, ok_chain, ok_call, ok_cidx, cidQ0, ok_comp, ok_esnil, ok_escons, ok_t0, ok_t1, ok_seq, seqQQ_l, seqQQ_t, seqQQ_s, ok_rng, ok_rng2, ok_zip, zipQ_l, zipQ_t, ok_enum, enumQ_l, p_sorted, eqD_pair, rngQ_i, ok_tand, ok_tor, ok_tnot, tst_var, tst_own, tst_k, tst_prim, tst_ite, tst_chain, tst_call, tst_cidx, ok_bind, ok_ok, ok_no, ok_guard, Res.bind_ok, eqD_int, eqD_bool, eqD_str, eqD_nil, eqD_none, konV, setAll, seqQ_nx, seqQ_rt, seqQ_bk, seqQ_ct, ok_cons, ok_nil, p_add, p_addL, p_addT, p_addS, p_sub, p_mul, p_fdiv, p_mod, p_pow, p_neg, p_eq, p_ne, p_lt, p_le, p_gt, p_ge, p_in, p_notin, p_isN, p_notN, p_isB, p_notB, p_idxL, p_idxT, p_lst0, p_lst1, p_lst2, p_lst3, p_lst4, p_lst5, p_lst6, p_lst7, p_tup0, p_tup1, p_tup2, p_tup3, p_tup4, p_tup5, p_lenL, p_lenT, p_listL, p_listT, p_tupleL, p_tupleT, p_abs, p_max2, p_min2, p_max4, p_intI, p_intB, p_isi, p_rev, p_revT, ok_popS, popQ_o, t_b, t_i, t_n, a_n, a_t, a_l, sM_t, sM_f, sA_0, sA_1, wE_0, wE_1, List.map_cons, List.map_nil, List.set_cons_zero, List.set_cons_succ, List.getElem?_cons_zero, List.getElem?_cons_succ, Nat.reduceAdd, at0, at1, at2, at3, at4, at5, at6, ix0, ix1, ix2, List.length_cons, List.length_nil, List.nil_append, decide_eq_true_eq, onFin_rt, onFin_nx, Bool.not_eq_true', decide_eq_false_iff_not, Int.reducePow, Int.reduceNeg, Int.reduceLT, Int.reduceLE, Nat.reduceLeDiff, Int.reduceToNat, Nat.reducePow, Int.reduceSub, Int.reduceAdd, Int.reduceMul, true_and, and_true, true_or, or_true, decide_true, and_self, if_true, if_false, Bool.false_eq_true, Bool.true_eq_false, reduceCtorEq, not_false_eq_true, not_true_eq_false, reduceIte, p_dictT, dixQ_t, p_sortT, p_ninT, p_dictP, p_tupP, p_dn, p_getT, ok_dput, dputQ_o, ok_dsd, dsdQ_o, frzQ_t, frzQ_k, sM_d, sM_k, ok_dcomp, ditQ_d, ok_disp, dspQ_d, ok_kput, kputQ_o, p_dictK, p_ninK, p_getK, ok_parT, s_way_3_2, kd_s, lt]
  refine ok_loopL (fun i env cs' => ∃ (B2 : BD) (nxt2 : List Str) (s7 s8 : Sl), env = [s0, s1, s2, .v (.k (tabD pl)), .ok (encB pl B2), .ol ((cur ++ nxt2).map .str), .v (.d (.str x)), s7, s8] ∧ cs' = cs ∧ Trn pl u0 k x o cur nxt B0 B (r.nx.take i) nxt2 B2) _ 0 _ _ ⟨B, nxt, _, _, rfl, rfl, Trn.init hp ho⟩ ?_ ?_
  · rintro i y env cs' hx ⟨B2, nxt2, s7, s8, rfl, rfl, tr⟩
    rw [List.getElem?_map] at hx
    obtain ⟨v, hv, rfl⟩ := Option.map_eq_some_iff.mp hx
    have hi := (List.getElem?_eq_some_iff.mp hv).1
    have hvm : v ∈ nxo pl x := by rw [en]; exact List.mem_of_getElem? hv
    rw [Nat.zero_add] at tr ⊢
    have tk : r.nx.take (i + 1) = r.nx.take i ++ [v] := by rw [List.take_succ, hv]; rfl
    rw [tk]
    have lo : lookK (encB pl B2) (Sum.inr x) = some (.tuple [.int (cst pl o), .tuple (o.map .str)]) := by rw [look_enc, tr.here]; rfl
    have hw := (tr.bi.wk x o tr.here).snoc hvm
    have hol := path_le g hu tr.bi tr.here
    have er : PyData.tuple [.int (cst pl o + r.tk), .tuple (o.map .str ++ [.str v])] = rowD (lab pl (o ++ [v])) := by
      unfold rowD lab
      rw [hw.2, tko_of hr, List.map_append]
      rfl
    have hlen := keys_len g hu tr.bi
    have hll : cur.length + nxt2.length ≤ 10000 := by
      have a1 := hp.len
      have a2 := hp.ln2
      have a3 := tr.len
      rw [List.length_take] at a3
      rw [List.length_cons] at a1 a2
      omega
    rw [ok_lstep]
    unfold b_way_3_2
    simp only [ok_asg, ok_par, ok_ownS, ok_newc, newQ_l, ok_cset, csetQ0, ok_app, appQ_o, ok_ins, insQ_o, ok_frz, frzQ_o, frzQ_v, ok_iteS, ok_for, ok_whil, ok_ret, ok_retN, ok_expr, ok_brk, ok_cont, ok_pass, ok_var, ok_own, ok_k, ok_glob, ok_gdk, gdkQ_s, ok_callK, kwQ_s, arF, Option.bind_some, Option.map_some, ok_dct, ok_dix, dixQ_k, tst_callK, ok_lset, lsetQ_o, p_rep, ok_prim, ok_and, ok_or, ok_not, ok_iteE, ok_chain, ok_call, ok_cidx, cidQ0, ok_comp, ok_esnil, ok_escons, ok_t0, ok_t1, ok_seq, seqQQ_l, seqQQ_t, seqQQ_s, ok_rng, ok_rng2, ok_zip, zipQ_l, zipQ_t, ok_enum, enumQ_l, p_sorted, eqD_pair, rngQ_i, ok_tand, ok_tor, ok_tnot, tst_var, tst_own, tst_k, tst_prim, tst_ite, tst_chain, tst_call, tst_cidx, ok_bind, ok_ok, ok_no, ok_guard, Res.bind_ok, eqD_int, eqD_bool, eqD_str, eqD_nil, eqD_none, konV, setAll, seqQ_nx, seqQ_rt, seqQ_bk, seqQ_ct, ok_cons, ok_nil, p_add, p_addL, p_addT, p_addS, p_sub, p_mul, p_fdiv, p_mod, p_pow, p_neg, p_eq, p_ne, p_lt, p_le, p_gt, p_ge, p_in, p_notin, p_isN, p_notN, p_isB, p_notB, p_idxL, p_idxT, p_lst0, p_lst1, p_lst2, p_lst3, p_lst4, p_lst5, p_lst6, p_lst7, p_tup0, p_tup1, p_tup2, p_tup3, p_tup4, p_tup5, p_lenL, p_lenT, p_listL, p_listT, p_tupleL, p_tupleT, p_abs, p_max2, p_min2, p_max4, p_intI, p_intB, p_isi, p_rev, p_revT, ok_popS, popQ_o, t_b, t_i, t_n, a_n, a_t, a_l, sM_t, sM_f, sA_0, sA_1, wE_0, wE_1, List.map_cons, List.map_nil, List.set_cons_zero, List.set_cons_succ, List.getElem?_cons_zero, List.getElem?_cons_succ, Nat.reduceAdd, at0, at1, at2, at3, at4, at5, at6, ix0, ix1, ix2, List.length_cons, List.length_nil, List.nil_append, decide_eq_true_eq, onFin_rt, onFin_nx, Bool.not_eq_true', decide_eq_false_iff_not, Int.reducePow, Int.reduceNeg, Int.reduceLT, Int.reduceLE, Nat.reduceLeDiff, Int.reduceToNat, Nat.reducePow, Int.reduceSub, Int.reduceAdd, Int.reduceMul, true_and, and_true, true_or, or_true, decide_true, and_self, if_true, if_false, Bool.false_eq_true, Bool.true_eq_false, reduceCtorEq, not_false_eq_true, not_true_eq_false, reduceIte, p_dictT, dixQ_t, p_sortT, p_ninT, p_dictP, p_tupP, p_dn, p_getT, ok_dput, dputQ_o, ok_dsd, dsdQ_o, frzQ_t, frzQ_k, sM_d, sM_k, ok_dcomp, ditQ_d, ok_disp, dspQ_d, ok_kput, kputQ_o, p_dictK, p_ninK, p_getK, ok_parT]
    simp only [ok_asg, ok_par, ok_ownS, ok_newc, newQ_l, ok_cset, csetQ0, ok_app, appQ_o, ok_ins, insQ_o, ok_frz, frzQ_o, frzQ_v, ok_iteS, ok_for, ok_whil, ok_ret, ok_retN, ok_expr, ok_brk, ok_cont, ok_pass, ok_var, ok_own, ok_k, ok_glob, ok_gdk, gdkQ_s, ok_callK, kwQ_s, arF, Option.bind_some, Option.map_some, ok_dct, ok_dix, dixQ_k, tst_callK, ok_lset, lsetQ_o, p_rep, ok_prim, ok_and, ok_or, ok_not, ok_iteE, ok_chain, ok_call, ok_cidx, cidQ0, ok_comp, ok_esnil, ok_escons, ok_t0, ok_t1, ok_seq, seqQQ_l, seqQQ_t, seqQQ_s, ok_rng, ok_rng2, ok_zip, zipQ_l, zipQ_t, ok_enum, enumQ_l, p_sorted, eqD_pair, rngQ_i, ok_tand, ok_tor, ok_tnot, tst_var, tst_own, tst_k, tst_prim, tst_ite, tst_chain, tst_call, tst_cidx, ok_bind, ok_ok, ok_no, ok_guard, Res.bind_ok, eqD_int, eqD_bool, eqD_str, eqD_nil, eqD_none, konV, setAll, seqQ_nx, seqQ_rt, seqQ_bk, seqQ_ct, ok_cons, ok_nil, p_add, p_addL, p_addT, p_addS, p_sub, p_mul, p_fdiv, p_mod, p_pow, p_neg, p_eq, p_ne, p_lt, p_le, p_gt, p_ge, p_in, p_notin, p_isN, p_notN, p_isB, p_notB, p_idxL, p_idxT, p_lst0, p_lst1, p_lst2, p_lst3, p_lst4, p_lst5, p_lst6, p_lst7, p_tup0, p_tup1, p_tup2, p_tup3, p_tup4, p_tup5, p_lenL, p_lenT, p_listL, p_listT, p_tupleL, p_tupleT, p_abs, p_max2, p_min2, p_max4, p_intI, p_intB, p_isi, p_rev, p_revT, ok_popS, popQ_o, t_b, t_i, t_n, a_n, a_t, a_l, sM_t, sM_f, sA_0, sA_1, wE_0, wE_1, List.map_cons, List.map_nil, List.set_cons_zero, List.set_cons_succ, List.getElem?_cons_zero, List.getElem?_cons_succ, Nat.reduceAdd, at0, at1, at2, at3, at4, at5, at6, ix0, ix1, ix2, List.length_cons, List.length_nil, List.nil_append, decide_eq_true_eq, onFin_rt, onFin_nx, Bool.not_eq_true', decide_eq_false_iff_not, Int.reducePow, Int.reduceNeg, Int.reduceLT, Int.reduceLE, Nat.reduceLeDiff, Int.reduceToNat, Nat.reducePow, Int.reduceSub, Int.reduceAdd, Int.reduceMul, true_and, and_true, true_or, or_true, decide_true, and_self, if_true, if_false, Bool.false_eq_true, Bool.true_eq_false, reduceCtorEq, not_false_eq_true, not_true_eq_false, reduceIte, p_dictT, dixQ_t, p_sortT, p_ninT, p_dictP, p_tupP, p_dn, p_getT, ok_dput, dputQ_o, ok_dsd, dsdQ_o, frzQ_t, frzQ_k, sM_d, sM_k, ok_dcomp, ditQ_d, ok_disp, dspQ_d, ok_kput, kputQ_o, p_dictK, p_ninK, p_getK, ok_parT, s_way_3_2_0, kd_s, lo, lt, List.length_map]
    refine ⟨line_le (by omega), ?_⟩
    rw [er]
    have yes : btr pl B2 v (o ++ [v]) = true → Ok (evSs ⟨R.run Ds gl W n, gl, W⟩ b_way_3_2_1t [s0, s1, s2, .v (.k (tabD pl)), .ok (encB pl B2), .ol ((cur ++ nxt2).map .str), .v (.d (.str x)), .v (.d (.str v)), .v (.d (rowD (lab pl (o ++ [v]))))] cs') (fun r_1 => match r_1.1 with
        | .nx => ∃ (B2 : BD) (nxt2 : List Str) (s7 s8 : Sl), r_1.2.1 = [s0, s1, s2, .v (.k (tabD pl)), .ok (encB pl B2), .ol ((cur ++ nxt2).map .str), .v (.d (.str x)), s7, s8] ∧ r_1.2.2 = cs' ∧ Trn pl u0 k x o cur nxt B0 B (r.nx.take i ++ [v]) nxt2 B2
        | _ => False) := fun hbt => by
      have tr2 := tr.yes g hu hp hvm hbt
      unfold b_way_3_2_1t
      rw [ok_cons]
      simp only [ok_asg, ok_par, ok_ownS, ok_newc, newQ_l, ok_cset, csetQ0, ok_app, appQ_o, ok_ins, insQ_o, ok_frz, frzQ_o, frzQ_v, ok_iteS, ok_for, ok_whil, ok_ret, ok_retN, ok_expr, ok_brk, ok_cont, ok_pass, ok_var, ok_own, ok_k, ok_glob, ok_gdk, gdkQ_s, ok_callK, kwQ_s, arF, Option.bind_some, Option.map_some, ok_dct, ok_dix, dixQ_k, tst_callK, ok_lset, lsetQ_o, p_rep, ok_prim, ok_and, ok_or, ok_not, ok_iteE, ok_chain, ok_call, ok_cidx, cidQ0, ok_comp, ok_esnil, ok_escons, ok_t0, ok_t1, ok_seq, seqQQ_l, seqQQ_t, seqQQ_s, ok_rng, ok_rng2, ok_zip, zipQ_l, zipQ_t, ok_enum, enumQ_l, p_sorted, eqD_pair, rngQ_i, ok_tand, ok_tor, ok_tnot, tst_var, tst_own, tst_k, tst_prim, tst_ite, tst_chain, tst_call, tst_cidx, ok_bind, ok_ok, ok_no, ok_guard, Res.bind_ok, eqD_int, eqD_bool, eqD_str, eqD_nil, eqD_none, konV, setAll, seqQ_nx, seqQ_rt, seqQ_bk, seqQ_ct, ok_cons, ok_nil, p_add, p_addL, p_addT, p_addS, p_sub, p_mul, p_fdiv, p_mod, p_pow, p_neg, p_eq, p_ne, p_lt, p_le, p_gt, p_ge, p_in, p_notin, p_isN, p_notN, p_isB, p_notB, p_idxL, p_idxT, p_lst0, p_lst1, p_lst2, p_lst3, p_lst4, p_lst5, p_lst6, p_lst7, p_tup0, p_tup1, p_tup2, p_tup3, p_tup4, p_tup5, p_lenL, p_lenT, p_listL, p_listT, p_tupleL, p_tupleT, p_abs, p_max2, p_min2, p_max4, p_intI, p_intB, p_isi, p_rev, p_revT, ok_popS, popQ_o, t_b, t_i, t_n, a_n, a_t, a_l, sM_t, sM_f, sA_0, sA_1, wE_0, wE_1, List.map_cons, List.map_nil, List.set_cons_zero, List.set_cons_succ, List.getElem?_cons_zero, List.getElem?_cons_succ, Nat.reduceAdd, at0, at1, at2, at3, at4, at5, at6, ix0, ix1, ix2, List.length_cons, List.length_nil, List.nil_append, decide_eq_true_eq, onFin_rt, onFin_nx, Bool.not_eq_true', decide_eq_false_iff_not, Int.reducePow, Int.reduceNeg, Int.reduceLT, Int.reduceLE, Nat.reduceLeDiff, Int.reduceToNat, Nat.reducePow, Int.reduceSub, Int.reduceAdd, Int.reduceMul, true_and, and_true, true_or, or_true, decide_true, and_self, if_true, if_false, Bool.false_eq_true, Bool.true_eq_false, reduceCtorEq, not_false_eq_true, not_true_eq_false, reduceIte, p_dictT, dixQ_t, p_sortT, p_ninT, p_dictP, p_tupP, p_dn, p_getT, ok_dput, dputQ_o, ok_dsd, dsdQ_o, frzQ_t, frzQ_k, sM_d, sM_k, ok_dcomp, ditQ_d, ok_disp, dspQ_d, ok_kput, kputQ_o, p_dictK, p_ninK, p_getK, ok_parT, s_way_3_2_1t_0]
      refine ⟨line_le (by unfold encB; rw [List.length_map]; omega), ?_⟩
      rw [put_encB]
      simp only [ok_asg, ok_par, ok_ownS, ok_newc, newQ_l, ok_cset, csetQ0, ok_app, appQ_o, ok_ins, insQ_o, ok_frz, frzQ_o, frzQ_v, ok_iteS, ok_for, ok_whil, ok_ret, ok_retN, ok_expr, ok_brk, ok_cont, ok_pass, ok_var, ok_own, ok_k, ok_glob, ok_gdk, gdkQ_s, ok_callK, kwQ_s, arF, Option.bind_some, Option.map_some, ok_dct, ok_dix, dixQ_k, tst_callK, ok_lset, lsetQ_o, p_rep, ok_prim, ok_and, ok_or, ok_not, ok_iteE, ok_chain, ok_call, ok_cidx, cidQ0, ok_comp, ok_esnil, ok_escons, ok_t0, ok_t1, ok_seq, seqQQ_l, seqQQ_t, seqQQ_s, ok_rng, ok_rng2, ok_zip, zipQ_l, zipQ_t, ok_enum, enumQ_l, p_sorted, eqD_pair, rngQ_i, ok_tand, ok_tor, ok_tnot, tst_var, tst_own, tst_k, tst_prim, tst_ite, tst_chain, tst_call, tst_cidx, ok_bind, ok_ok, ok_no, ok_guard, Res.bind_ok, eqD_int, eqD_bool, eqD_str, eqD_nil, eqD_none, konV, setAll, seqQ_nx, seqQ_rt, seqQ_bk, seqQ_ct, ok_cons, ok_nil, p_add, p_addL, p_addT, p_addS, p_sub, p_mul, p_fdiv, p_mod, p_pow, p_neg, p_eq, p_ne, p_lt, p_le, p_gt, p_ge, p_in, p_notin, p_isN, p_notN, p_isB, p_notB, p_idxL, p_idxT, p_lst0, p_lst1, p_lst2, p_lst3, p_lst4, p_lst5, p_lst6, p_lst7, p_tup0, p_tup1, p_tup2, p_tup3, p_tup4, p_tup5, p_lenL, p_lenT, p_listL, p_listT, p_tupleL, p_tupleT, p_abs, p_max2, p_min2, p_max4, p_intI, p_intB, p_isi, p_rev, p_revT, ok_popS, popQ_o, t_b, t_i, t_n, a_n, a_t, a_l, sM_t, sM_f, sA_0, sA_1, wE_0, wE_1, List.map_cons, List.map_nil, List.set_cons_zero, List.set_cons_succ, List.getElem?_cons_zero, List.getElem?_cons_succ, Nat.reduceAdd, at0, at1, at2, at3, at4, at5, at6, ix0, ix1, ix2, List.length_cons, List.length_nil, List.nil_append, decide_eq_true_eq, onFin_rt, onFin_nx, Bool.not_eq_true', decide_eq_false_iff_not, Int.reducePow, Int.reduceNeg, Int.reduceLT, Int.reduceLE, Nat.reduceLeDiff, Int.reduceToNat, Nat.reducePow, Int.reduceSub, Int.reduceAdd, Int.reduceMul, true_and, and_true, true_or, or_true, decide_true, and_self, if_true, if_false, Bool.false_eq_true, Bool.true_eq_false, reduceCtorEq, not_false_eq_true, not_true_eq_false, reduceIte, p_dictT, dixQ_t, p_sortT, p_ninT, p_dictP, p_tupP, p_dn, p_getT, ok_dput, dputQ_o, ok_dsd, dsdQ_o, frzQ_t, frzQ_k, sM_d, sM_k, ok_dcomp, ditQ_d, ok_disp, dspQ_d, ok_kput, kputQ_o, p_dictK, p_ninK, p_getK, ok_parT, s_way_3_2_1t_1, List.length_map, List.length_append]
      refine ⟨line_le (by omega), _, nxt2 ++ [v], .v (.d (.str v)), .v (.d (rowD (lab pl (o ++ [v])))), ?_, tr2⟩
      simp
    cases hl : lookB B2 v with
    | none =>
      have lv : lookK (encB pl B2) (Sum.inr v) = none := by rw [look_enc, hl]; rfl
      simp only [ok_asg, ok_par, ok_ownS, ok_newc, newQ_l, ok_cset, csetQ0, ok_app, appQ_o, ok_ins, insQ_o, ok_frz, frzQ_o, frzQ_v, ok_iteS, ok_for, ok_whil, ok_ret, ok_retN, ok_expr, ok_brk, ok_cont, ok_pass, ok_var, ok_own, ok_k, ok_glob, ok_gdk, gdkQ_s, ok_callK, kwQ_s, arF, Option.bind_some, Option.map_some, ok_dct, ok_dix, dixQ_k, tst_callK, ok_lset, lsetQ_o, p_rep, ok_prim, ok_and, ok_or, ok_not, ok_iteE, ok_chain, ok_call, ok_cidx, cidQ0, ok_comp, ok_esnil, ok_escons, ok_t0, ok_t1, ok_seq, seqQQ_l, seqQQ_t, seqQQ_s, ok_rng, ok_rng2, ok_zip, zipQ_l, zipQ_t, ok_enum, enumQ_l, p_sorted, eqD_pair, rngQ_i, ok_tand, ok_tor, ok_tnot, tst_var, tst_own, tst_k, tst_prim, tst_ite, tst_chain, tst_call, tst_cidx, ok_bind, ok_ok, ok_no, ok_guard, Res.bind_ok, eqD_int, eqD_bool, eqD_str, eqD_nil, eqD_none, konV, setAll, seqQ_nx, seqQ_rt, seqQ_bk, seqQ_ct, ok_cons, ok_nil, p_add, p_addL, p_addT, p_addS, p_sub, p_mul, p_fdiv, p_mod, p_pow, p_neg, p_eq, p_ne, p_lt, p_le, p_gt, p_ge, p_in, p_notin, p_isN, p_notN, p_isB, p_notB, p_idxL, p_idxT, p_lst0, p_lst1, p_lst2, p_lst3, p_lst4, p_lst5, p_lst6, p_lst7, p_tup0, p_tup1, p_tup2, p_tup3, p_tup4, p_tup5, p_lenL, p_lenT, p_listL, p_listT, p_tupleL, p_tupleT, p_abs, p_max2, p_min2, p_max4, p_intI, p_intB, p_isi, p_rev, p_revT, ok_popS, popQ_o, t_b, t_i, t_n, a_n, a_t, a_l, sM_t, sM_f, sA_0, sA_1, wE_0, wE_1, List.map_cons, List.map_nil, List.set_cons_zero, List.set_cons_succ, List.getElem?_cons_zero, List.getElem?_cons_succ, Nat.reduceAdd, at0, at1, at2, at3, at4, at5, at6, ix0, ix1, ix2, List.length_cons, List.length_nil, List.nil_append, decide_eq_true_eq, onFin_rt, onFin_nx, Bool.not_eq_true', decide_eq_false_iff_not, Int.reducePow, Int.reduceNeg, Int.reduceLT, Int.reduceLE, Nat.reduceLeDiff, Int.reduceToNat, Nat.reducePow, Int.reduceSub, Int.reduceAdd, Int.reduceMul, true_and, and_true, true_or, or_true, decide_true, and_self, if_true, if_false, Bool.false_eq_true, Bool.true_eq_false, reduceCtorEq, not_false_eq_true, not_true_eq_false, reduceIte, p_dictT, dixQ_t, p_sortT, p_ninT, p_dictP, p_tupP, p_dn, p_getT, ok_dput, dputQ_o, ok_dsd, dsdQ_o, frzQ_t, frzQ_k, sM_d, sM_k, ok_dcomp, ditQ_d, ok_disp, dspQ_d, ok_kput, kputQ_o, p_dictK, p_ninK, p_getK, ok_parT, s_way_3_2_1, lv, Option.isSome_none, Bool.not_false]
      refine (yes (by unfold btr; rw [hl])).imp fun r hr => ?_
      obtain ⟨f, e2, c2⟩ := r
      cases f with
      | nx => simp only [ok_asg, ok_par, ok_ownS, ok_newc, newQ_l, ok_cset, csetQ0, ok_app, appQ_o, ok_ins, insQ_o, ok_frz, frzQ_o, frzQ_v, ok_iteS, ok_for, ok_whil, ok_ret, ok_retN, ok_expr, ok_brk, ok_cont, ok_pass, ok_var, ok_own, ok_k, ok_glob, ok_gdk, gdkQ_s, ok_callK, kwQ_s, arF, Option.bind_some, Option.map_some, ok_dct, ok_dix, dixQ_k, tst_callK, ok_lset, lsetQ_o, p_rep, ok_prim, ok_and, ok_or, ok_not, ok_iteE, ok_chain, ok_call, ok_cidx, cidQ0, ok_comp, ok_esnil, ok_escons, ok_t0, ok_t1, ok_seq, seqQQ_l, seqQQ_t, seqQQ_s, ok_rng, ok_rng2, ok_zip, zipQ_l, zipQ_t, ok_enum, enumQ_l, p_sorted, eqD_pair, rngQ_i, ok_tand, ok_tor, ok_tnot, tst_var, tst_own, tst_k, tst_prim, tst_ite, tst_chain, tst_call, tst_cidx, ok_bind, ok_ok, ok_no, ok_guard, Res.bind_ok, eqD_int, eqD_bool, eqD_str, eqD_nil, eqD_none, konV, setAll, seqQ_nx, seqQ_rt, seqQ_bk, seqQ_ct, ok_cons, ok_nil, p_add, p_addL, p_addT, p_addS, p_sub, p_mul, p_fdiv, p_mod, p_pow, p_neg, p_eq, p_ne, p_lt, p_le, p_gt, p_ge, p_in, p_notin, p_isN, p_notN, p_isB, p_notB, p_idxL, p_idxT, p_lst0, p_lst1, p_lst2, p_lst3, p_lst4, p_lst5, p_lst6, p_lst7, p_tup0, p_tup1, p_tup2, p_tup3, p_tup4, p_tup5, p_lenL, p_lenT, p_listL, p_listT, p_tupleL, p_tupleT, p_abs, p_max2, p_min2, p_max4, p_intI, p_intB, p_isi, p_rev, p_revT, ok_popS, popQ_o, t_b, t_i, t_n, a_n, a_t, a_l, sM_t, sM_f, sA_0, sA_1, wE_0, wE_1, List.map_cons, List.map_nil, List.set_cons_zero, List.set_cons_succ, List.getElem?_cons_zero, List.getElem?_cons_succ, Nat.reduceAdd, at0, at1, at2, at3, at4, at5, at6, ix0, ix1, ix2, List.length_cons, List.length_nil, List.nil_append, decide_eq_true_eq, onFin_rt, onFin_nx, Bool.not_eq_true', decide_eq_false_iff_not, Int.reducePow, Int.reduceNeg, Int.reduceLT, Int.reduceLE, Nat.reduceLeDiff, Int.reduceToNat, Nat.reducePow, Int.reduceSub, Int.reduceAdd, Int.reduceMul, true_and, and_true, true_or, or_true, decide_true, and_self, if_true, if_false, Bool.false_eq_true, Bool.true_eq_false, reduceCtorEq, not_false_eq_true, not_true_eq_false, reduceIte, p_dictT, dixQ_t, p_sortT, p_ninT, p_dictP, p_tupP, p_dn, p_getT, ok_dput, dputQ_o, ok_dsd, dsdQ_o, frzQ_t, frzQ_k, sM_d, sM_k, ok_dcomp, ditQ_d, ok_disp, dspQ_d, ok_kput, kputQ_o, p_dictK, p_ninK, p_getK, ok_parT]; exact hr
      | _ => exact hr.elim
    | some w =>
      have lv : lookK (encB pl B2) (Sum.inr v) = some (rowD (lab pl w)) := by rw [look_enc, hl]; rfl
      have eb : btr pl B2 v (o ++ [v]) = rl (lab pl (o ++ [v])) (lab pl w) := by unfold btr; rw [hl]
      simp only [ok_asg, ok_par, ok_ownS, ok_newc, newQ_l, ok_cset, csetQ0, ok_app, appQ_o, ok_ins, insQ_o, ok_frz, frzQ_o, frzQ_v, ok_iteS, ok_for, ok_whil, ok_ret, ok_retN, ok_expr, ok_brk, ok_cont, ok_pass, ok_var, ok_own, ok_k, ok_glob, ok_gdk, gdkQ_s, ok_callK, kwQ_s, arF, Option.bind_some, Option.map_some, ok_dct, ok_dix, dixQ_k, tst_callK, ok_lset, lsetQ_o, p_rep, ok_prim, ok_and, ok_or, ok_not, ok_iteE, ok_chain, ok_call, ok_cidx, cidQ0, ok_comp, ok_esnil, ok_escons, ok_t0, ok_t1, ok_seq, seqQQ_l, seqQQ_t, seqQQ_s, ok_rng, ok_rng2, ok_zip, zipQ_l, zipQ_t, ok_enum, enumQ_l, p_sorted, eqD_pair, rngQ_i, ok_tand, ok_tor, ok_tnot, tst_var, tst_own, tst_k, tst_prim, tst_ite, tst_chain, tst_call, tst_cidx, ok_bind, ok_ok, ok_no, ok_guard, Res.bind_ok, eqD_int, eqD_bool, eqD_str, eqD_nil, eqD_none, konV, setAll, seqQ_nx, seqQ_rt, seqQ_bk, seqQ_ct, ok_cons, ok_nil, p_add, p_addL, p_addT, p_addS, p_sub, p_mul, p_fdiv, p_mod, p_pow, p_neg, p_eq, p_ne, p_lt, p_le, p_gt, p_ge, p_in, p_notin, p_isN, p_notN, p_isB, p_notB, p_idxL, p_idxT, p_lst0, p_lst1, p_lst2, p_lst3, p_lst4, p_lst5, p_lst6, p_lst7, p_tup0, p_tup1, p_tup2, p_tup3, p_tup4, p_tup5, p_lenL, p_lenT, p_listL, p_listT, p_tupleL, p_tupleT, p_abs, p_max2, p_min2, p_max4, p_intI, p_intB, p_isi, p_rev, p_revT, ok_popS, popQ_o, t_b, t_i, t_n, a_n, a_t, a_l, sM_t, sM_f, sA_0, sA_1, wE_0, wE_1, List.map_cons, List.map_nil, List.set_cons_zero, List.set_cons_succ, List.getElem?_cons_zero, List.getElem?_cons_succ, Nat.reduceAdd, at0, at1, at2, at3, at4, at5, at6, ix0, ix1, ix2, List.length_cons, List.length_nil, List.nil_append, decide_eq_true_eq, onFin_rt, onFin_nx, Bool.not_eq_true', decide_eq_false_iff_not, Int.reducePow, Int.reduceNeg, Int.reduceLT, Int.reduceLE, Nat.reduceLeDiff, Int.reduceToNat, Nat.reducePow, Int.reduceSub, Int.reduceAdd, Int.reduceMul, true_and, and_true, true_or, or_true, decide_true, and_self, if_true, if_false, Bool.false_eq_true, Bool.true_eq_false, reduceCtorEq, not_false_eq_true, not_true_eq_false, reduceIte, p_dictT, dixQ_t, p_sortT, p_ninT, p_dictP, p_tupP, p_dn, p_getT, ok_dput, dputQ_o, ok_dsd, dsdQ_o, frzQ_t, frzQ_k, sM_d, sM_k, ok_dcomp, ditQ_d, ok_disp, dspQ_d, ok_kput, kputQ_o, p_dictK, p_ninK, p_getK, ok_parT, s_way_3_2_1, lv, Option.isSome_some, Bool.not_true, kd_s, p_rowLt]
      cases hrl : rl (lab pl (o ++ [v])) (lab pl w) with
      | true =>
        rw [if_pos rfl]
        refine (yes (eb.trans hrl)).imp fun r hr => ?_
        obtain ⟨f, e2, c2⟩ := r
        cases f with
        | nx => simp only [ok_asg, ok_par, ok_ownS, ok_newc, newQ_l, ok_cset, csetQ0, ok_app, appQ_o, ok_ins, insQ_o, ok_frz, frzQ_o, frzQ_v, ok_iteS, ok_for, ok_whil, ok_ret, ok_retN, ok_expr, ok_brk, ok_cont, ok_pass, ok_var, ok_own, ok_k, ok_glob, ok_gdk, gdkQ_s, ok_callK, kwQ_s, arF, Option.bind_some, Option.map_some, ok_dct, ok_dix, dixQ_k, tst_callK, ok_lset, lsetQ_o, p_rep, ok_prim, ok_and, ok_or, ok_not, ok_iteE, ok_chain, ok_call, ok_cidx, cidQ0, ok_comp, ok_esnil, ok_escons, ok_t0, ok_t1, ok_seq, seqQQ_l, seqQQ_t, seqQQ_s, ok_rng, ok_rng2, ok_zip, zipQ_l, zipQ_t, ok_enum, enumQ_l, p_sorted, eqD_pair, rngQ_i, ok_tand, ok_tor, ok_tnot, tst_var, tst_own, tst_k, tst_prim, tst_ite, tst_chain, tst_call, tst_cidx, ok_bind, ok_ok, ok_no, ok_guard, Res.bind_ok, eqD_int, eqD_bool, eqD_str, eqD_nil, eqD_none, konV, setAll, seqQ_nx, seqQ_rt, seqQ_bk, seqQ_ct, ok_cons, ok_nil, p_add, p_addL, p_addT, p_addS, p_sub, p_mul, p_fdiv, p_mod, p_pow, p_neg, p_eq, p_ne, p_lt, p_le, p_gt, p_ge, p_in, p_notin, p_isN, p_notN, p_isB, p_notB, p_idxL, p_idxT, p_lst0, p_lst1, p_lst2, p_lst3, p_lst4, p_lst5, p_lst6, p_lst7, p_tup0, p_tup1, p_tup2, p_tup3, p_tup4, p_tup5, p_lenL, p_lenT, p_listL, p_listT, p_tupleL, p_tupleT, p_abs, p_max2, p_min2, p_max4, p_intI, p_intB, p_isi, p_rev, p_revT, ok_popS, popQ_o, t_b, t_i, t_n, a_n, a_t, a_l, sM_t, sM_f, sA_0, sA_1, wE_0, wE_1, List.map_cons, List.map_nil, List.set_cons_zero, List.set_cons_succ, List.getElem?_cons_zero, List.getElem?_cons_succ, Nat.reduceAdd, at0, at1, at2, at3, at4, at5, at6, ix0, ix1, ix2, List.length_cons, List.length_nil, List.nil_append, decide_eq_true_eq, onFin_rt, onFin_nx, Bool.not_eq_true', decide_eq_false_iff_not, Int.reducePow, Int.reduceNeg, Int.reduceLT, Int.reduceLE, Nat.reduceLeDiff, Int.reduceToNat, Nat.reducePow, Int.reduceSub, Int.reduceAdd, Int.reduceMul, true_and, and_true, true_or, or_true, decide_true, and_self, if_true, if_false, Bool.false_eq_true, Bool.true_eq_false, reduceCtorEq, not_false_eq_true, not_true_eq_false, reduceIte, p_dictT, dixQ_t, p_sortT, p_ninT, p_dictP, p_tupP, p_dn, p_getT, ok_dput, dputQ_o, ok_dsd, dsdQ_o, frzQ_t, frzQ_k, sM_d, sM_k, ok_dcomp, ditQ_d, ok_disp, dspQ_d, ok_kput, kputQ_o, p_dictK, p_ninK, p_getK, ok_parT]; exact hr
        | _ => exact hr.elim
      | false =>
        rw [if_neg Bool.false_ne_true]
        unfold b_way_3_2_1e
        simp only [ok_asg, ok_par, ok_ownS, ok_newc, newQ_l, ok_cset, csetQ0, ok_app, appQ_o, ok_ins, insQ_o, ok_frz, frzQ_o, frzQ_v, ok_iteS, ok_for, ok_whil, ok_ret, ok_retN, ok_expr, ok_brk, ok_cont, ok_pass, ok_var, ok_own, ok_k, ok_glob, ok_gdk, gdkQ_s, ok_callK, kwQ_s, arF, Option.bind_some, Option.map_some, ok_dct, ok_dix, dixQ_k, tst_callK, ok_lset, lsetQ_o, p_rep, ok_prim, ok_and, ok_or, ok_not, ok_iteE, ok_chain, ok_call, ok_cidx, cidQ0, ok_comp, ok_esnil, ok_escons, ok_t0, ok_t1, ok_seq, seqQQ_l, seqQQ_t, seqQQ_s, ok_rng, ok_rng2, ok_zip, zipQ_l, zipQ_t, ok_enum, enumQ_l, p_sorted, eqD_pair, rngQ_i, ok_tand, ok_tor, ok_tnot, tst_var, tst_own, tst_k, tst_prim, tst_ite, tst_chain, tst_call, tst_cidx, ok_bind, ok_ok, ok_no, ok_guard, Res.bind_ok, eqD_int, eqD_bool, eqD_str, eqD_nil, eqD_none, konV, setAll, seqQ_nx, seqQ_rt, seqQ_bk, seqQ_ct, ok_cons, ok_nil, p_add, p_addL, p_addT, p_addS, p_sub, p_mul, p_fdiv, p_mod, p_pow, p_neg, p_eq, p_ne, p_lt, p_le, p_gt, p_ge, p_in, p_notin, p_isN, p_notN, p_isB, p_notB, p_idxL, p_idxT, p_lst0, p_lst1, p_lst2, p_lst3, p_lst4, p_lst5, p_lst6, p_lst7, p_tup0, p_tup1, p_tup2, p_tup3, p_tup4, p_tup5, p_lenL, p_lenT, p_listL, p_listT, p_tupleL, p_tupleT, p_abs, p_max2, p_min2, p_max4, p_intI, p_intB, p_isi, p_rev, p_revT, ok_popS, popQ_o, t_b, t_i, t_n, a_n, a_t, a_l, sM_t, sM_f, sA_0, sA_1, wE_0, wE_1, List.map_cons, List.map_nil, List.set_cons_zero, List.set_cons_succ, List.getElem?_cons_zero, List.getElem?_cons_succ, Nat.reduceAdd, at0, at1, at2, at3, at4, at5, at6, ix0, ix1, ix2, List.length_cons, List.length_nil, List.nil_append, decide_eq_true_eq, onFin_rt, onFin_nx, Bool.not_eq_true', decide_eq_false_iff_not, Int.reducePow, Int.reduceNeg, Int.reduceLT, Int.reduceLE, Nat.reduceLeDiff, Int.reduceToNat, Nat.reducePow, Int.reduceSub, Int.reduceAdd, Int.reduceMul, true_and, and_true, true_or, or_true, decide_true, and_self, if_true, if_false, Bool.false_eq_true, Bool.true_eq_false, reduceCtorEq, not_false_eq_true, not_true_eq_false, reduceIte, p_dictT, dixQ_t, p_sortT, p_ninT, p_dictP, p_tupP, p_dn, p_getT, ok_dput, dputQ_o, ok_dsd, dsdQ_o, frzQ_t, frzQ_k, sM_d, sM_k, ok_dcomp, ditQ_d, ok_disp, dspQ_d, ok_kput, kputQ_o, p_dictK, p_ninK, p_getK, ok_parT]
        exact ⟨B2, nxt2, _, _, rfl, tr.no (eb.trans hrl)⟩
  · rintro env cs' ⟨B2, nxt2, s7, s8, rfl, rfl, tr⟩
    rw [List.length_map, Nat.zero_add, List.take_length] at tr
    have tl := tr.len
    rw [← en] at tr
    exact kk B2 nxt2 _ _ (tr.done g hp ho (by rw [en]; exact h2)) (by omega)
theorem way_ok {W n : Nat} {pl : List Rw} {u0 z : Str} {cs : Cells} {Q : MV × Cells → Prop} (hW : 1100 ≤ W) (g : GdP pl) (hu : u0 ∈ pl.map (·.nm)) (k : ∀ B, Mst pl u0 B → Q (.d (optW pl (lookB B z)), cs)) : Ok (R.run Ds gl W (n + 2) i_way [.d (.tuple (pl.map rwD)), .d (.str u0), .d (.str z)] cs) Q := by
  rw [u_way, ok_fin]
  unfold b_way
  rw [ok_cons]
  simp only [ok_asg, ok_par, ok_ownS, ok_newc, newQ_l, ok_cset, csetQ0, ok_app, appQ_o, ok_ins, insQ_o, ok_frz, frzQ_o, frzQ_v, ok_iteS, ok_for, ok_whil, ok_ret, ok_retN, ok_expr, ok_brk, ok_cont, ok_pass, ok_var, ok_own, ok_k, ok_glob, ok_gdk, gdkQ_s, ok_callK, kwQ_s, arF, Option.bind_some, Option.map_some, ok_dct, ok_dix, dixQ_k, tst_callK, ok_lset, lsetQ_o, p_rep, ok_prim, ok_and, ok_or, ok_not, ok_iteE, ok_chain, ok_call, ok_cidx, cidQ0, ok_comp, ok_esnil, ok_escons, ok_t0, ok_t1, ok_seq, seqQQ_l, seqQQ_t, seqQQ_s, ok_rng, ok_rng2, ok_zip, zipQ_l, zipQ_t, ok_enum, enumQ_l, p_sorted, eqD_pair, rngQ_i, ok_tand, ok_tor, ok_tnot, tst_var, tst_own, tst_k, tst_prim, tst_ite, tst_chain, tst_call, tst_cidx, ok_bind, ok_ok, ok_no, ok_guard, Res.bind_ok, eqD_int, eqD_bool, eqD_str, eqD_nil, eqD_none, konV, setAll, seqQ_nx, seqQ_rt, seqQ_bk, seqQ_ct, ok_cons, ok_nil, p_add, p_addL, p_addT, p_addS, p_sub, p_mul, p_fdiv, p_mod, p_pow, p_neg, p_eq, p_ne, p_lt, p_le, p_gt, p_ge, p_in, p_notin, p_isN, p_notN, p_isB, p_notB, p_idxL, p_idxT, p_lst0, p_lst1, p_lst2, p_lst3, p_lst4, p_lst5, p_lst6, p_lst7, p_tup0, p_tup1, p_tup2, p_tup3, p_tup4, p_tup5, p_lenL, p_lenT, p_listL, p_listT, p_tupleL, p_tupleT, p_abs, p_max2, p_min2, p_max4, p_intI, p_intB, p_isi, p_rev, p_revT, ok_popS, popQ_o, t_b, t_i, t_n, a_n, a_t, a_l, sM_t, sM_f, sA_0, sA_1, wE_0, wE_1, List.map_cons, List.map_nil, List.set_cons_zero, List.set_cons_succ, List.getElem?_cons_zero, List.getElem?_cons_succ, Nat.reduceAdd, at0, at1, at2, at3, at4, at5, at6, ix0, ix1, ix2, List.length_cons, List.length_nil, List.nil_append, decide_eq_true_eq, onFin_rt, onFin_nx, Bool.not_eq_true', decide_eq_false_iff_not, Int.reducePow, Int.reduceNeg, Int.reduceLT, Int.reduceLE, Nat.reduceLeDiff, Int.reduceToNat, Nat.reducePow, Int.reduceSub, Int.reduceAdd, Int.reduceMul, true_and, and_true, true_or, or_true, decide_true, and_self, if_true, if_false, Bool.false_eq_true, Bool.true_eq_false, reduceCtorEq, not_false_eq_true, not_true_eq_false, reduceIte, p_dictT, dixQ_t, p_sortT, p_ninT, p_dictP, p_tupP, p_dn, p_getT, ok_dput, dputQ_o, ok_dsd, dsdQ_o, frzQ_t, frzQ_k, sM_d, sM_k, ok_dcomp, ditQ_d, ok_disp, dspQ_d, ok_kput, kputQ_o, p_dictK, p_ninK, p_getK, ok_parT, s_way_0]
  refine table_ok g ?_
  simp only [ok_asg, ok_par, ok_ownS, ok_newc, newQ_l, ok_cset, csetQ0, ok_app, appQ_o, ok_ins, insQ_o, ok_frz, frzQ_o, frzQ_v, ok_iteS, ok_for, ok_whil, ok_ret, ok_retN, ok_expr, ok_brk, ok_cont, ok_pass, ok_var, ok_own, ok_k, ok_glob, ok_gdk, gdkQ_s, ok_callK, kwQ_s, arF, Option.bind_some, Option.map_some, ok_dct, ok_dix, dixQ_k, tst_callK, ok_lset, lsetQ_o, p_rep, ok_prim, ok_and, ok_or, ok_not, ok_iteE, ok_chain, ok_call, ok_cidx, cidQ0, ok_comp, ok_esnil, ok_escons, ok_t0, ok_t1, ok_seq, seqQQ_l, seqQQ_t, seqQQ_s, ok_rng, ok_rng2, ok_zip, zipQ_l, zipQ_t, ok_enum, enumQ_l, p_sorted, eqD_pair, rngQ_i, ok_tand, ok_tor, ok_tnot, tst_var, tst_own, tst_k, tst_prim, tst_ite, tst_chain, tst_call, tst_cidx, ok_bind, ok_ok, ok_no, ok_guard, Res.bind_ok, eqD_int, eqD_bool, eqD_str, eqD_nil, eqD_none, konV, setAll, seqQ_nx, seqQ_rt, seqQ_bk, seqQ_ct, ok_cons, ok_nil, p_add, p_addL, p_addT, p_addS, p_sub, p_mul, p_fdiv, p_mod, p_pow, p_neg, p_eq, p_ne, p_lt, p_le, p_gt, p_ge, p_in, p_notin, p_isN, p_notN, p_isB, p_notB, p_idxL, p_idxT, p_lst0, p_lst1, p_lst2, p_lst3, p_lst4, p_lst5, p_lst6, p_lst7, p_tup0, p_tup1, p_tup2, p_tup3, p_tup4, p_tup5, p_lenL, p_lenT, p_listL, p_listT, p_tupleL, p_tupleT, p_abs, p_max2, p_min2, p_max4, p_intI, p_intB, p_isi, p_rev, p_revT, ok_popS, popQ_o, t_b, t_i, t_n, a_n, a_t, a_l, sM_t, sM_f, sA_0, sA_1, wE_0, wE_1, List.map_cons, List.map_nil, List.set_cons_zero, List.set_cons_succ, List.getElem?_cons_zero, List.getElem?_cons_succ, Nat.reduceAdd, at0, at1, at2, at3, at4, at5, at6, ix0, ix1, ix2, List.length_cons, List.length_nil, List.nil_append, decide_eq_true_eq, onFin_rt, onFin_nx, Bool.not_eq_true', decide_eq_false_iff_not, Int.reducePow, Int.reduceNeg, Int.reduceLT, Int.reduceLE, Nat.reduceLeDiff, Int.reduceToNat, Nat.reducePow, Int.reduceSub, Int.reduceAdd, Int.reduceMul, true_and, and_true, true_or, or_true, decide_true, and_self, if_true, if_false, Bool.false_eq_true, Bool.true_eq_false, reduceCtorEq, not_false_eq_true, not_true_eq_false, reduceIte, p_dictT, dixQ_t, p_sortT, p_ninT, p_dictP, p_tupP, p_dn, p_getT, ok_dput, dputQ_o, ok_dsd, dsdQ_o, frzQ_t, frzQ_k, sM_d, sM_k, ok_dcomp, ditQ_d, ok_disp, dspQ_d, ok_kput, kputQ_o, p_dictK, p_ninK, p_getK, ok_parT]
  simp only [ok_asg, ok_par, ok_ownS, ok_newc, newQ_l, ok_cset, csetQ0, ok_app, appQ_o, ok_ins, insQ_o, ok_frz, frzQ_o, frzQ_v, ok_iteS, ok_for, ok_whil, ok_ret, ok_retN, ok_expr, ok_brk, ok_cont, ok_pass, ok_var, ok_own, ok_k, ok_glob, ok_gdk, gdkQ_s, ok_callK, kwQ_s, arF, Option.bind_some, Option.map_some, ok_dct, ok_dix, dixQ_k, tst_callK, ok_lset, lsetQ_o, p_rep, ok_prim, ok_and, ok_or, ok_not, ok_iteE, ok_chain, ok_call, ok_cidx, cidQ0, ok_comp, ok_esnil, ok_escons, ok_t0, ok_t1, ok_seq, seqQQ_l, seqQQ_t, seqQQ_s, ok_rng, ok_rng2, ok_zip, zipQ_l, zipQ_t, ok_enum, enumQ_l, p_sorted, eqD_pair, rngQ_i, ok_tand, ok_tor, ok_tnot, tst_var, tst_own, tst_k, tst_prim, tst_ite, tst_chain, tst_call, tst_cidx, ok_bind, ok_ok, ok_no, ok_guard, Res.bind_ok, eqD_int, eqD_bool, eqD_str, eqD_nil, eqD_none, konV, setAll, seqQ_nx, seqQ_rt, seqQ_bk, seqQ_ct, ok_cons, ok_nil, p_add, p_addL, p_addT, p_addS, p_sub, p_mul, p_fdiv, p_mod, p_pow, p_neg, p_eq, p_ne, p_lt, p_le, p_gt, p_ge, p_in, p_notin, p_isN, p_notN, p_isB, p_notB, p_idxL, p_idxT, p_lst0, p_lst1, p_lst2, p_lst3, p_lst4, p_lst5, p_lst6, p_lst7, p_tup0, p_tup1, p_tup2, p_tup3, p_tup4, p_tup5, p_lenL, p_lenT, p_listL, p_listT, p_tupleL, p_tupleT, p_abs, p_max2, p_min2, p_max4, p_intI, p_intB, p_isi, p_rev, p_revT, ok_popS, popQ_o, t_b, t_i, t_n, a_n, a_t, a_l, sM_t, sM_f, sA_0, sA_1, wE_0, wE_1, List.map_cons, List.map_nil, List.set_cons_zero, List.set_cons_succ, List.getElem?_cons_zero, List.getElem?_cons_succ, Nat.reduceAdd, at0, at1, at2, at3, at4, at5, at6, ix0, ix1, ix2, List.length_cons, List.length_nil, List.nil_append, decide_eq_true_eq, onFin_rt, onFin_nx, Bool.not_eq_true', decide_eq_false_iff_not, Int.reducePow, Int.reduceNeg, Int.reduceLT, Int.reduceLE, Nat.reduceLeDiff, Int.reduceToNat, Nat.reducePow, Int.reduceSub, Int.reduceAdd, Int.reduceMul, true_and, and_true, true_or, or_true, decide_true, and_self, if_true, if_false, Bool.false_eq_true, Bool.true_eq_false, reduceCtorEq, not_false_eq_true, not_true_eq_false, reduceIte, p_dictT, dixQ_t, p_sortT, p_ninT, p_dictP, p_tupP, p_dn, p_getT, ok_dput, dputQ_o, ok_dsd, dsdQ_o, frzQ_t, frzQ_k, sM_d, sM_k, ok_dcomp, ditQ_d, ok_disp, dspQ_d, ok_kput, kputQ_o, p_dictK, p_ninK, p_getK, ok_parT, s_way_1]
  have e0 : [((Sum.inr u0 : L2.Key), PyData.tuple [.int 0, .tuple [.str u0]])] = encB pl [(u0, [u0])] := rfl
  rw [e0]
  simp only [ok_asg, ok_par, ok_ownS, ok_newc, newQ_l, ok_cset, csetQ0, ok_app, appQ_o, ok_ins, insQ_o, ok_frz, frzQ_o, frzQ_v, ok_iteS, ok_for, ok_whil, ok_ret, ok_retN, ok_expr, ok_brk, ok_cont, ok_pass, ok_var, ok_own, ok_k, ok_glob, ok_gdk, gdkQ_s, ok_callK, kwQ_s, arF, Option.bind_some, Option.map_some, ok_dct, ok_dix, dixQ_k, tst_callK, ok_lset, lsetQ_o, p_rep, ok_prim, ok_and, ok_or, ok_not, ok_iteE, ok_chain, ok_call, ok_cidx, cidQ0, ok_comp, ok_esnil, ok_escons, ok_t0, ok_t1, ok_seq, seqQQ_l, seqQQ_t, seqQQ_s, ok_rng, ok_rng2, ok_zip, zipQ_l, zipQ_t, ok_enum, enumQ_l, p_sorted, eqD_pair, rngQ_i, ok_tand, ok_tor, ok_tnot, tst_var, tst_own, tst_k, tst_prim, tst_ite, tst_chain, tst_call, tst_cidx, ok_bind, ok_ok, ok_no, ok_guard, Res.bind_ok, eqD_int, eqD_bool, eqD_str, eqD_nil, eqD_none, konV, setAll, seqQ_nx, seqQ_rt, seqQ_bk, seqQ_ct, ok_cons, ok_nil, p_add, p_addL, p_addT, p_addS, p_sub, p_mul, p_fdiv, p_mod, p_pow, p_neg, p_eq, p_ne, p_lt, p_le, p_gt, p_ge, p_in, p_notin, p_isN, p_notN, p_isB, p_notB, p_idxL, p_idxT, p_lst0, p_lst1, p_lst2, p_lst3, p_lst4, p_lst5, p_lst6, p_lst7, p_tup0, p_tup1, p_tup2, p_tup3, p_tup4, p_tup5, p_lenL, p_lenT, p_listL, p_listT, p_tupleL, p_tupleT, p_abs, p_max2, p_min2, p_max4, p_intI, p_intB, p_isi, p_rev, p_revT, ok_popS, popQ_o, t_b, t_i, t_n, a_n, a_t, a_l, sM_t, sM_f, sA_0, sA_1, wE_0, wE_1, List.map_cons, List.map_nil, List.set_cons_zero, List.set_cons_succ, List.getElem?_cons_zero, List.getElem?_cons_succ, Nat.reduceAdd, at0, at1, at2, at3, at4, at5, at6, ix0, ix1, ix2, List.length_cons, List.length_nil, List.nil_append, decide_eq_true_eq, onFin_rt, onFin_nx, Bool.not_eq_true', decide_eq_false_iff_not, Int.reducePow, Int.reduceNeg, Int.reduceLT, Int.reduceLE, Nat.reduceLeDiff, Int.reduceToNat, Nat.reducePow, Int.reduceSub, Int.reduceAdd, Int.reduceMul, true_and, and_true, true_or, or_true, decide_true, and_self, if_true, if_false, Bool.false_eq_true, Bool.true_eq_false, reduceCtorEq, not_false_eq_true, not_true_eq_false, reduceIte, p_dictT, dixQ_t, p_sortT, p_ninT, p_dictP, p_tupP, p_dn, p_getT, ok_dput, dputQ_o, ok_dsd, dsdQ_o, frzQ_t, frzQ_k, sM_d, sM_k, ok_dcomp, ditQ_d, ok_disp, dspQ_d, ok_kput, kputQ_o, p_dictK, p_ninK, p_getK, ok_parT, s_way_2]
  simp only [ok_asg, ok_par, ok_ownS, ok_newc, newQ_l, ok_cset, csetQ0, ok_app, appQ_o, ok_ins, insQ_o, ok_frz, frzQ_o, frzQ_v, ok_iteS, ok_for, ok_whil, ok_ret, ok_retN, ok_expr, ok_brk, ok_cont, ok_pass, ok_var, ok_own, ok_k, ok_glob, ok_gdk, gdkQ_s, ok_callK, kwQ_s, arF, Option.bind_some, Option.map_some, ok_dct, ok_dix, dixQ_k, tst_callK, ok_lset, lsetQ_o, p_rep, ok_prim, ok_and, ok_or, ok_not, ok_iteE, ok_chain, ok_call, ok_cidx, cidQ0, ok_comp, ok_esnil, ok_escons, ok_t0, ok_t1, ok_seq, seqQQ_l, seqQQ_t, seqQQ_s, ok_rng, ok_rng2, ok_zip, zipQ_l, zipQ_t, ok_enum, enumQ_l, p_sorted, eqD_pair, rngQ_i, ok_tand, ok_tor, ok_tnot, tst_var, tst_own, tst_k, tst_prim, tst_ite, tst_chain, tst_call, tst_cidx, ok_bind, ok_ok, ok_no, ok_guard, Res.bind_ok, eqD_int, eqD_bool, eqD_str, eqD_nil, eqD_none, konV, setAll, seqQ_nx, seqQ_rt, seqQ_bk, seqQ_ct, ok_cons, ok_nil, p_add, p_addL, p_addT, p_addS, p_sub, p_mul, p_fdiv, p_mod, p_pow, p_neg, p_eq, p_ne, p_lt, p_le, p_gt, p_ge, p_in, p_notin, p_isN, p_notN, p_isB, p_notB, p_idxL, p_idxT, p_lst0, p_lst1, p_lst2, p_lst3, p_lst4, p_lst5, p_lst6, p_lst7, p_tup0, p_tup1, p_tup2, p_tup3, p_tup4, p_tup5, p_lenL, p_lenT, p_listL, p_listT, p_tupleL, p_tupleT, p_abs, p_max2, p_min2, p_max4, p_intI, p_intB, p_isi, p_rev, p_revT, ok_popS, popQ_o, t_b, t_i, t_n, a_n, a_t, a_l, sM_t, sM_f, sA_0, sA_1, wE_0, wE_1, List.map_cons, List.map_nil, List.set_cons_zero, List.set_cons_succ, List.getElem?_cons_zero, List.getElem?_cons_succ, Nat.reduceAdd, at0, at1, at2, at3, at4, at5, at6, ix0, ix1, ix2, List.length_cons, List.length_nil, List.nil_append, decide_eq_true_eq, onFin_rt, onFin_nx, Bool.not_eq_true', decide_eq_false_iff_not, Int.reducePow, Int.reduceNeg, Int.reduceLT, Int.reduceLE, Nat.reduceLeDiff, Int.reduceToNat, Nat.reducePow, Int.reduceSub, Int.reduceAdd, Int.reduceMul, true_and, and_true, true_or, or_true, decide_true, and_self, if_true, if_false, Bool.false_eq_true, Bool.true_eq_false, reduceCtorEq, not_false_eq_true, not_true_eq_false, reduceIte, p_dictT, dixQ_t, p_sortT, p_ninT, p_dictP, p_tupP, p_dn, p_getT, ok_dput, dputQ_o, ok_dsd, dsdQ_o, frzQ_t, frzQ_k, sM_d, sM_k, ok_dcomp, ditQ_d, ok_disp, dspQ_d, ok_kput, kputQ_o, p_dictK, p_ninK, p_getK, ok_parT, s_way_3]
  refine ok_loopW (fun m env cs' => ∃ (kp : Nat) (cur nxt : List Str) (B0 B : BD) (s6 s7 s8 : Sl), env = [.v (.d (.tuple (pl.map rwD))), .v (.d (.str u0)), .v (.d (.str z)), .v (.k (tabD pl)), .ok (encB pl B), .ol ((cur ++ nxt).map .str), s6, s7, s8] ∧ cs' = cs ∧ Pas pl u0 kp cur nxt B0 B ∧ m = cur.length * wt kp + nxt.length * wt (kp + 1)) W 1023 _ _ (by omega) ⟨0, [u0], [], _, _, _, _, _, rfl, rfl, Pas.init pl u0, rfl⟩ ?_
  rintro m env cs' ⟨kp, cur, nxt, B0, B, s6, s7, s8, rfl, rfl, hp, rfl⟩
  have hstr : ∀ x ∈ cur ++ nxt, PyData.strOk x = true := fun x hx => by
    obtain ⟨o, ho⟩ := hp.has x hx
    obtain ⟨r, hr⟩ := hp.bi.row g hu ho
    exact g.ok x (by rw [← (rof_mem hr).2]; exact List.mem_map.mpr ⟨r, (rof_mem hr).1, rfl⟩)
  have en : eqD (.list ((cur ++ nxt).map .str)) (.list []) = .ok (cur ++ nxt).isEmpty := by
    rw [eqD_nilL (cm_strs hstr) (by decide)]
    cases cur ++ nxt <;> rfl
  simp only [ok_asg, ok_par, ok_ownS, ok_newc, newQ_l, ok_cset, csetQ0, ok_app, appQ_o, ok_ins, insQ_o, ok_frz, frzQ_o, frzQ_v, ok_iteS, ok_for, ok_whil, ok_ret, ok_retN, ok_expr, ok_brk, ok_cont, ok_pass, ok_var, ok_own, ok_k, ok_glob, ok_gdk, gdkQ_s, ok_callK, kwQ_s, arF, Option.bind_some, Option.map_some, ok_dct, ok_dix, dixQ_k, tst_callK, ok_lset, lsetQ_o, p_rep, ok_prim, ok_and, ok_or, ok_not, ok_iteE, ok_chain, ok_call, ok_cidx, cidQ0, ok_comp, ok_esnil, ok_escons, ok_t0, ok_t1, ok_seq, seqQQ_l, seqQQ_t, seqQQ_s, ok_rng, ok_rng2, ok_zip, zipQ_l, zipQ_t, ok_enum, enumQ_l, p_sorted, eqD_pair, rngQ_i, ok_tand, ok_tor, ok_tnot, tst_var, tst_own, tst_k, tst_prim, tst_ite, tst_chain, tst_call, tst_cidx, ok_bind, ok_ok, ok_no, ok_guard, Res.bind_ok, eqD_int, eqD_bool, eqD_str, eqD_nil, eqD_none, konV, setAll, seqQ_nx, seqQ_rt, seqQ_bk, seqQ_ct, ok_cons, ok_nil, p_add, p_addL, p_addT, p_addS, p_sub, p_mul, p_fdiv, p_mod, p_pow, p_neg, p_eq, p_ne, p_lt, p_le, p_gt, p_ge, p_in, p_notin, p_isN, p_notN, p_isB, p_notB, p_idxL, p_idxT, p_lst0, p_lst1, p_lst2, p_lst3, p_lst4, p_lst5, p_lst6, p_lst7, p_tup0, p_tup1, p_tup2, p_tup3, p_tup4, p_tup5, p_lenL, p_lenT, p_listL, p_listT, p_tupleL, p_tupleT, p_abs, p_max2, p_min2, p_max4, p_intI, p_intB, p_isi, p_rev, p_revT, ok_popS, popQ_o, t_b, t_i, t_n, a_n, a_t, a_l, sM_t, sM_f, sA_0, sA_1, wE_0, wE_1, List.map_cons, List.map_nil, List.set_cons_zero, List.set_cons_succ, List.getElem?_cons_zero, List.getElem?_cons_succ, Nat.reduceAdd, at0, at1, at2, at3, at4, at5, at6, ix0, ix1, ix2, List.length_cons, List.length_nil, List.nil_append, decide_eq_true_eq, onFin_rt, onFin_nx, Bool.not_eq_true', decide_eq_false_iff_not, Int.reducePow, Int.reduceNeg, Int.reduceLT, Int.reduceLE, Nat.reduceLeDiff, Int.reduceToNat, Nat.reducePow, Int.reduceSub, Int.reduceAdd, Int.reduceMul, true_and, and_true, true_or, or_true, decide_true, and_self, if_true, if_false, Bool.false_eq_true, Bool.true_eq_false, reduceCtorEq, not_false_eq_true, not_true_eq_false, reduceIte, p_dictT, dixQ_t, p_sortT, p_ninT, p_dictP, p_tupP, p_dn, p_getT, ok_dput, dputQ_o, ok_dsd, dsdQ_o, frzQ_t, frzQ_k, sM_d, sM_k, ok_dcomp, ditQ_d, ok_disp, dspQ_d, ok_kput, kputQ_o, p_dictK, p_ninK, p_getK, ok_parT, en]
  have main : ∀ (kp : Nat) (x : Str) (cur nxt : List Str) (B0 B : BD), Pas pl u0 kp (x :: cur) nxt B0 B → Ok (evSs ⟨R.run Ds gl W (n + 1), gl, W⟩ b_way_3 [.v (.d (.tuple (pl.map rwD))), .v (.d (.str u0)), .v (.d (.str z)), .v (.k (tabD pl)), .ok (encB pl B), .ol ((x :: cur ++ nxt).map .str), s6, s7, s8] cs') (fun r => match r.1 with
      | .nx => ∃ j, j < (x :: cur).length * wt kp + nxt.length * wt (kp + 1) ∧ ∃ (kp : Nat) (cur nxt : List Str) (B0 B : BD) (s6 s7 s8 : Sl), r.2.1 = [.v (.d (.tuple (pl.map rwD))), .v (.d (.str u0)), .v (.d (.str z)), .v (.k (tabD pl)), .ok (encB pl B), .ol ((cur ++ nxt).map .str), s6, s7, s8] ∧ r.2.2 = cs' ∧ Pas pl u0 kp cur nxt B0 B ∧ j = cur.length * wt kp + nxt.length * wt (kp + 1)
      | _ => False) := fun kp x cur nxt B0 B hp => by
    obtain ⟨o, ho⟩ := hp.has x (by simp)
    have ecut : cutD ((x :: cur ++ nxt).map PyData.str) (some 1) none = (cur ++ nxt).map PyData.str := by
      rw [cut_from (by omega) (by simp; omega)]
      rfl
    unfold b_way_3
    rw [ok_cons]
    simp only [ok_asg, ok_par, ok_ownS, ok_newc, newQ_l, ok_cset, csetQ0, ok_app, appQ_o, ok_ins, insQ_o, ok_frz, frzQ_o, frzQ_v, ok_iteS, ok_for, ok_whil, ok_ret, ok_retN, ok_expr, ok_brk, ok_cont, ok_pass, ok_var, ok_own, ok_k, ok_glob, ok_gdk, gdkQ_s, ok_callK, kwQ_s, arF, Option.bind_some, Option.map_some, ok_dct, ok_dix, dixQ_k, tst_callK, ok_lset, lsetQ_o, p_rep, ok_prim, ok_and, ok_or, ok_not, ok_iteE, ok_chain, ok_call, ok_cidx, cidQ0, ok_comp, ok_esnil, ok_escons, ok_t0, ok_t1, ok_seq, seqQQ_l, seqQQ_t, seqQQ_s, ok_rng, ok_rng2, ok_zip, zipQ_l, zipQ_t, ok_enum, enumQ_l, p_sorted, eqD_pair, rngQ_i, ok_tand, ok_tor, ok_tnot, tst_var, tst_own, tst_k, tst_prim, tst_ite, tst_chain, tst_call, tst_cidx, ok_bind, ok_ok, ok_no, ok_guard, Res.bind_ok, eqD_int, eqD_bool, eqD_str, eqD_nil, eqD_none, konV, setAll, seqQ_nx, seqQ_rt, seqQ_bk, seqQ_ct, ok_cons, ok_nil, p_add, p_addL, p_addT, p_addS, p_sub, p_mul, p_fdiv, p_mod, p_pow, p_neg, p_eq, p_ne, p_lt, p_le, p_gt, p_ge, p_in, p_notin, p_isN, p_notN, p_isB, p_notB, p_idxL, p_idxT, p_lst0, p_lst1, p_lst2, p_lst3, p_lst4, p_lst5, p_lst6, p_lst7, p_tup0, p_tup1, p_tup2, p_tup3, p_tup4, p_tup5, p_lenL, p_lenT, p_listL, p_listT, p_tupleL, p_tupleT, p_abs, p_max2, p_min2, p_max4, p_intI, p_intB, p_isi, p_rev, p_revT, ok_popS, popQ_o, t_b, t_i, t_n, a_n, a_t, a_l, sM_t, sM_f, sA_0, sA_1, wE_0, wE_1, List.map_cons, List.map_nil, List.set_cons_zero, List.set_cons_succ, List.getElem?_cons_zero, List.getElem?_cons_succ, Nat.reduceAdd, at0, at1, at2, at3, at4, at5, at6, ix0, ix1, ix2, List.length_cons, List.length_nil, List.nil_append, decide_eq_true_eq, onFin_rt, onFin_nx, Bool.not_eq_true', decide_eq_false_iff_not, Int.reducePow, Int.reduceNeg, Int.reduceLT, Int.reduceLE, Nat.reduceLeDiff, Int.reduceToNat, Nat.reducePow, Int.reduceSub, Int.reduceAdd, Int.reduceMul, true_and, and_true, true_or, or_true, decide_true, and_self, if_true, if_false, Bool.false_eq_true, Bool.true_eq_false, reduceCtorEq, not_false_eq_true, not_true_eq_false, reduceIte, p_dictT, dixQ_t, p_sortT, p_ninT, p_dictP, p_tupP, p_dn, p_getT, ok_dput, dputQ_o, ok_dsd, dsdQ_o, frzQ_t, frzQ_k, sM_d, sM_k, ok_dcomp, ditQ_d, ok_disp, dspQ_d, ok_kput, kputQ_o, p_dictK, p_ninK, p_getK, ok_parT, s_way_3_0, List.cons_append]
    simp only [ok_asg, ok_par, ok_ownS, ok_newc, newQ_l, ok_cset, csetQ0, ok_app, appQ_o, ok_ins, insQ_o, ok_frz, frzQ_o, frzQ_v, ok_iteS, ok_for, ok_whil, ok_ret, ok_retN, ok_expr, ok_brk, ok_cont, ok_pass, ok_var, ok_own, ok_k, ok_glob, ok_gdk, gdkQ_s, ok_callK, kwQ_s, arF, Option.bind_some, Option.map_some, ok_dct, ok_dix, dixQ_k, tst_callK, ok_lset, lsetQ_o, p_rep, ok_prim, ok_and, ok_or, ok_not, ok_iteE, ok_chain, ok_call, ok_cidx, cidQ0, ok_comp, ok_esnil, ok_escons, ok_t0, ok_t1, ok_seq, seqQQ_l, seqQQ_t, seqQQ_s, ok_rng, ok_rng2, ok_zip, zipQ_l, zipQ_t, ok_enum, enumQ_l, p_sorted, eqD_pair, rngQ_i, ok_tand, ok_tor, ok_tnot, tst_var, tst_own, tst_k, tst_prim, tst_ite, tst_chain, tst_call, tst_cidx, ok_bind, ok_ok, ok_no, ok_guard, Res.bind_ok, eqD_int, eqD_bool, eqD_str, eqD_nil, eqD_none, konV, setAll, seqQ_nx, seqQ_rt, seqQ_bk, seqQ_ct, ok_cons, ok_nil, p_add, p_addL, p_addT, p_addS, p_sub, p_mul, p_fdiv, p_mod, p_pow, p_neg, p_eq, p_ne, p_lt, p_le, p_gt, p_ge, p_in, p_notin, p_isN, p_notN, p_isB, p_notB, p_idxL, p_idxT, p_lst0, p_lst1, p_lst2, p_lst3, p_lst4, p_lst5, p_lst6, p_lst7, p_tup0, p_tup1, p_tup2, p_tup3, p_tup4, p_tup5, p_lenL, p_lenT, p_listL, p_listT, p_tupleL, p_tupleT, p_abs, p_max2, p_min2, p_max4, p_intI, p_intB, p_isi, p_rev, p_revT, ok_popS, popQ_o, t_b, t_i, t_n, a_n, a_t, a_l, sM_t, sM_f, sA_0, sA_1, wE_0, wE_1, List.map_cons, List.map_nil, List.set_cons_zero, List.set_cons_succ, List.getElem?_cons_zero, List.getElem?_cons_succ, Nat.reduceAdd, at0, at1, at2, at3, at4, at5, at6, ix0, ix1, ix2, List.length_cons, List.length_nil, List.nil_append, decide_eq_true_eq, onFin_rt, onFin_nx, Bool.not_eq_true', decide_eq_false_iff_not, Int.reducePow, Int.reduceNeg, Int.reduceLT, Int.reduceLE, Nat.reduceLeDiff, Int.reduceToNat, Nat.reducePow, Int.reduceSub, Int.reduceAdd, Int.reduceMul, true_and, and_true, true_or, or_true, decide_true, and_self, if_true, if_false, Bool.false_eq_true, Bool.true_eq_false, reduceCtorEq, not_false_eq_true, not_true_eq_false, reduceIte, p_dictT, dixQ_t, p_sortT, p_ninT, p_dictP, p_tupP, p_dn, p_getT, ok_dput, dputQ_o, ok_dsd, dsdQ_o, frzQ_t, frzQ_k, sM_d, sM_k, ok_dcomp, ditQ_d, ok_disp, dspQ_d, ok_kput, kputQ_o, p_dictK, p_ninK, p_getK, ok_parT, s_way_3_1, p_sl10]
    rw [← List.map_cons (f := PyData.str), ← List.cons_append, ecut]
    refine way_in g hu hp ho fun B2 nxt2 s7 s8 hp2 hl => ?_
    simp only [ok_asg, ok_par, ok_ownS, ok_newc, newQ_l, ok_cset, csetQ0, ok_app, appQ_o, ok_ins, insQ_o, ok_frz, frzQ_o, frzQ_v, ok_iteS, ok_for, ok_whil, ok_ret, ok_retN, ok_expr, ok_brk, ok_cont, ok_pass, ok_var, ok_own, ok_k, ok_glob, ok_gdk, gdkQ_s, ok_callK, kwQ_s, arF, Option.bind_some, Option.map_some, ok_dct, ok_dix, dixQ_k, tst_callK, ok_lset, lsetQ_o, p_rep, ok_prim, ok_and, ok_or, ok_not, ok_iteE, ok_chain, ok_call, ok_cidx, cidQ0, ok_comp, ok_esnil, ok_escons, ok_t0, ok_t1, ok_seq, seqQQ_l, seqQQ_t, seqQQ_s, ok_rng, ok_rng2, ok_zip, zipQ_l, zipQ_t, ok_enum, enumQ_l, p_sorted, eqD_pair, rngQ_i, ok_tand, ok_tor, ok_tnot, tst_var, tst_own, tst_k, tst_prim, tst_ite, tst_chain, tst_call, tst_cidx, ok_bind, ok_ok, ok_no, ok_guard, Res.bind_ok, eqD_int, eqD_bool, eqD_str, eqD_nil, eqD_none, konV, setAll, seqQ_nx, seqQ_rt, seqQ_bk, seqQ_ct, ok_cons, ok_nil, p_add, p_addL, p_addT, p_addS, p_sub, p_mul, p_fdiv, p_mod, p_pow, p_neg, p_eq, p_ne, p_lt, p_le, p_gt, p_ge, p_in, p_notin, p_isN, p_notN, p_isB, p_notB, p_idxL, p_idxT, p_lst0, p_lst1, p_lst2, p_lst3, p_lst4, p_lst5, p_lst6, p_lst7, p_tup0, p_tup1, p_tup2, p_tup3, p_tup4, p_tup5, p_lenL, p_lenT, p_listL, p_listT, p_tupleL, p_tupleT, p_abs, p_max2, p_min2, p_max4, p_intI, p_intB, p_isi, p_rev, p_revT, ok_popS, popQ_o, t_b, t_i, t_n, a_n, a_t, a_l, sM_t, sM_f, sA_0, sA_1, wE_0, wE_1, List.map_cons, List.map_nil, List.set_cons_zero, List.set_cons_succ, List.getElem?_cons_zero, List.getElem?_cons_succ, Nat.reduceAdd, at0, at1, at2, at3, at4, at5, at6, ix0, ix1, ix2, List.length_cons, List.length_nil, List.nil_append, decide_eq_true_eq, onFin_rt, onFin_nx, Bool.not_eq_true', decide_eq_false_iff_not, Int.reducePow, Int.reduceNeg, Int.reduceLT, Int.reduceLE, Nat.reduceLeDiff, Int.reduceToNat, Nat.reducePow, Int.reduceSub, Int.reduceAdd, Int.reduceMul, true_and, and_true, true_or, or_true, decide_true, and_self, if_true, if_false, Bool.false_eq_true, Bool.true_eq_false, reduceCtorEq, not_false_eq_true, not_true_eq_false, reduceIte, p_dictT, dixQ_t, p_sortT, p_ninT, p_dictP, p_tupP, p_dn, p_getT, ok_dput, dputQ_o, ok_dsd, dsdQ_o, frzQ_t, frzQ_k, sM_d, sM_k, ok_dcomp, ditQ_d, ok_disp, dspQ_d, ok_kput, kputQ_o, p_dictK, p_ninK, p_getK, ok_parT]
    refine ⟨_, ?_, kp, cur, nxt2, B0, B2, _, _, _, rfl, hp2, rfl⟩
    rw [Nat.add_mul, Nat.one_mul]
    have k9 := hp.k9
    by_cases h9 : kp = 9
    · subst h9
      rw [hp2.n9 rfl, hp.n9 rfl]
      simp [wt_9]
    · have e := wt_step (k := kp) (by omega)
      have : nxt2.length * wt (kp + 1) ≤ (nxt.length + 2) * wt (kp + 1) := Nat.mul_le_mul_right _ hl
      rw [Nat.add_mul] at this
      omega
  cases hc : cur with
  | cons x cur2 =>
    subst hc
    simp only [ok_asg, ok_par, ok_ownS, ok_newc, newQ_l, ok_cset, csetQ0, ok_app, appQ_o, ok_ins, insQ_o, ok_frz, frzQ_o, frzQ_v, ok_iteS, ok_for, ok_whil, ok_ret, ok_retN, ok_expr, ok_brk, ok_cont, ok_pass, ok_var, ok_own, ok_k, ok_glob, ok_gdk, gdkQ_s, ok_callK, kwQ_s, arF, Option.bind_some, Option.map_some, ok_dct, ok_dix, dixQ_k, tst_callK, ok_lset, lsetQ_o, p_rep, ok_prim, ok_and, ok_or, ok_not, ok_iteE, ok_chain, ok_call, ok_cidx, cidQ0, ok_comp, ok_esnil, ok_escons, ok_t0, ok_t1, ok_seq, seqQQ_l, seqQQ_t, seqQQ_s, ok_rng, ok_rng2, ok_zip, zipQ_l, zipQ_t, ok_enum, enumQ_l, p_sorted, eqD_pair, rngQ_i, ok_tand, ok_tor, ok_tnot, tst_var, tst_own, tst_k, tst_prim, tst_ite, tst_chain, tst_call, tst_cidx, ok_bind, ok_ok, ok_no, ok_guard, Res.bind_ok, eqD_int, eqD_bool, eqD_str, eqD_nil, eqD_none, konV, setAll, seqQ_nx, seqQ_rt, seqQ_bk, seqQ_ct, ok_cons, ok_nil, p_add, p_addL, p_addT, p_addS, p_sub, p_mul, p_fdiv, p_mod, p_pow, p_neg, p_eq, p_ne, p_lt, p_le, p_gt, p_ge, p_in, p_notin, p_isN, p_notN, p_isB, p_notB, p_idxL, p_idxT, p_lst0, p_lst1, p_lst2, p_lst3, p_lst4, p_lst5, p_lst6, p_lst7, p_tup0, p_tup1, p_tup2, p_tup3, p_tup4, p_tup5, p_lenL, p_lenT, p_listL, p_listT, p_tupleL, p_tupleT, p_abs, p_max2, p_min2, p_max4, p_intI, p_intB, p_isi, p_rev, p_revT, ok_popS, popQ_o, t_b, t_i, t_n, a_n, a_t, a_l, sM_t, sM_f, sA_0, sA_1, wE_0, wE_1, List.map_cons, List.map_nil, List.set_cons_zero, List.set_cons_succ, List.getElem?_cons_zero, List.getElem?_cons_succ, Nat.reduceAdd, at0, at1, at2, at3, at4, at5, at6, ix0, ix1, ix2, List.length_cons, List.length_nil, List.nil_append, decide_eq_true_eq, onFin_rt, onFin_nx, Bool.not_eq_true', decide_eq_false_iff_not, Int.reducePow, Int.reduceNeg, Int.reduceLT, Int.reduceLE, Nat.reduceLeDiff, Int.reduceToNat, Nat.reducePow, Int.reduceSub, Int.reduceAdd, Int.reduceMul, true_and, and_true, true_or, or_true, decide_true, and_self, if_true, if_false, Bool.false_eq_true, Bool.true_eq_false, reduceCtorEq, not_false_eq_true, not_true_eq_false, reduceIte, p_dictT, dixQ_t, p_sortT, p_ninT, p_dictP, p_tupP, p_dn, p_getT, ok_dput, dputQ_o, ok_dsd, dsdQ_o, frzQ_t, frzQ_k, sM_d, sM_k, ok_dcomp, ditQ_d, ok_disp, dspQ_d, ok_kput, kputQ_o, p_dictK, p_ninK, p_getK, ok_parT, List.cons_append, List.isEmpty_cons, Bool.not_false]
    refine (main kp x cur2 nxt B0 B hp).imp fun r hr => ?_
    obtain ⟨f, e2, c2⟩ := r
    cases f with
    | nx => exact hr
    | _ => exact hr.elim
  | nil =>
    subst hc
    cases hn : nxt with
    | cons x nxt2 =>
      subst hn
      have hp3 := hp.next g (by simp)
      simp only [ok_asg, ok_par, ok_ownS, ok_newc, newQ_l, ok_cset, csetQ0, ok_app, appQ_o, ok_ins, insQ_o, ok_frz, frzQ_o, frzQ_v, ok_iteS, ok_for, ok_whil, ok_ret, ok_retN, ok_expr, ok_brk, ok_cont, ok_pass, ok_var, ok_own, ok_k, ok_glob, ok_gdk, gdkQ_s, ok_callK, kwQ_s, arF, Option.bind_some, Option.map_some, ok_dct, ok_dix, dixQ_k, tst_callK, ok_lset, lsetQ_o, p_rep, ok_prim, ok_and, ok_or, ok_not, ok_iteE, ok_chain, ok_call, ok_cidx, cidQ0, ok_comp, ok_esnil, ok_escons, ok_t0, ok_t1, ok_seq, seqQQ_l, seqQQ_t, seqQQ_s, ok_rng, ok_rng2, ok_zip, zipQ_l, zipQ_t, ok_enum, enumQ_l, p_sorted, eqD_pair, rngQ_i, ok_tand, ok_tor, ok_tnot, tst_var, tst_own, tst_k, tst_prim, tst_ite, tst_chain, tst_call, tst_cidx, ok_bind, ok_ok, ok_no, ok_guard, Res.bind_ok, eqD_int, eqD_bool, eqD_str, eqD_nil, eqD_none, konV, setAll, seqQ_nx, seqQ_rt, seqQ_bk, seqQ_ct, ok_cons, ok_nil, p_add, p_addL, p_addT, p_addS, p_sub, p_mul, p_fdiv, p_mod, p_pow, p_neg, p_eq, p_ne, p_lt, p_le, p_gt, p_ge, p_in, p_notin, p_isN, p_notN, p_isB, p_notB, p_idxL, p_idxT, p_lst0, p_lst1, p_lst2, p_lst3, p_lst4, p_lst5, p_lst6, p_lst7, p_tup0, p_tup1, p_tup2, p_tup3, p_tup4, p_tup5, p_lenL, p_lenT, p_listL, p_listT, p_tupleL, p_tupleT, p_abs, p_max2, p_min2, p_max4, p_intI, p_intB, p_isi, p_rev, p_revT, ok_popS, popQ_o, t_b, t_i, t_n, a_n, a_t, a_l, sM_t, sM_f, sA_0, sA_1, wE_0, wE_1, List.map_cons, List.map_nil, List.set_cons_zero, List.set_cons_succ, List.getElem?_cons_zero, List.getElem?_cons_succ, Nat.reduceAdd, at0, at1, at2, at3, at4, at5, at6, ix0, ix1, ix2, List.length_cons, List.length_nil, List.nil_append, decide_eq_true_eq, onFin_rt, onFin_nx, Bool.not_eq_true', decide_eq_false_iff_not, Int.reducePow, Int.reduceNeg, Int.reduceLT, Int.reduceLE, Nat.reduceLeDiff, Int.reduceToNat, Nat.reducePow, Int.reduceSub, Int.reduceAdd, Int.reduceMul, true_and, and_true, true_or, or_true, decide_true, and_self, if_true, if_false, Bool.false_eq_true, Bool.true_eq_false, reduceCtorEq, not_false_eq_true, not_true_eq_false, reduceIte, p_dictT, dixQ_t, p_sortT, p_ninT, p_dictP, p_tupP, p_dn, p_getT, ok_dput, dputQ_o, ok_dsd, dsdQ_o, frzQ_t, frzQ_k, sM_d, sM_k, ok_dcomp, ditQ_d, ok_disp, dspQ_d, ok_kput, kputQ_o, p_dictK, p_ninK, p_getK, ok_parT, List.isEmpty_cons, Bool.not_false]
      have hm := main (kp + 1) x nxt2 [] B B hp3
      rw [List.append_nil] at hm
      refine hm.imp fun r hr => ?_
      obtain ⟨f, e2, c2⟩ := r
      cases f with
      | nx => simpa using hr
      | _ => exact hr.elim
    | nil =>
      subst hn
      simp only [ok_asg, ok_par, ok_ownS, ok_newc, newQ_l, ok_cset, csetQ0, ok_app, appQ_o, ok_ins, insQ_o, ok_frz, frzQ_o, frzQ_v, ok_iteS, ok_for, ok_whil, ok_ret, ok_retN, ok_expr, ok_brk, ok_cont, ok_pass, ok_var, ok_own, ok_k, ok_glob, ok_gdk, gdkQ_s, ok_callK, kwQ_s, arF, Option.bind_some, Option.map_some, ok_dct, ok_dix, dixQ_k, tst_callK, ok_lset, lsetQ_o, p_rep, ok_prim, ok_and, ok_or, ok_not, ok_iteE, ok_chain, ok_call, ok_cidx, cidQ0, ok_comp, ok_esnil, ok_escons, ok_t0, ok_t1, ok_seq, seqQQ_l, seqQQ_t, seqQQ_s, ok_rng, ok_rng2, ok_zip, zipQ_l, zipQ_t, ok_enum, enumQ_l, p_sorted, eqD_pair, rngQ_i, ok_tand, ok_tor, ok_tnot, tst_var, tst_own, tst_k, tst_prim, tst_ite, tst_chain, tst_call, tst_cidx, ok_bind, ok_ok, ok_no, ok_guard, Res.bind_ok, eqD_int, eqD_bool, eqD_str, eqD_nil, eqD_none, konV, setAll, seqQ_nx, seqQ_rt, seqQ_bk, seqQ_ct, ok_cons, ok_nil, p_add, p_addL, p_addT, p_addS, p_sub, p_mul, p_fdiv, p_mod, p_pow, p_neg, p_eq, p_ne, p_lt, p_le, p_gt, p_ge, p_in, p_notin, p_isN, p_notN, p_isB, p_notB, p_idxL, p_idxT, p_lst0, p_lst1, p_lst2, p_lst3, p_lst4, p_lst5, p_lst6, p_lst7, p_tup0, p_tup1, p_tup2, p_tup3, p_tup4, p_tup5, p_lenL, p_lenT, p_listL, p_listT, p_tupleL, p_tupleT, p_abs, p_max2, p_min2, p_max4, p_intI, p_intB, p_isi, p_rev, p_revT, ok_popS, popQ_o, t_b, t_i, t_n, a_n, a_t, a_l, sM_t, sM_f, sA_0, sA_1, wE_0, wE_1, List.map_cons, List.map_nil, List.set_cons_zero, List.set_cons_succ, List.getElem?_cons_zero, List.getElem?_cons_succ, Nat.reduceAdd, at0, at1, at2, at3, at4, at5, at6, ix0, ix1, ix2, List.length_cons, List.length_nil, List.nil_append, decide_eq_true_eq, onFin_rt, onFin_nx, Bool.not_eq_true', decide_eq_false_iff_not, Int.reducePow, Int.reduceNeg, Int.reduceLT, Int.reduceLE, Nat.reduceLeDiff, Int.reduceToNat, Nat.reducePow, Int.reduceSub, Int.reduceAdd, Int.reduceMul, true_and, and_true, true_or, or_true, decide_true, and_self, if_true, if_false, Bool.false_eq_true, Bool.true_eq_false, reduceCtorEq, not_false_eq_true, not_true_eq_false, reduceIte, p_dictT, dixQ_t, p_sortT, p_ninT, p_dictP, p_tupP, p_dn, p_getT, ok_dput, dputQ_o, ok_dsd, dsdQ_o, frzQ_t, frzQ_k, sM_d, sM_k, ok_dcomp, ditQ_d, ok_disp, dspQ_d, ok_kput, kputQ_o, p_dictK, p_ninK, p_getK, ok_parT, List.isEmpty_nil, Bool.not_true]
      simp only [ok_asg, ok_par, ok_ownS, ok_newc, newQ_l, ok_cset, csetQ0, ok_app, appQ_o, ok_ins, insQ_o, ok_frz, frzQ_o, frzQ_v, ok_iteS, ok_for, ok_whil, ok_ret, ok_retN, ok_expr, ok_brk, ok_cont, ok_pass, ok_var, ok_own, ok_k, ok_glob, ok_gdk, gdkQ_s, ok_callK, kwQ_s, arF, Option.bind_some, Option.map_some, ok_dct, ok_dix, dixQ_k, tst_callK, ok_lset, lsetQ_o, p_rep, ok_prim, ok_and, ok_or, ok_not, ok_iteE, ok_chain, ok_call, ok_cidx, cidQ0, ok_comp, ok_esnil, ok_escons, ok_t0, ok_t1, ok_seq, seqQQ_l, seqQQ_t, seqQQ_s, ok_rng, ok_rng2, ok_zip, zipQ_l, zipQ_t, ok_enum, enumQ_l, p_sorted, eqD_pair, rngQ_i, ok_tand, ok_tor, ok_tnot, tst_var, tst_own, tst_k, tst_prim, tst_ite, tst_chain, tst_call, tst_cidx, ok_bind, ok_ok, ok_no, ok_guard, Res.bind_ok, eqD_int, eqD_bool, eqD_str, eqD_nil, eqD_none, konV, setAll, seqQ_nx, seqQ_rt, seqQ_bk, seqQ_ct, ok_cons, ok_nil, p_add, p_addL, p_addT, p_addS, p_sub, p_mul, p_fdiv, p_mod, p_pow, p_neg, p_eq, p_ne, p_lt, p_le, p_gt, p_ge, p_in, p_notin, p_isN, p_notN, p_isB, p_notB, p_idxL, p_idxT, p_lst0, p_lst1, p_lst2, p_lst3, p_lst4, p_lst5, p_lst6, p_lst7, p_tup0, p_tup1, p_tup2, p_tup3, p_tup4, p_tup5, p_lenL, p_lenT, p_listL, p_listT, p_tupleL, p_tupleT, p_abs, p_max2, p_min2, p_max4, p_intI, p_intB, p_isi, p_rev, p_revT, ok_popS, popQ_o, t_b, t_i, t_n, a_n, a_t, a_l, sM_t, sM_f, sA_0, sA_1, wE_0, wE_1, List.map_cons, List.map_nil, List.set_cons_zero, List.set_cons_succ, List.getElem?_cons_zero, List.getElem?_cons_succ, Nat.reduceAdd, at0, at1, at2, at3, at4, at5, at6, ix0, ix1, ix2, List.length_cons, List.length_nil, List.nil_append, decide_eq_true_eq, onFin_rt, onFin_nx, Bool.not_eq_true', decide_eq_false_iff_not, Int.reducePow, Int.reduceNeg, Int.reduceLT, Int.reduceLE, Nat.reduceLeDiff, Int.reduceToNat, Nat.reducePow, Int.reduceSub, Int.reduceAdd, Int.reduceMul, true_and, and_true, true_or, or_true, decide_true, and_self, if_true, if_false, Bool.false_eq_true, Bool.true_eq_false, reduceCtorEq, not_false_eq_true, not_true_eq_false, reduceIte, p_dictT, dixQ_t, p_sortT, p_ninT, p_dictP, p_tupP, p_dn, p_getT, ok_dput, dputQ_o, ok_dsd, dsdQ_o, frzQ_t, frzQ_k, sM_d, sM_k, ok_dcomp, ditQ_d, ok_disp, dspQ_d, ok_kput, kputQ_o, p_dictK, p_ninK, p_getK, ok_parT, s_way_4]
      rw [look_enc]
      have := k B (hp.ends g)
      cases hl : lookB B z with
      | none => rw [hl] at this; exact this
      | some p => rw [hl] at this; exact this
def encF (F : List Str) : List (L2.Key × PyData) := F.map fun z => (Sum.inr z, .bool true)
theorem look_encF (z : Str) : ∀ F : List Str, (lookK (encF F) (Sum.inr z)).isSome = decide (z ∈ F)
  | [] => by simp [encF, lookK]
  | y :: F => by
    show (if (Sum.inr y : L2.Key) = Sum.inr z then some (PyData.bool true) else lookK (encF F) (Sum.inr z)).isSome = _
    by_cases e : y = z
    · rw [if_pos (by rw [e])]
      simp [e]
    · rw [if_neg (fun q => e (Sum.inr.inj q)), look_encF z F]
      refine decide_eq_decide.mpr ⟨fun h => List.mem_cons_of_mem _ h, fun h => ?_⟩
      rcases List.mem_cons.mp h with h | h
      · exact absurd h.symm e
      · exact h
theorem put_encF {F : List Str} {z : Str} (h : z ∉ F) : putD (encF F) (Sum.inr z) (.bool true) = encF (F ++ [z]) := by
  rw [put_fresh]
  · unfold encF
    rw [List.map_append]
    rfl
  · intro q
    unfold encF at q
    rw [List.map_map] at q
    obtain ⟨y, hy, e⟩ := List.mem_map.mp q
    have e : (Sum.inr y : L2.Key) = Sum.inr z := e
    rw [Sum.inr.inj e] at hy
    exact h hy
theorem tx_encF : ∀ F : List Str, txK (encF F) = some F
  | [] => rfl
  | z :: F => by
    show (txK (encF F)).map (z :: ·) = _
    rw [tx_encF F]
    rfl
structure Fnd (pl : List Rw) (u0 : Str) (F left : List Str) : Prop where
  nd : F.Nodup
  st : u0 ∈ F
  wk : ∀ z ∈ F, ∃ p, W pl u0 z p
  sub : ∀ z ∈ left, z ∈ F
  a : ∀ u ∈ F, u ∈ left ∨ ∀ v ∈ nxo pl u, v ∈ F
  len : left.length ≤ F.length
theorem fnd_len {pl : List Rw} {u0 : Str} {F left : List Str} (g : GdP pl) (hu : u0 ∈ pl.map (·.nm)) (h : Fnd pl u0 F left) : F.length ≤ 10 := by
  have := sub_len h.nd (l := pl.map (·.nm)) fun z hz => by
    obtain ⟨p, hp⟩ := h.wk z hz
    obtain ⟨a, rfl⟩ := hp.form
    exact hp.nodes g hu z (by simp)
  rw [List.length_map] at this
  have := g.len
  omega
theorem walk_in {pl : List Rw} {u0 : Str} {F : List Str} (h0 : u0 ∈ F) (hc : ∀ u ∈ F, ∀ v ∈ nxo pl u, v ∈ F) : ∀ (n : Nat) (z : Str) (p : List Str), p.length = n → W pl u0 z p → z ∈ F := by
  intro n
  induction n with
  | zero =>
    intro z p hl hw
    obtain ⟨a, rfl⟩ := hw.form
    simp at hl
  | succ n ih =>
    intro z p hl hw
    rcases hw.back with ⟨rfl, rfl⟩ | ⟨y, q, hy, hz, rfl⟩
    · exact h0
    · exact hc y (ih y q (by rw [List.length_append] at hl; simpa using hl) hy) z hz
theorem reached_ok {W n : Nat} {pl : List Rw} {u0 : Str} {cs : Cells} {Q : MV × Cells → Prop} (hW : 100 ≤ W) (g : GdP pl) (hu : u0 ∈ pl.map (·.nm)) (k : ∀ F : List Str, F.Nodup → (∀ z, z ∈ F ↔ ∃ p, K15.W pl u0 z p) → F.length ≤ 10 → Q (.d (.list ((sortS F).map .str)), cs)) : Ok (R.run Ds gl W (n + 2) i_reached [.d (.tuple (pl.map rwD)), .d (.str u0)] cs) Q := by
  rw [u_reached, ok_fin]
  unfold b_reached
  rw [ok_cons]
  simp only [ok_asg, ok_par, ok_ownS, ok_newc, newQ_l, ok_cset, csetQ0, ok_app, appQ_o, ok_ins, insQ_o, ok_frz, frzQ_o, frzQ_v, ok_iteS, ok_for, ok_whil, ok_ret, ok_retN, ok_expr, ok_brk, ok_cont, ok_pass, ok_var, ok_own, ok_k, ok_glob, ok_gdk, gdkQ_s, ok_callK, kwQ_s, arF, Option.bind_some, Option.map_some, ok_dct, ok_dix, dixQ_k, tst_callK, ok_lset, lsetQ_o, p_rep, ok_prim, ok_and, ok_or, ok_not, ok_iteE, ok_chain, ok_call, ok_cidx, cidQ0, ok_comp, ok_esnil, ok_escons, ok_t0, ok_t1, ok_seq, seqQQ_l, seqQQ_t, seqQQ_s, ok_rng, ok_rng2, ok_zip, zipQ_l, zipQ_t, ok_enum, enumQ_l, p_sorted, eqD_pair, rngQ_i, ok_tand, ok_tor, ok_tnot, tst_var, tst_own, tst_k, tst_prim, tst_ite, tst_chain, tst_call, tst_cidx, ok_bind, ok_ok, ok_no, ok_guard, Res.bind_ok, eqD_int, eqD_bool, eqD_str, eqD_nil, eqD_none, konV, setAll, seqQ_nx, seqQ_rt, seqQ_bk, seqQ_ct, ok_cons, ok_nil, p_add, p_addL, p_addT, p_addS, p_sub, p_mul, p_fdiv, p_mod, p_pow, p_neg, p_eq, p_ne, p_lt, p_le, p_gt, p_ge, p_in, p_notin, p_isN, p_notN, p_isB, p_notB, p_idxL, p_idxT, p_lst0, p_lst1, p_lst2, p_lst3, p_lst4, p_lst5, p_lst6, p_lst7, p_tup0, p_tup1, p_tup2, p_tup3, p_tup4, p_tup5, p_lenL, p_lenT, p_listL, p_listT, p_tupleL, p_tupleT, p_abs, p_max2, p_min2, p_max4, p_intI, p_intB, p_isi, p_rev, p_revT, ok_popS, popQ_o, t_b, t_i, t_n, a_n, a_t, a_l, sM_t, sM_f, sA_0, sA_1, wE_0, wE_1, List.map_cons, List.map_nil, List.set_cons_zero, List.set_cons_succ, List.getElem?_cons_zero, List.getElem?_cons_succ, Nat.reduceAdd, at0, at1, at2, at3, at4, at5, at6, ix0, ix1, ix2, List.length_cons, List.length_nil, List.nil_append, decide_eq_true_eq, onFin_rt, onFin_nx, Bool.not_eq_true', decide_eq_false_iff_not, Int.reducePow, Int.reduceNeg, Int.reduceLT, Int.reduceLE, Nat.reduceLeDiff, Int.reduceToNat, Nat.reducePow, Int.reduceSub, Int.reduceAdd, Int.reduceMul, true_and, and_true, true_or, or_true, decide_true, and_self, if_true, if_false, Bool.false_eq_true, Bool.true_eq_false, reduceCtorEq, not_false_eq_true, not_true_eq_false, reduceIte, p_dictT, dixQ_t, p_sortT, p_ninT, p_dictP, p_tupP, p_dn, p_getT, ok_dput, dputQ_o, ok_dsd, dsdQ_o, frzQ_t, frzQ_k, sM_d, sM_k, ok_dcomp, ditQ_d, ok_disp, dspQ_d, ok_kput, kputQ_o, p_dictK, p_ninK, p_getK, ok_parT, s_reached_0]
  refine table_ok g ?_
  simp only [ok_asg, ok_par, ok_ownS, ok_newc, newQ_l, ok_cset, csetQ0, ok_app, appQ_o, ok_ins, insQ_o, ok_frz, frzQ_o, frzQ_v, ok_iteS, ok_for, ok_whil, ok_ret, ok_retN, ok_expr, ok_brk, ok_cont, ok_pass, ok_var, ok_own, ok_k, ok_glob, ok_gdk, gdkQ_s, ok_callK, kwQ_s, arF, Option.bind_some, Option.map_some, ok_dct, ok_dix, dixQ_k, tst_callK, ok_lset, lsetQ_o, p_rep, ok_prim, ok_and, ok_or, ok_not, ok_iteE, ok_chain, ok_call, ok_cidx, cidQ0, ok_comp, ok_esnil, ok_escons, ok_t0, ok_t1, ok_seq, seqQQ_l, seqQQ_t, seqQQ_s, ok_rng, ok_rng2, ok_zip, zipQ_l, zipQ_t, ok_enum, enumQ_l, p_sorted, eqD_pair, rngQ_i, ok_tand, ok_tor, ok_tnot, tst_var, tst_own, tst_k, tst_prim, tst_ite, tst_chain, tst_call, tst_cidx, ok_bind, ok_ok, ok_no, ok_guard, Res.bind_ok, eqD_int, eqD_bool, eqD_str, eqD_nil, eqD_none, konV, setAll, seqQ_nx, seqQ_rt, seqQ_bk, seqQ_ct, ok_cons, ok_nil, p_add, p_addL, p_addT, p_addS, p_sub, p_mul, p_fdiv, p_mod, p_pow, p_neg, p_eq, p_ne, p_lt, p_le, p_gt, p_ge, p_in, p_notin, p_isN, p_notN, p_isB, p_notB, p_idxL, p_idxT, p_lst0, p_lst1, p_lst2, p_lst3, p_lst4, p_lst5, p_lst6, p_lst7, p_tup0, p_tup1, p_tup2, p_tup3, p_tup4, p_tup5, p_lenL, p_lenT, p_listL, p_listT, p_tupleL, p_tupleT, p_abs, p_max2, p_min2, p_max4, p_intI, p_intB, p_isi, p_rev, p_revT, ok_popS, popQ_o, t_b, t_i, t_n, a_n, a_t, a_l, sM_t, sM_f, sA_0, sA_1, wE_0, wE_1, List.map_cons, List.map_nil, List.set_cons_zero, List.set_cons_succ, List.getElem?_cons_zero, List.getElem?_cons_succ, Nat.reduceAdd, at0, at1, at2, at3, at4, at5, at6, ix0, ix1, ix2, List.length_cons, List.length_nil, List.nil_append, decide_eq_true_eq, onFin_rt, onFin_nx, Bool.not_eq_true', decide_eq_false_iff_not, Int.reducePow, Int.reduceNeg, Int.reduceLT, Int.reduceLE, Nat.reduceLeDiff, Int.reduceToNat, Nat.reducePow, Int.reduceSub, Int.reduceAdd, Int.reduceMul, true_and, and_true, true_or, or_true, decide_true, and_self, if_true, if_false, Bool.false_eq_true, Bool.true_eq_false, reduceCtorEq, not_false_eq_true, not_true_eq_false, reduceIte, p_dictT, dixQ_t, p_sortT, p_ninT, p_dictP, p_tupP, p_dn, p_getT, ok_dput, dputQ_o, ok_dsd, dsdQ_o, frzQ_t, frzQ_k, sM_d, sM_k, ok_dcomp, ditQ_d, ok_disp, dspQ_d, ok_kput, kputQ_o, p_dictK, p_ninK, p_getK, ok_parT]
  simp only [ok_asg, ok_par, ok_ownS, ok_newc, newQ_l, ok_cset, csetQ0, ok_app, appQ_o, ok_ins, insQ_o, ok_frz, frzQ_o, frzQ_v, ok_iteS, ok_for, ok_whil, ok_ret, ok_retN, ok_expr, ok_brk, ok_cont, ok_pass, ok_var, ok_own, ok_k, ok_glob, ok_gdk, gdkQ_s, ok_callK, kwQ_s, arF, Option.bind_some, Option.map_some, ok_dct, ok_dix, dixQ_k, tst_callK, ok_lset, lsetQ_o, p_rep, ok_prim, ok_and, ok_or, ok_not, ok_iteE, ok_chain, ok_call, ok_cidx, cidQ0, ok_comp, ok_esnil, ok_escons, ok_t0, ok_t1, ok_seq, seqQQ_l, seqQQ_t, seqQQ_s, ok_rng, ok_rng2, ok_zip, zipQ_l, zipQ_t, ok_enum, enumQ_l, p_sorted, eqD_pair, rngQ_i, ok_tand, ok_tor, ok_tnot, tst_var, tst_own, tst_k, tst_prim, tst_ite, tst_chain, tst_call, tst_cidx, ok_bind, ok_ok, ok_no, ok_guard, Res.bind_ok, eqD_int, eqD_bool, eqD_str, eqD_nil, eqD_none, konV, setAll, seqQ_nx, seqQ_rt, seqQ_bk, seqQ_ct, ok_cons, ok_nil, p_add, p_addL, p_addT, p_addS, p_sub, p_mul, p_fdiv, p_mod, p_pow, p_neg, p_eq, p_ne, p_lt, p_le, p_gt, p_ge, p_in, p_notin, p_isN, p_notN, p_isB, p_notB, p_idxL, p_idxT, p_lst0, p_lst1, p_lst2, p_lst3, p_lst4, p_lst5, p_lst6, p_lst7, p_tup0, p_tup1, p_tup2, p_tup3, p_tup4, p_tup5, p_lenL, p_lenT, p_listL, p_listT, p_tupleL, p_tupleT, p_abs, p_max2, p_min2, p_max4, p_intI, p_intB, p_isi, p_rev, p_revT, ok_popS, popQ_o, t_b, t_i, t_n, a_n, a_t, a_l, sM_t, sM_f, sA_0, sA_1, wE_0, wE_1, List.map_cons, List.map_nil, List.set_cons_zero, List.set_cons_succ, List.getElem?_cons_zero, List.getElem?_cons_succ, Nat.reduceAdd, at0, at1, at2, at3, at4, at5, at6, ix0, ix1, ix2, List.length_cons, List.length_nil, List.nil_append, decide_eq_true_eq, onFin_rt, onFin_nx, Bool.not_eq_true', decide_eq_false_iff_not, Int.reducePow, Int.reduceNeg, Int.reduceLT, Int.reduceLE, Nat.reduceLeDiff, Int.reduceToNat, Nat.reducePow, Int.reduceSub, Int.reduceAdd, Int.reduceMul, true_and, and_true, true_or, or_true, decide_true, and_self, if_true, if_false, Bool.false_eq_true, Bool.true_eq_false, reduceCtorEq, not_false_eq_true, not_true_eq_false, reduceIte, p_dictT, dixQ_t, p_sortT, p_ninT, p_dictP, p_tupP, p_dn, p_getT, ok_dput, dputQ_o, ok_dsd, dsdQ_o, frzQ_t, frzQ_k, sM_d, sM_k, ok_dcomp, ditQ_d, ok_disp, dspQ_d, ok_kput, kputQ_o, p_dictK, p_ninK, p_getK, ok_parT, s_reached_1]
  have e0 : [((Sum.inr u0 : L2.Key), PyData.bool true)] = encF [u0] := rfl
  rw [e0]
  simp only [ok_asg, ok_par, ok_ownS, ok_newc, newQ_l, ok_cset, csetQ0, ok_app, appQ_o, ok_ins, insQ_o, ok_frz, frzQ_o, frzQ_v, ok_iteS, ok_for, ok_whil, ok_ret, ok_retN, ok_expr, ok_brk, ok_cont, ok_pass, ok_var, ok_own, ok_k, ok_glob, ok_gdk, gdkQ_s, ok_callK, kwQ_s, arF, Option.bind_some, Option.map_some, ok_dct, ok_dix, dixQ_k, tst_callK, ok_lset, lsetQ_o, p_rep, ok_prim, ok_and, ok_or, ok_not, ok_iteE, ok_chain, ok_call, ok_cidx, cidQ0, ok_comp, ok_esnil, ok_escons, ok_t0, ok_t1, ok_seq, seqQQ_l, seqQQ_t, seqQQ_s, ok_rng, ok_rng2, ok_zip, zipQ_l, zipQ_t, ok_enum, enumQ_l, p_sorted, eqD_pair, rngQ_i, ok_tand, ok_tor, ok_tnot, tst_var, tst_own, tst_k, tst_prim, tst_ite, tst_chain, tst_call, tst_cidx, ok_bind, ok_ok, ok_no, ok_guard, Res.bind_ok, eqD_int, eqD_bool, eqD_str, eqD_nil, eqD_none, konV, setAll, seqQ_nx, seqQ_rt, seqQ_bk, seqQ_ct, ok_cons, ok_nil, p_add, p_addL, p_addT, p_addS, p_sub, p_mul, p_fdiv, p_mod, p_pow, p_neg, p_eq, p_ne, p_lt, p_le, p_gt, p_ge, p_in, p_notin, p_isN, p_notN, p_isB, p_notB, p_idxL, p_idxT, p_lst0, p_lst1, p_lst2, p_lst3, p_lst4, p_lst5, p_lst6, p_lst7, p_tup0, p_tup1, p_tup2, p_tup3, p_tup4, p_tup5, p_lenL, p_lenT, p_listL, p_listT, p_tupleL, p_tupleT, p_abs, p_max2, p_min2, p_max4, p_intI, p_intB, p_isi, p_rev, p_revT, ok_popS, popQ_o, t_b, t_i, t_n, a_n, a_t, a_l, sM_t, sM_f, sA_0, sA_1, wE_0, wE_1, List.map_cons, List.map_nil, List.set_cons_zero, List.set_cons_succ, List.getElem?_cons_zero, List.getElem?_cons_succ, Nat.reduceAdd, at0, at1, at2, at3, at4, at5, at6, ix0, ix1, ix2, List.length_cons, List.length_nil, List.nil_append, decide_eq_true_eq, onFin_rt, onFin_nx, Bool.not_eq_true', decide_eq_false_iff_not, Int.reducePow, Int.reduceNeg, Int.reduceLT, Int.reduceLE, Nat.reduceLeDiff, Int.reduceToNat, Nat.reducePow, Int.reduceSub, Int.reduceAdd, Int.reduceMul, true_and, and_true, true_or, or_true, decide_true, and_self, if_true, if_false, Bool.false_eq_true, Bool.true_eq_false, reduceCtorEq, not_false_eq_true, not_true_eq_false, reduceIte, p_dictT, dixQ_t, p_sortT, p_ninT, p_dictP, p_tupP, p_dn, p_getT, ok_dput, dputQ_o, ok_dsd, dsdQ_o, frzQ_t, frzQ_k, sM_d, sM_k, ok_dcomp, ditQ_d, ok_disp, dspQ_d, ok_kput, kputQ_o, p_dictK, p_ninK, p_getK, ok_parT, s_reached_2]
  simp only [ok_asg, ok_par, ok_ownS, ok_newc, newQ_l, ok_cset, csetQ0, ok_app, appQ_o, ok_ins, insQ_o, ok_frz, frzQ_o, frzQ_v, ok_iteS, ok_for, ok_whil, ok_ret, ok_retN, ok_expr, ok_brk, ok_cont, ok_pass, ok_var, ok_own, ok_k, ok_glob, ok_gdk, gdkQ_s, ok_callK, kwQ_s, arF, Option.bind_some, Option.map_some, ok_dct, ok_dix, dixQ_k, tst_callK, ok_lset, lsetQ_o, p_rep, ok_prim, ok_and, ok_or, ok_not, ok_iteE, ok_chain, ok_call, ok_cidx, cidQ0, ok_comp, ok_esnil, ok_escons, ok_t0, ok_t1, ok_seq, seqQQ_l, seqQQ_t, seqQQ_s, ok_rng, ok_rng2, ok_zip, zipQ_l, zipQ_t, ok_enum, enumQ_l, p_sorted, eqD_pair, rngQ_i, ok_tand, ok_tor, ok_tnot, tst_var, tst_own, tst_k, tst_prim, tst_ite, tst_chain, tst_call, tst_cidx, ok_bind, ok_ok, ok_no, ok_guard, Res.bind_ok, eqD_int, eqD_bool, eqD_str, eqD_nil, eqD_none, konV, setAll, seqQ_nx, seqQ_rt, seqQ_bk, seqQ_ct, ok_cons, ok_nil, p_add, p_addL, p_addT, p_addS, p_sub, p_mul, p_fdiv, p_mod, p_pow, p_neg, p_eq, p_ne, p_lt, p_le, p_gt, p_ge, p_in, p_notin, p_isN, p_notN, p_isB, p_notB, p_idxL, p_idxT, p_lst0, p_lst1, p_lst2, p_lst3, p_lst4, p_lst5, p_lst6, p_lst7, p_tup0, p_tup1, p_tup2, p_tup3, p_tup4, p_tup5, p_lenL, p_lenT, p_listL, p_listT, p_tupleL, p_tupleT, p_abs, p_max2, p_min2, p_max4, p_intI, p_intB, p_isi, p_rev, p_revT, ok_popS, popQ_o, t_b, t_i, t_n, a_n, a_t, a_l, sM_t, sM_f, sA_0, sA_1, wE_0, wE_1, List.map_cons, List.map_nil, List.set_cons_zero, List.set_cons_succ, List.getElem?_cons_zero, List.getElem?_cons_succ, Nat.reduceAdd, at0, at1, at2, at3, at4, at5, at6, ix0, ix1, ix2, List.length_cons, List.length_nil, List.nil_append, decide_eq_true_eq, onFin_rt, onFin_nx, Bool.not_eq_true', decide_eq_false_iff_not, Int.reducePow, Int.reduceNeg, Int.reduceLT, Int.reduceLE, Nat.reduceLeDiff, Int.reduceToNat, Nat.reducePow, Int.reduceSub, Int.reduceAdd, Int.reduceMul, true_and, and_true, true_or, or_true, decide_true, and_self, if_true, if_false, Bool.false_eq_true, Bool.true_eq_false, reduceCtorEq, not_false_eq_true, not_true_eq_false, reduceIte, p_dictT, dixQ_t, p_sortT, p_ninT, p_dictP, p_tupP, p_dn, p_getT, ok_dput, dputQ_o, ok_dsd, dsdQ_o, frzQ_t, frzQ_k, sM_d, sM_k, ok_dcomp, ditQ_d, ok_disp, dspQ_d, ok_kput, kputQ_o, p_dictK, p_ninK, p_getK, ok_parT, s_reached_3]
  refine ok_loopW (fun m env cs' => ∃ (F left : List Str) (s5 : Sl), env = [.v (.d (.tuple (pl.map rwD))), .v (.d (.str u0)), .v (.k (tabD pl)), .ok (encF F), .ol (left.map .str), s5] ∧ cs' = cs ∧ Fnd pl u0 F left ∧ m = 2 * (10 - F.length) + left.length) W 19 _ _ (by omega) ⟨[u0], [u0], _, rfl, rfl, ⟨by simp, by simp, fun z hz => ⟨[u0], by rw [List.mem_singleton.mp hz]; exact K15.W.one pl u0⟩, fun z hz => hz, fun u hu => .inl hu, by simp⟩, rfl⟩ ?_
  rintro m env cs' ⟨F, left, s5, rfl, rfl, h, rfl⟩
  have hFl := fnd_len g hu h
  have hnm : ∀ z ∈ F, z ∈ pl.map (·.nm) := fun z hz => by
    obtain ⟨p, hp⟩ := h.wk z hz
    obtain ⟨a, rfl⟩ := hp.form
    exact hp.nodes g hu z (by simp)
  have en : eqD (.list (left.map .str)) (.list []) = .ok left.isEmpty := by
    rw [eqD_nilL (cm_strs fun x hx => g.ok x (hnm x (h.sub x hx))) (by decide)]
    cases left <;> rfl
  simp only [ok_asg, ok_par, ok_ownS, ok_newc, newQ_l, ok_cset, csetQ0, ok_app, appQ_o, ok_ins, insQ_o, ok_frz, frzQ_o, frzQ_v, ok_iteS, ok_for, ok_whil, ok_ret, ok_retN, ok_expr, ok_brk, ok_cont, ok_pass, ok_var, ok_own, ok_k, ok_glob, ok_gdk, gdkQ_s, ok_callK, kwQ_s, arF, Option.bind_some, Option.map_some, ok_dct, ok_dix, dixQ_k, tst_callK, ok_lset, lsetQ_o, p_rep, ok_prim, ok_and, ok_or, ok_not, ok_iteE, ok_chain, ok_call, ok_cidx, cidQ0, ok_comp, ok_esnil, ok_escons, ok_t0, ok_t1, ok_seq, seqQQ_l, seqQQ_t, seqQQ_s, ok_rng, ok_rng2, ok_zip, zipQ_l, zipQ_t, ok_enum, enumQ_l, p_sorted, eqD_pair, rngQ_i, ok_tand, ok_tor, ok_tnot, tst_var, tst_own, tst_k, tst_prim, tst_ite, tst_chain, tst_call, tst_cidx, ok_bind, ok_ok, ok_no, ok_guard, Res.bind_ok, eqD_int, eqD_bool, eqD_str, eqD_nil, eqD_none, konV, setAll, seqQ_nx, seqQ_rt, seqQ_bk, seqQ_ct, ok_cons, ok_nil, p_add, p_addL, p_addT, p_addS, p_sub, p_mul, p_fdiv, p_mod, p_pow, p_neg, p_eq, p_ne, p_lt, p_le, p_gt, p_ge, p_in, p_notin, p_isN, p_notN, p_isB, p_notB, p_idxL, p_idxT, p_lst0, p_lst1, p_lst2, p_lst3, p_lst4, p_lst5, p_lst6, p_lst7, p_tup0, p_tup1, p_tup2, p_tup3, p_tup4, p_tup5, p_lenL, p_lenT, p_listL, p_listT, p_tupleL, p_tupleT, p_abs, p_max2, p_min2, p_max4, p_intI, p_intB, p_isi, p_rev, p_revT, ok_popS, popQ_o, t_b, t_i, t_n, a_n, a_t, a_l, sM_t, sM_f, sA_0, sA_1, wE_0, wE_1, List.map_cons, List.map_nil, List.set_cons_zero, List.set_cons_succ, List.getElem?_cons_zero, List.getElem?_cons_succ, Nat.reduceAdd, at0, at1, at2, at3, at4, at5, at6, ix0, ix1, ix2, List.length_cons, List.length_nil, List.nil_append, decide_eq_true_eq, onFin_rt, onFin_nx, Bool.not_eq_true', decide_eq_false_iff_not, Int.reducePow, Int.reduceNeg, Int.reduceLT, Int.reduceLE, Nat.reduceLeDiff, Int.reduceToNat, Nat.reducePow, Int.reduceSub, Int.reduceAdd, Int.reduceMul, true_and, and_true, true_or, or_true, decide_true, and_self, if_true, if_false, Bool.false_eq_true, Bool.true_eq_false, reduceCtorEq, not_false_eq_true, not_true_eq_false, reduceIte, p_dictT, dixQ_t, p_sortT, p_ninT, p_dictP, p_tupP, p_dn, p_getT, ok_dput, dputQ_o, ok_dsd, dsdQ_o, frzQ_t, frzQ_k, sM_d, sM_k, ok_dcomp, ditQ_d, ok_disp, dspQ_d, ok_kput, kputQ_o, p_dictK, p_ninK, p_getK, ok_parT, en]
  rcases List.eq_nil_or_concat left with rfl | ⟨ini, x, rfl⟩
  · simp only [ok_asg, ok_par, ok_ownS, ok_newc, newQ_l, ok_cset, csetQ0, ok_app, appQ_o, ok_ins, insQ_o, ok_frz, frzQ_o, frzQ_v, ok_iteS, ok_for, ok_whil, ok_ret, ok_retN, ok_expr, ok_brk, ok_cont, ok_pass, ok_var, ok_own, ok_k, ok_glob, ok_gdk, gdkQ_s, ok_callK, kwQ_s, arF, Option.bind_some, Option.map_some, ok_dct, ok_dix, dixQ_k, tst_callK, ok_lset, lsetQ_o, p_rep, ok_prim, ok_and, ok_or, ok_not, ok_iteE, ok_chain, ok_call, ok_cidx, cidQ0, ok_comp, ok_esnil, ok_escons, ok_t0, ok_t1, ok_seq, seqQQ_l, seqQQ_t, seqQQ_s, ok_rng, ok_rng2, ok_zip, zipQ_l, zipQ_t, ok_enum, enumQ_l, p_sorted, eqD_pair, rngQ_i, ok_tand, ok_tor, ok_tnot, tst_var, tst_own, tst_k, tst_prim, tst_ite, tst_chain, tst_call, tst_cidx, ok_bind, ok_ok, ok_no, ok_guard, Res.bind_ok, eqD_int, eqD_bool, eqD_str, eqD_nil, eqD_none, konV, setAll, seqQ_nx, seqQ_rt, seqQ_bk, seqQ_ct, ok_cons, ok_nil, p_add, p_addL, p_addT, p_addS, p_sub, p_mul, p_fdiv, p_mod, p_pow, p_neg, p_eq, p_ne, p_lt, p_le, p_gt, p_ge, p_in, p_notin, p_isN, p_notN, p_isB, p_notB, p_idxL, p_idxT, p_lst0, p_lst1, p_lst2, p_lst3, p_lst4, p_lst5, p_lst6, p_lst7, p_tup0, p_tup1, p_tup2, p_tup3, p_tup4, p_tup5, p_lenL, p_lenT, p_listL, p_listT, p_tupleL, p_tupleT, p_abs, p_max2, p_min2, p_max4, p_intI, p_intB, p_isi, p_rev, p_revT, ok_popS, popQ_o, t_b, t_i, t_n, a_n, a_t, a_l, sM_t, sM_f, sA_0, sA_1, wE_0, wE_1, List.map_cons, List.map_nil, List.set_cons_zero, List.set_cons_succ, List.getElem?_cons_zero, List.getElem?_cons_succ, Nat.reduceAdd, at0, at1, at2, at3, at4, at5, at6, ix0, ix1, ix2, List.length_cons, List.length_nil, List.nil_append, decide_eq_true_eq, onFin_rt, onFin_nx, Bool.not_eq_true', decide_eq_false_iff_not, Int.reducePow, Int.reduceNeg, Int.reduceLT, Int.reduceLE, Nat.reduceLeDiff, Int.reduceToNat, Nat.reducePow, Int.reduceSub, Int.reduceAdd, Int.reduceMul, true_and, and_true, true_or, or_true, decide_true, and_self, if_true, if_false, Bool.false_eq_true, Bool.true_eq_false, reduceCtorEq, not_false_eq_true, not_true_eq_false, reduceIte, p_dictT, dixQ_t, p_sortT, p_ninT, p_dictP, p_tupP, p_dn, p_getT, ok_dput, dputQ_o, ok_dsd, dsdQ_o, frzQ_t, frzQ_k, sM_d, sM_k, ok_dcomp, ditQ_d, ok_disp, dspQ_d, ok_kput, kputQ_o, p_dictK, p_ninK, p_getK, ok_parT, List.isEmpty_nil, Bool.not_true]
    have es : primF .sortK [.k (encF F)] = .ok (.d (.list ((sortS F).map .str))) := by
      rw [p_sortK, tx_encF]
      show (if F.length < 64 then _ else _) = _
      rw [if_pos (by omega)]
    simp only [ok_asg, ok_par, ok_ownS, ok_newc, newQ_l, ok_cset, csetQ0, ok_app, appQ_o, ok_ins, insQ_o, ok_frz, frzQ_o, frzQ_v, ok_iteS, ok_for, ok_whil, ok_ret, ok_retN, ok_expr, ok_brk, ok_cont, ok_pass, ok_var, ok_own, ok_k, ok_glob, ok_gdk, gdkQ_s, ok_callK, kwQ_s, arF, Option.bind_some, Option.map_some, ok_dct, ok_dix, dixQ_k, tst_callK, ok_lset, lsetQ_o, p_rep, ok_prim, ok_and, ok_or, ok_not, ok_iteE, ok_chain, ok_call, ok_cidx, cidQ0, ok_comp, ok_esnil, ok_escons, ok_t0, ok_t1, ok_seq, seqQQ_l, seqQQ_t, seqQQ_s, ok_rng, ok_rng2, ok_zip, zipQ_l, zipQ_t, ok_enum, enumQ_l, p_sorted, eqD_pair, rngQ_i, ok_tand, ok_tor, ok_tnot, tst_var, tst_own, tst_k, tst_prim, tst_ite, tst_chain, tst_call, tst_cidx, ok_bind, ok_ok, ok_no, ok_guard, Res.bind_ok, eqD_int, eqD_bool, eqD_str, eqD_nil, eqD_none, konV, setAll, seqQ_nx, seqQ_rt, seqQ_bk, seqQ_ct, ok_cons, ok_nil, p_add, p_addL, p_addT, p_addS, p_sub, p_mul, p_fdiv, p_mod, p_pow, p_neg, p_eq, p_ne, p_lt, p_le, p_gt, p_ge, p_in, p_notin, p_isN, p_notN, p_isB, p_notB, p_idxL, p_idxT, p_lst0, p_lst1, p_lst2, p_lst3, p_lst4, p_lst5, p_lst6, p_lst7, p_tup0, p_tup1, p_tup2, p_tup3, p_tup4, p_tup5, p_lenL, p_lenT, p_listL, p_listT, p_tupleL, p_tupleT, p_abs, p_max2, p_min2, p_max4, p_intI, p_intB, p_isi, p_rev, p_revT, ok_popS, popQ_o, t_b, t_i, t_n, a_n, a_t, a_l, sM_t, sM_f, sA_0, sA_1, wE_0, wE_1, List.map_cons, List.map_nil, List.set_cons_zero, List.set_cons_succ, List.getElem?_cons_zero, List.getElem?_cons_succ, Nat.reduceAdd, at0, at1, at2, at3, at4, at5, at6, ix0, ix1, ix2, List.length_cons, List.length_nil, List.nil_append, decide_eq_true_eq, onFin_rt, onFin_nx, Bool.not_eq_true', decide_eq_false_iff_not, Int.reducePow, Int.reduceNeg, Int.reduceLT, Int.reduceLE, Nat.reduceLeDiff, Int.reduceToNat, Nat.reducePow, Int.reduceSub, Int.reduceAdd, Int.reduceMul, true_and, and_true, true_or, or_true, decide_true, and_self, if_true, if_false, Bool.false_eq_true, Bool.true_eq_false, reduceCtorEq, not_false_eq_true, not_true_eq_false, reduceIte, p_dictT, dixQ_t, p_sortT, p_ninT, p_dictP, p_tupP, p_dn, p_getT, ok_dput, dputQ_o, ok_dsd, dsdQ_o, frzQ_t, frzQ_k, sM_d, sM_k, ok_dcomp, ditQ_d, ok_disp, dspQ_d, ok_kput, kputQ_o, p_dictK, p_ninK, p_getK, ok_parT, s_reached_4, es]
    refine k F h.nd (fun z => ⟨h.wk z, fun ⟨p, hp⟩ => ?_⟩) hFl
    exact walk_in h.st (fun u huF => by
      rcases h.a u huF with c | c
      · cases c
      · exact c) _ z p rfl hp
  · rw [List.concat_eq_append] at *
    have hne : (ini ++ [x]).isEmpty = false := by simp
    have hxF := h.sub x (by simp)
    obtain ⟨r, hr⟩ := rof_some (hnm x hxF)
    have enx := nxo_of hr
    have h2 : r.nx.length ≤ 2 := (g.nx r (rof_mem hr).1).1
    have lt : lookK (tabD pl) (Sum.inr x) = some (.tuple [.int r.tk, .tuple (r.nx.map .str)]) := by rw [look_tab, hr]; rfl
    rw [hne]
    simp only [ok_asg, ok_par, ok_ownS, ok_newc, newQ_l, ok_cset, csetQ0, ok_app, appQ_o, ok_ins, insQ_o, ok_frz, frzQ_o, frzQ_v, ok_iteS, ok_for, ok_whil, ok_ret, ok_retN, ok_expr, ok_brk, ok_cont, ok_pass, ok_var, ok_own, ok_k, ok_glob, ok_gdk, gdkQ_s, ok_callK, kwQ_s, arF, Option.bind_some, Option.map_some, ok_dct, ok_dix, dixQ_k, tst_callK, ok_lset, lsetQ_o, p_rep, ok_prim, ok_and, ok_or, ok_not, ok_iteE, ok_chain, ok_call, ok_cidx, cidQ0, ok_comp, ok_esnil, ok_escons, ok_t0, ok_t1, ok_seq, seqQQ_l, seqQQ_t, seqQQ_s, ok_rng, ok_rng2, ok_zip, zipQ_l, zipQ_t, ok_enum, enumQ_l, p_sorted, eqD_pair, rngQ_i, ok_tand, ok_tor, ok_tnot, tst_var, tst_own, tst_k, tst_prim, tst_ite, tst_chain, tst_call, tst_cidx, ok_bind, ok_ok, ok_no, ok_guard, Res.bind_ok, eqD_int, eqD_bool, eqD_str, eqD_nil, eqD_none, konV, setAll, seqQ_nx, seqQ_rt, seqQ_bk, seqQ_ct, ok_cons, ok_nil, p_add, p_addL, p_addT, p_addS, p_sub, p_mul, p_fdiv, p_mod, p_pow, p_neg, p_eq, p_ne, p_lt, p_le, p_gt, p_ge, p_in, p_notin, p_isN, p_notN, p_isB, p_notB, p_idxL, p_idxT, p_lst0, p_lst1, p_lst2, p_lst3, p_lst4, p_lst5, p_lst6, p_lst7, p_tup0, p_tup1, p_tup2, p_tup3, p_tup4, p_tup5, p_lenL, p_lenT, p_listL, p_listT, p_tupleL, p_tupleT, p_abs, p_max2, p_min2, p_max4, p_intI, p_intB, p_isi, p_rev, p_revT, ok_popS, popQ_o, t_b, t_i, t_n, a_n, a_t, a_l, sM_t, sM_f, sA_0, sA_1, wE_0, wE_1, List.map_cons, List.map_nil, List.set_cons_zero, List.set_cons_succ, List.getElem?_cons_zero, List.getElem?_cons_succ, Nat.reduceAdd, at0, at1, at2, at3, at4, at5, at6, ix0, ix1, ix2, List.length_cons, List.length_nil, List.nil_append, decide_eq_true_eq, onFin_rt, onFin_nx, Bool.not_eq_true', decide_eq_false_iff_not, Int.reducePow, Int.reduceNeg, Int.reduceLT, Int.reduceLE, Nat.reduceLeDiff, Int.reduceToNat, Nat.reducePow, Int.reduceSub, Int.reduceAdd, Int.reduceMul, true_and, and_true, true_or, or_true, decide_true, and_self, if_true, if_false, Bool.false_eq_true, Bool.true_eq_false, reduceCtorEq, not_false_eq_true, not_true_eq_false, reduceIte, p_dictT, dixQ_t, p_sortT, p_ninT, p_dictP, p_tupP, p_dn, p_getT, ok_dput, dputQ_o, ok_dsd, dsdQ_o, frzQ_t, frzQ_k, sM_d, sM_k, ok_dcomp, ditQ_d, ok_disp, dspQ_d, ok_kput, kputQ_o, p_dictK, p_ninK, p_getK, ok_parT, Bool.not_false]
    unfold b_reached_3
    have hfp : ∀ {C : Cxt} {t : TG} {b : Ss} {env : R.Env} {cs : Cells} {O : Out → Prop}, Ok (loopL (lstep C t b) (r.nx.map .str) (env.set 4 (.ol (ini.map .str))) cs) O → fpQ C t 4 1 b env cs O (some (.ol ((ini ++ [x]).map .str))) (some (.v (.k (tabD pl)))) := fun {C t b env cs O} q => by
      unfold fpQ
      have e1 : ((ini ++ [x]).map PyData.str).getLast? = some (.str x) := by rw [List.map_append]; simp
      have e2 : ((ini ++ [x]).map PyData.str).dropLast = ini.map .str := by rw [List.map_append]; simp
      simp only [e1, e2, kd_s, lt]
      exact q
    rw [ok_cons]
    unfold s_reached_3_0
    rw [ok_forPop]
    refine hfp ?_
    refine ok_loopL (fun i env cs2 => ∃ (F2 more : List Str) (s5 : Sl), env = [.v (.d (.tuple (pl.map rwD))), .v (.d (.str u0)), .v (.k (tabD pl)), .ok (encF F2), .ol ((ini ++ more).map .str), s5] ∧ cs2 = cs' ∧ F2.Nodup ∧ (∀ z ∈ F, z ∈ F2) ∧ (∀ z ∈ F2, z ∈ F ∨ z ∈ more) ∧ (∀ z ∈ more, z ∈ F2 ∧ ∃ p, K15.W pl u0 z p) ∧ (∀ v ∈ r.nx.take i, v ∈ F2) ∧ F2.length = F.length + more.length) _ 0 _ _ ⟨F, [], _, by rw [List.append_nil]; rfl, rfl, h.nd, fun z hz => hz, fun z hz => .inl hz, fun z hz => (by cases hz), fun z hz => by simp at hz, rfl⟩ ?_ ?_
    · rintro i y env cs2 hx ⟨F2, more, s5, rfl, rfl, n2, f1, f2, f3, f4, f5⟩
      rw [List.getElem?_map] at hx
      obtain ⟨v, hv, rfl⟩ := Option.map_eq_some_iff.mp hx
      have hvm : v ∈ nxo pl x := by rw [enx]; exact List.mem_of_getElem? hv
      rw [Nat.zero_add] at f4 ⊢
      have tk : r.nx.take (i + 1) = r.nx.take i ++ [v] := by rw [List.take_succ, hv]; rfl
      have hF2l : F2.length ≤ 10 := by
        have := sub_len n2 (l := pl.map (·.nm)) fun z hz => by
          rcases f2 z hz with c | c
          · exact hnm z c
          · obtain ⟨p, hp⟩ := (f3 z c).2
            obtain ⟨a, rfl⟩ := hp.form
            exact hp.nodes g hu z (by simp)
        rw [List.length_map] at this
        have := g.len
        omega
      have hil : ini.length ≤ 10 := by
        have := h.len
        rw [List.length_append] at this
        omega
      rw [ok_lstep]
      unfold b_reached_3_0
      simp only [ok_asg, ok_par, ok_ownS, ok_newc, newQ_l, ok_cset, csetQ0, ok_app, appQ_o, ok_ins, insQ_o, ok_frz, frzQ_o, frzQ_v, ok_iteS, ok_for, ok_whil, ok_ret, ok_retN, ok_expr, ok_brk, ok_cont, ok_pass, ok_var, ok_own, ok_k, ok_glob, ok_gdk, gdkQ_s, ok_callK, kwQ_s, arF, Option.bind_some, Option.map_some, ok_dct, ok_dix, dixQ_k, tst_callK, ok_lset, lsetQ_o, p_rep, ok_prim, ok_and, ok_or, ok_not, ok_iteE, ok_chain, ok_call, ok_cidx, cidQ0, ok_comp, ok_esnil, ok_escons, ok_t0, ok_t1, ok_seq, seqQQ_l, seqQQ_t, seqQQ_s, ok_rng, ok_rng2, ok_zip, zipQ_l, zipQ_t, ok_enum, enumQ_l, p_sorted, eqD_pair, rngQ_i, ok_tand, ok_tor, ok_tnot, tst_var, tst_own, tst_k, tst_prim, tst_ite, tst_chain, tst_call, tst_cidx, ok_bind, ok_ok, ok_no, ok_guard, Res.bind_ok, eqD_int, eqD_bool, eqD_str, eqD_nil, eqD_none, konV, setAll, seqQ_nx, seqQ_rt, seqQ_bk, seqQ_ct, ok_cons, ok_nil, p_add, p_addL, p_addT, p_addS, p_sub, p_mul, p_fdiv, p_mod, p_pow, p_neg, p_eq, p_ne, p_lt, p_le, p_gt, p_ge, p_in, p_notin, p_isN, p_notN, p_isB, p_notB, p_idxL, p_idxT, p_lst0, p_lst1, p_lst2, p_lst3, p_lst4, p_lst5, p_lst6, p_lst7, p_tup0, p_tup1, p_tup2, p_tup3, p_tup4, p_tup5, p_lenL, p_lenT, p_listL, p_listT, p_tupleL, p_tupleT, p_abs, p_max2, p_min2, p_max4, p_intI, p_intB, p_isi, p_rev, p_revT, ok_popS, popQ_o, t_b, t_i, t_n, a_n, a_t, a_l, sM_t, sM_f, sA_0, sA_1, wE_0, wE_1, List.map_cons, List.map_nil, List.set_cons_zero, List.set_cons_succ, List.getElem?_cons_zero, List.getElem?_cons_succ, Nat.reduceAdd, at0, at1, at2, at3, at4, at5, at6, ix0, ix1, ix2, List.length_cons, List.length_nil, List.nil_append, decide_eq_true_eq, onFin_rt, onFin_nx, Bool.not_eq_true', decide_eq_false_iff_not, Int.reducePow, Int.reduceNeg, Int.reduceLT, Int.reduceLE, Nat.reduceLeDiff, Int.reduceToNat, Nat.reducePow, Int.reduceSub, Int.reduceAdd, Int.reduceMul, true_and, and_true, true_or, or_true, decide_true, and_self, if_true, if_false, Bool.false_eq_true, Bool.true_eq_false, reduceCtorEq, not_false_eq_true, not_true_eq_false, reduceIte, p_dictT, dixQ_t, p_sortT, p_ninT, p_dictP, p_tupP, p_dn, p_getT, ok_dput, dputQ_o, ok_dsd, dsdQ_o, frzQ_t, frzQ_k, sM_d, sM_k, ok_dcomp, ditQ_d, ok_disp, dspQ_d, ok_kput, kputQ_o, p_dictK, p_ninK, p_getK, ok_parT, s_reached_3_0_0, look_encF]
      by_cases hm : v ∈ F2
      · rw [if_neg fun q => q hm]
        unfold b_reached_3_0_0e
        simp only [ok_asg, ok_par, ok_ownS, ok_newc, newQ_l, ok_cset, csetQ0, ok_app, appQ_o, ok_ins, insQ_o, ok_frz, frzQ_o, frzQ_v, ok_iteS, ok_for, ok_whil, ok_ret, ok_retN, ok_expr, ok_brk, ok_cont, ok_pass, ok_var, ok_own, ok_k, ok_glob, ok_gdk, gdkQ_s, ok_callK, kwQ_s, arF, Option.bind_some, Option.map_some, ok_dct, ok_dix, dixQ_k, tst_callK, ok_lset, lsetQ_o, p_rep, ok_prim, ok_and, ok_or, ok_not, ok_iteE, ok_chain, ok_call, ok_cidx, cidQ0, ok_comp, ok_esnil, ok_escons, ok_t0, ok_t1, ok_seq, seqQQ_l, seqQQ_t, seqQQ_s, ok_rng, ok_rng2, ok_zip, zipQ_l, zipQ_t, ok_enum, enumQ_l, p_sorted, eqD_pair, rngQ_i, ok_tand, ok_tor, ok_tnot, tst_var, tst_own, tst_k, tst_prim, tst_ite, tst_chain, tst_call, tst_cidx, ok_bind, ok_ok, ok_no, ok_guard, Res.bind_ok, eqD_int, eqD_bool, eqD_str, eqD_nil, eqD_none, konV, setAll, seqQ_nx, seqQ_rt, seqQ_bk, seqQ_ct, ok_cons, ok_nil, p_add, p_addL, p_addT, p_addS, p_sub, p_mul, p_fdiv, p_mod, p_pow, p_neg, p_eq, p_ne, p_lt, p_le, p_gt, p_ge, p_in, p_notin, p_isN, p_notN, p_isB, p_notB, p_idxL, p_idxT, p_lst0, p_lst1, p_lst2, p_lst3, p_lst4, p_lst5, p_lst6, p_lst7, p_tup0, p_tup1, p_tup2, p_tup3, p_tup4, p_tup5, p_lenL, p_lenT, p_listL, p_listT, p_tupleL, p_tupleT, p_abs, p_max2, p_min2, p_max4, p_intI, p_intB, p_isi, p_rev, p_revT, ok_popS, popQ_o, t_b, t_i, t_n, a_n, a_t, a_l, sM_t, sM_f, sA_0, sA_1, wE_0, wE_1, List.map_cons, List.map_nil, List.set_cons_zero, List.set_cons_succ, List.getElem?_cons_zero, List.getElem?_cons_succ, Nat.reduceAdd, at0, at1, at2, at3, at4, at5, at6, ix0, ix1, ix2, List.length_cons, List.length_nil, List.nil_append, decide_eq_true_eq, onFin_rt, onFin_nx, Bool.not_eq_true', decide_eq_false_iff_not, Int.reducePow, Int.reduceNeg, Int.reduceLT, Int.reduceLE, Nat.reduceLeDiff, Int.reduceToNat, Nat.reducePow, Int.reduceSub, Int.reduceAdd, Int.reduceMul, true_and, and_true, true_or, or_true, decide_true, and_self, if_true, if_false, Bool.false_eq_true, Bool.true_eq_false, reduceCtorEq, not_false_eq_true, not_true_eq_false, reduceIte, p_dictT, dixQ_t, p_sortT, p_ninT, p_dictP, p_tupP, p_dn, p_getT, ok_dput, dputQ_o, ok_dsd, dsdQ_o, frzQ_t, frzQ_k, sM_d, sM_k, ok_dcomp, ditQ_d, ok_disp, dspQ_d, ok_kput, kputQ_o, p_dictK, p_ninK, p_getK, ok_parT]
        refine ⟨F2, more, _, rfl, n2, f1, f2, f3, fun w hw => ?_, f5⟩
        rw [tk] at hw
        rcases List.mem_append.mp hw with hw | hw
        · exact f4 w hw
        · rw [List.mem_singleton.mp hw]; exact hm
      · rw [if_pos hm]
        unfold b_reached_3_0_0t
        rw [ok_cons]
        simp only [ok_asg, ok_par, ok_ownS, ok_newc, newQ_l, ok_cset, csetQ0, ok_app, appQ_o, ok_ins, insQ_o, ok_frz, frzQ_o, frzQ_v, ok_iteS, ok_for, ok_whil, ok_ret, ok_retN, ok_expr, ok_brk, ok_cont, ok_pass, ok_var, ok_own, ok_k, ok_glob, ok_gdk, gdkQ_s, ok_callK, kwQ_s, arF, Option.bind_some, Option.map_some, ok_dct, ok_dix, dixQ_k, tst_callK, ok_lset, lsetQ_o, p_rep, ok_prim, ok_and, ok_or, ok_not, ok_iteE, ok_chain, ok_call, ok_cidx, cidQ0, ok_comp, ok_esnil, ok_escons, ok_t0, ok_t1, ok_seq, seqQQ_l, seqQQ_t, seqQQ_s, ok_rng, ok_rng2, ok_zip, zipQ_l, zipQ_t, ok_enum, enumQ_l, p_sorted, eqD_pair, rngQ_i, ok_tand, ok_tor, ok_tnot, tst_var, tst_own, tst_k, tst_prim, tst_ite, tst_chain, tst_call, tst_cidx, ok_bind, ok_ok, ok_no, ok_guard, Res.bind_ok, eqD_int, eqD_bool, eqD_str, eqD_nil, eqD_none, konV, setAll, seqQ_nx, seqQ_rt, seqQ_bk, seqQ_ct, ok_cons, ok_nil, p_add, p_addL, p_addT, p_addS, p_sub, p_mul, p_fdiv, p_mod, p_pow, p_neg, p_eq, p_ne, p_lt, p_le, p_gt, p_ge, p_in, p_notin, p_isN, p_notN, p_isB, p_notB, p_idxL, p_idxT, p_lst0, p_lst1, p_lst2, p_lst3, p_lst4, p_lst5, p_lst6, p_lst7, p_tup0, p_tup1, p_tup2, p_tup3, p_tup4, p_tup5, p_lenL, p_lenT, p_listL, p_listT, p_tupleL, p_tupleT, p_abs, p_max2, p_min2, p_max4, p_intI, p_intB, p_isi, p_rev, p_revT, ok_popS, popQ_o, t_b, t_i, t_n, a_n, a_t, a_l, sM_t, sM_f, sA_0, sA_1, wE_0, wE_1, List.map_cons, List.map_nil, List.set_cons_zero, List.set_cons_succ, List.getElem?_cons_zero, List.getElem?_cons_succ, Nat.reduceAdd, at0, at1, at2, at3, at4, at5, at6, ix0, ix1, ix2, List.length_cons, List.length_nil, List.nil_append, decide_eq_true_eq, onFin_rt, onFin_nx, Bool.not_eq_true', decide_eq_false_iff_not, Int.reducePow, Int.reduceNeg, Int.reduceLT, Int.reduceLE, Nat.reduceLeDiff, Int.reduceToNat, Nat.reducePow, Int.reduceSub, Int.reduceAdd, Int.reduceMul, true_and, and_true, true_or, or_true, decide_true, and_self, if_true, if_false, Bool.false_eq_true, Bool.true_eq_false, reduceCtorEq, not_false_eq_true, not_true_eq_false, reduceIte, p_dictT, dixQ_t, p_sortT, p_ninT, p_dictP, p_tupP, p_dn, p_getT, ok_dput, dputQ_o, ok_dsd, dsdQ_o, frzQ_t, frzQ_k, sM_d, sM_k, ok_dcomp, ditQ_d, ok_disp, dspQ_d, ok_kput, kputQ_o, p_dictK, p_ninK, p_getK, ok_parT, s_reached_3_0_0t_0]
        refine ⟨line_le (by unfold encF; rw [List.length_map]; omega), ?_⟩
        rw [put_encF hm]
        simp only [ok_asg, ok_par, ok_ownS, ok_newc, newQ_l, ok_cset, csetQ0, ok_app, appQ_o, ok_ins, insQ_o, ok_frz, frzQ_o, frzQ_v, ok_iteS, ok_for, ok_whil, ok_ret, ok_retN, ok_expr, ok_brk, ok_cont, ok_pass, ok_var, ok_own, ok_k, ok_glob, ok_gdk, gdkQ_s, ok_callK, kwQ_s, arF, Option.bind_some, Option.map_some, ok_dct, ok_dix, dixQ_k, tst_callK, ok_lset, lsetQ_o, p_rep, ok_prim, ok_and, ok_or, ok_not, ok_iteE, ok_chain, ok_call, ok_cidx, cidQ0, ok_comp, ok_esnil, ok_escons, ok_t0, ok_t1, ok_seq, seqQQ_l, seqQQ_t, seqQQ_s, ok_rng, ok_rng2, ok_zip, zipQ_l, zipQ_t, ok_enum, enumQ_l, p_sorted, eqD_pair, rngQ_i, ok_tand, ok_tor, ok_tnot, tst_var, tst_own, tst_k, tst_prim, tst_ite, tst_chain, tst_call, tst_cidx, ok_bind, ok_ok, ok_no, ok_guard, Res.bind_ok, eqD_int, eqD_bool, eqD_str, eqD_nil, eqD_none, konV, setAll, seqQ_nx, seqQ_rt, seqQ_bk, seqQ_ct, ok_cons, ok_nil, p_add, p_addL, p_addT, p_addS, p_sub, p_mul, p_fdiv, p_mod, p_pow, p_neg, p_eq, p_ne, p_lt, p_le, p_gt, p_ge, p_in, p_notin, p_isN, p_notN, p_isB, p_notB, p_idxL, p_idxT, p_lst0, p_lst1, p_lst2, p_lst3, p_lst4, p_lst5, p_lst6, p_lst7, p_tup0, p_tup1, p_tup2, p_tup3, p_tup4, p_tup5, p_lenL, p_lenT, p_listL, p_listT, p_tupleL, p_tupleT, p_abs, p_max2, p_min2, p_max4, p_intI, p_intB, p_isi, p_rev, p_revT, ok_popS, popQ_o, t_b, t_i, t_n, a_n, a_t, a_l, sM_t, sM_f, sA_0, sA_1, wE_0, wE_1, List.map_cons, List.map_nil, List.set_cons_zero, List.set_cons_succ, List.getElem?_cons_zero, List.getElem?_cons_succ, Nat.reduceAdd, at0, at1, at2, at3, at4, at5, at6, ix0, ix1, ix2, List.length_cons, List.length_nil, List.nil_append, decide_eq_true_eq, onFin_rt, onFin_nx, Bool.not_eq_true', decide_eq_false_iff_not, Int.reducePow, Int.reduceNeg, Int.reduceLT, Int.reduceLE, Nat.reduceLeDiff, Int.reduceToNat, Nat.reducePow, Int.reduceSub, Int.reduceAdd, Int.reduceMul, true_and, and_true, true_or, or_true, decide_true, and_self, if_true, if_false, Bool.false_eq_true, Bool.true_eq_false, reduceCtorEq, not_false_eq_true, not_true_eq_false, reduceIte, p_dictT, dixQ_t, p_sortT, p_ninT, p_dictP, p_tupP, p_dn, p_getT, ok_dput, dputQ_o, ok_dsd, dsdQ_o, frzQ_t, frzQ_k, sM_d, sM_k, ok_dcomp, ditQ_d, ok_disp, dspQ_d, ok_kput, kputQ_o, p_dictK, p_ninK, p_getK, ok_parT, s_reached_3_0_0t_1, List.length_map, List.length_append]
        refine ⟨line_le (by omega), F2 ++ [v], more ++ [v], .v (.d (.str v)), by simp, ?_, fun z hz => List.mem_append_left _ (f1 z hz), fun z hz => ?_, fun z hz => ?_, fun w hw => ?_, by rw [List.length_append, List.length_append, f5]; simp only [List.length_cons, List.length_nil]; omega⟩
        · rw [List.nodup_append]
          exact ⟨n2, by simp, fun a ha b hb e => hm (by rw [← List.mem_singleton.mp hb, ← e]; exact ha)⟩
        · rcases List.mem_append.mp hz with hz | hz
          · exact (f2 z hz).imp id fun q => List.mem_append_left _ q
          · exact .inr (List.mem_append_right _ hz)
        · rcases List.mem_append.mp hz with hz | hz
          · exact ⟨List.mem_append_left _ (f3 z hz).1, (f3 z hz).2⟩
          · obtain ⟨p, hp⟩ := h.wk x hxF
            rw [List.mem_singleton.mp hz]
            exact ⟨by simp, _, (hp.snoc hvm).1⟩
        · rw [tk] at hw
          rcases List.mem_append.mp hw with hw | hw
          · exact List.mem_append_left _ (f4 w hw)
          · rw [List.mem_singleton.mp hw]; simp
    · rintro env cs2 ⟨F2, more, s5, rfl, rfl, n2, f1, f2, f3, f4, f5⟩
      rw [List.length_map, Nat.zero_add, List.take_length] at f4
      simp only [ok_asg, ok_par, ok_ownS, ok_newc, newQ_l, ok_cset, csetQ0, ok_app, appQ_o, ok_ins, insQ_o, ok_frz, frzQ_o, frzQ_v, ok_iteS, ok_for, ok_whil, ok_ret, ok_retN, ok_expr, ok_brk, ok_cont, ok_pass, ok_var, ok_own, ok_k, ok_glob, ok_gdk, gdkQ_s, ok_callK, kwQ_s, arF, Option.bind_some, Option.map_some, ok_dct, ok_dix, dixQ_k, tst_callK, ok_lset, lsetQ_o, p_rep, ok_prim, ok_and, ok_or, ok_not, ok_iteE, ok_chain, ok_call, ok_cidx, cidQ0, ok_comp, ok_esnil, ok_escons, ok_t0, ok_t1, ok_seq, seqQQ_l, seqQQ_t, seqQQ_s, ok_rng, ok_rng2, ok_zip, zipQ_l, zipQ_t, ok_enum, enumQ_l, p_sorted, eqD_pair, rngQ_i, ok_tand, ok_tor, ok_tnot, tst_var, tst_own, tst_k, tst_prim, tst_ite, tst_chain, tst_call, tst_cidx, ok_bind, ok_ok, ok_no, ok_guard, Res.bind_ok, eqD_int, eqD_bool, eqD_str, eqD_nil, eqD_none, konV, setAll, seqQ_nx, seqQ_rt, seqQ_bk, seqQ_ct, ok_cons, ok_nil, p_add, p_addL, p_addT, p_addS, p_sub, p_mul, p_fdiv, p_mod, p_pow, p_neg, p_eq, p_ne, p_lt, p_le, p_gt, p_ge, p_in, p_notin, p_isN, p_notN, p_isB, p_notB, p_idxL, p_idxT, p_lst0, p_lst1, p_lst2, p_lst3, p_lst4, p_lst5, p_lst6, p_lst7, p_tup0, p_tup1, p_tup2, p_tup3, p_tup4, p_tup5, p_lenL, p_lenT, p_listL, p_listT, p_tupleL, p_tupleT, p_abs, p_max2, p_min2, p_max4, p_intI, p_intB, p_isi, p_rev, p_revT, ok_popS, popQ_o, t_b, t_i, t_n, a_n, a_t, a_l, sM_t, sM_f, sA_0, sA_1, wE_0, wE_1, List.map_cons, List.map_nil, List.set_cons_zero, List.set_cons_succ, List.getElem?_cons_zero, List.getElem?_cons_succ, Nat.reduceAdd, at0, at1, at2, at3, at4, at5, at6, ix0, ix1, ix2, List.length_cons, List.length_nil, List.nil_append, decide_eq_true_eq, onFin_rt, onFin_nx, Bool.not_eq_true', decide_eq_false_iff_not, Int.reducePow, Int.reduceNeg, Int.reduceLT, Int.reduceLE, Nat.reduceLeDiff, Int.reduceToNat, Nat.reducePow, Int.reduceSub, Int.reduceAdd, Int.reduceMul, true_and, and_true, true_or, or_true, decide_true, and_self, if_true, if_false, Bool.false_eq_true, Bool.true_eq_false, reduceCtorEq, not_false_eq_true, not_true_eq_false, reduceIte, p_dictT, dixQ_t, p_sortT, p_ninT, p_dictP, p_tupP, p_dn, p_getT, ok_dput, dputQ_o, ok_dsd, dsdQ_o, frzQ_t, frzQ_k, sM_d, sM_k, ok_dcomp, ditQ_d, ok_disp, dspQ_d, ok_kput, kputQ_o, p_dictK, p_ninK, p_getK, ok_parT]
      have hF2 : Fnd pl u0 F2 (ini ++ more) := by
        refine ⟨n2, f1 _ h.st, fun z hz => ?_, fun z hz => ?_, fun u hz => ?_, ?_⟩
        · rcases f2 z hz with c | c
          · exact h.wk z c
          · exact (f3 z c).2
        · rcases List.mem_append.mp hz with c | c
          · exact f1 z (h.sub z (by simp [c]))
          · exact (f3 z c).1
        · rcases f2 u hz with c | c
          · rcases h.a u c with d | d
            · rcases List.mem_append.mp d with d | d
              · exact .inl (List.mem_append_left _ d)
              · rw [List.mem_singleton.mp d, enx]
                exact .inr f4
            · exact .inr fun v hv => f1 v (d v hv)
          · exact .inl (List.mem_append_right _ c)
        · have := h.len
          rw [List.length_append] at this ⊢
          simp only [List.length_cons, List.length_nil] at this
          omega
      refine ⟨_, ?_, F2, ini ++ more, _, rfl, hF2, rfl⟩
      have hl2 := fnd_len g hu hF2
      rw [List.length_append, List.length_append]
      simp only [List.length_cons, List.length_nil]
      omega
theorem p_sl10T {xs : List PyData} {a : Int} : primF .sl10 [.d (.tuple xs), .d (.int a)] = .ok (.d (.tuple (cutD xs (some a) none))) := nr rfl
theorem p_sl01T {xs : List PyData} {a : Int} : primF .sl01 [.d (.tuple xs), .d (.int a)] = .ok (.d (.tuple (cutD xs none (some a)))) := nr rfl
theorem cut_m1 {xs : List PyData} (h : 1 ≤ xs.length) : cutD xs none (some (-1)) = xs.dropLast := by
  have e1 : HT.sIx xs.length xs.length (some (-1)) = xs.length - 1 := by
    show (if (-1 : Int) < 0 then ((-1 : Int) + (xs.length : Int)).toNat else min (-1 : Int).toNat xs.length) = _
    rw [if_pos (by omega)]
    omega
  have e2 : HT.sIx xs.length 0 none = 0 := rfl
  unfold cutD
  rw [e1, e2, List.drop_zero, Nat.sub_zero, List.dropLast_eq_take]
theorem cm_tstrs {xs : List Str} (h : ∀ x ∈ xs, PyData.strOk x = true) : Cm 1 (.tuple (xs.map .str)) := fun y hy => by
  obtain ⟨x, hx, rfl⟩ := List.mem_map.mp hy
  exact h x hx
theorem eqv_str (a b : Str) : PyData.eqv (.str a) (.str b) = decide (a = b) := by
  rw [PyData.eqv]
  by_cases h : a = b
  · subst h; simp
  · rw [decide_eq_false h]
    exact beq_eq_false_iff_ne.mpr h
theorem any_str (z : Str) (xs : List Str) : ((xs.map PyData.str).any fun y => PyData.eqv y (.str z)) = decide (z ∈ xs) := by
  rw [List.any_map]
  induction xs with
  | nil => simp
  | cons x xs ih =>
    rw [List.any_cons, ih]
    show (PyData.eqv (.str x) (.str z) || decide (z ∈ xs)) = _
    rw [eqv_str, Bool.eq_iff_iff]
    simp only [Bool.or_eq_true, decide_eq_true_eq, List.mem_cons]
    exact ⟨fun h => h.imp (fun q => q.symm) id, fun h => h.imp (fun q => q.symm) id⟩
theorem in_strs {z : Str} {xs : List Str} (hz : PyData.strOk z = true) (hx : ∀ x ∈ xs, PyData.strOk x = true) : inD (.str z) (.list (xs.map .str)) = .ok (decide (z ∈ xs)) := by
  have h1 : SeqAt.shaped (.str z) = true := cm_shaped (n := 1) (show Cm 1 (.str z) from hz) (by decide)
  have h2 := cm_shaped (cm_strs hx) (by decide)
  show (if (SeqAt.shaped (.str z) && SeqAt.shaped (.list (xs.map .str))) = true then Res.ok ((xs.map PyData.str).any fun y => PyData.eqv y (.str z)) else .no) = _
  rw [h1, h2, Bool.true_and, if_pos rfl, any_str]
theorem in_tstrs {z : Str} {xs : List Str} (hz : PyData.strOk z = true) (hx : ∀ x ∈ xs, PyData.strOk x = true) : inD (.str z) (.tuple (xs.map .str)) = .ok (decide (z ∈ xs)) := by
  have h1 : SeqAt.shaped (.str z) = true := cm_shaped (n := 1) (show Cm 1 (.str z) from hz) (by decide)
  have h2 := cm_shaped (cm_tstrs hx) (by decide)
  show (if (SeqAt.shaped (.str z) && SeqAt.shaped (.tuple (xs.map .str))) = true then Res.ok ((xs.map PyData.str).any fun y => PyData.eqv y (.str z)) else .no) = _
  rw [h1, h2, Bool.true_and, if_pos rfl, any_str]
theorem ints_of : ∀ ns : List Int, intsD (ns.map .int) = some ns
  | [] => rfl
  | n :: ns => by rw [List.map_cons, intsD, ints_of ns]; rfl
theorem strs_of : ∀ ns : List Str, strsD (ns.map .str) = some ns
  | [] => rfl
  | n :: ns => by rw [List.map_cons, strsD, strs_of ns]; rfl
theorem zipL_get2 : ∀ (xs ys : List PyData) (i : Nat) (x : PyData), (zipL xs ys)[i]? = some x → ∃ a b, xs[i]? = some a ∧ ys[i]? = some b ∧ x = .tuple [a, b]
  | [], _, i, x, h => by simp [zipL] at h
  | _ :: _, [], i, x, h => by simp [zipL] at h
  | a :: xs, b :: ys, 0, x, h => by simp [zipL] at h; exact ⟨a, b, rfl, rfl, h.symm⟩
  | a :: xs, b :: ys, i + 1, x, h => by
    obtain ⟨c, d, h1, h2, h3⟩ := zipL_get2 xs ys i x (by simpa [zipL] using h)
    exact ⟨c, d, by simpa using h1, by simpa using h2, h3⟩
theorem ed_at {pl : List Rw} : ∀ (p : List Str) (i : Nat) (a b : Str), ed pl p → p[i]? = some a → p[i + 1]? = some b → b ∈ nxo pl a
  | [], i, a, b, _, h, _ => by simp at h
  | [x], i, a, b, _, _, h => by simp at h
  | x :: y :: r, 0, a, b, he, h1, h2 => by
    simp at h1 h2
    subst h1 h2
    exact he.1
  | x :: y :: r, i + 1, a, b, he, h1, h2 => ed_at (y :: r) i a b he.2 (by simpa using h1) (by simpa using h2)
/-- what the two other plans are to the plan -/
structure Pls (pl more slow : List Rw) : Prop where
  g : GdP pl
  gm : GdP more
  gs : GdP slow
  nm : more.map (·.nm) = pl.map (·.nm)
  ns : slow.map (·.nm) = pl.map (·.nm)
  mx : ∀ x, ∀ y ∈ nxo pl x, y ∈ nxo more x
  mt : ∀ x, tko more x = tko pl x
  sx : ∀ x, nxo slow x = nxo pl x
  st : ∀ x, tko pl x ≤ tko slow x
theorem reach_ok {W n : Nat} {pl : List Rw} {u0 : Str} {cs : Cells} {Q : MV × Cells → Prop} (hW : 100 ≤ W) (g : GdP pl) (hu : u0 ∈ pl.map (·.nm)) (k : ∀ F : List Str, (∀ z, z ∈ F ↔ ∃ p, K15.W pl u0 z p) → F.Pairwise (fun a b => strLe a b = true) → F.Nodup → F.length ≤ 10 → (∀ z ∈ F, PyData.strOk z = true) → Q (.d (.list (F.map .str)), cs)) : Ok (R.run Ds gl W (n + 2) i_reached [.d (.tuple (pl.map rwD)), .d (.str u0)] cs) Q := by
  refine reached_ok hW g hu fun F h1 h2 h3 => ?_
  have hp := sortS_perm F
  refine k (sortS F) (fun z => hp.mem_iff.trans (h2 z)) (sortS_pair F) (hp.nodup_iff.mpr h1) (by rw [hp.length_eq]; exact h3) fun z hz => ?_
  obtain ⟨p, hw⟩ := (h2 z).mp (hp.mem_iff.mp hz)
  obtain ⟨a, rfl⟩ := hw.form
  exact g.ok z (hw.nodes g hu z (by simp))
theorem there_ok {W n : Nat} {pl more slow : List Rw} {u0 v : Str} {s0 s2 s5 s6 s7 s8 s9 s10 s11 s16 s17 s18 s19 s20 : Sl} {cs : Cells} {O : Out → Prop} (hW : 1100 ≤ W) (P : Pls pl more slow) (hu : u0 ∈ pl.map (·.nm)) (hv : ∃ p, K15.W pl u0 v p)
    (k : ∀ s16 s17 s18 s19, O (.nx, [s0, .v (.r 0), s2, .v (.d (.tuple (pl.map rwD))), .v (.k (tabD pl)), s5, s6, s7, s8, s9, s10, s11, .v (.d (.tuple (more.map rwD))), .v (.d (.tuple (slow.map rwD))), .v (.d (.str u0)), .v (.d (.str v)), s16, s17, s18, s19, s20], cs)) :
    Ok (evSs ⟨R.run Ds gl W (n + 2), gl, W⟩ b_law_1_12 [s0, .v (.r 0), s2, .v (.d (.tuple (pl.map rwD))), .v (.k (tabD pl)), s5, s6, s7, s8, s9, s10, s11, .v (.d (.tuple (more.map rwD))), .v (.d (.tuple (slow.map rwD))), .v (.d (.str u0)), .v (.d (.str v)), s16, s17, s18, s19, s20] cs) O := by
  have g := P.g
  have eo : ∀ (pl : List Rw) (p : List Str), optW pl (some p) = .tuple [.int (cst pl p), .tuple (p.map .str)] := fun _ _ => rfl
  have ord : ∀ (pl : List Rw) (p : List Str), rowD (lab pl p) = .tuple [.int (cst pl p), .tuple (p.map .str)] := fun _ _ => rfl
  unfold b_law_1_12
  rw [ok_cons]
  simp only [ok_asg, ok_par, ok_ownS, ok_newc, newQ_l, ok_cset, csetQ0, ok_app, appQ_o, ok_ins, insQ_o, ok_frz, frzQ_o, frzQ_v, ok_iteS, ok_for, ok_whil, ok_ret, ok_retN, ok_expr, ok_brk, ok_cont, ok_pass, ok_var, ok_own, ok_k, ok_glob, ok_gdk, gdkQ_s, ok_callK, kwQ_s, arF, Option.bind_some, Option.map_some, ok_dct, ok_dix, dixQ_k, tst_callK, ok_lset, lsetQ_o, p_rep, ok_prim, ok_and, ok_or, ok_not, ok_iteE, ok_chain, ok_call, ok_cidx, cidQ0, ok_comp, ok_esnil, ok_escons, ok_t0, ok_t1, ok_seq, seqQQ_l, seqQQ_t, seqQQ_s, ok_rng, ok_rng2, ok_zip, zipQ_l, zipQ_t, ok_enum, enumQ_l, p_sorted, eqD_pair, rngQ_i, ok_tand, ok_tor, ok_tnot, tst_var, tst_own, tst_k, tst_prim, tst_ite, tst_chain, tst_call, tst_cidx, ok_bind, ok_ok, ok_no, ok_guard, Res.bind_ok, eqD_int, eqD_bool, eqD_str, eqD_nil, eqD_none, konV, setAll, seqQ_nx, seqQ_rt, seqQ_bk, seqQ_ct, ok_cons, ok_nil, p_add, p_addL, p_addT, p_addS, p_sub, p_mul, p_fdiv, p_mod, p_pow, p_neg, p_eq, p_ne, p_lt, p_le, p_gt, p_ge, p_in, p_notin, p_isN, p_notN, p_isB, p_notB, p_idxL, p_idxT, p_lst0, p_lst1, p_lst2, p_lst3, p_lst4, p_lst5, p_lst6, p_lst7, p_tup0, p_tup1, p_tup2, p_tup3, p_tup4, p_tup5, p_lenL, p_lenT, p_listL, p_listT, p_tupleL, p_tupleT, p_abs, p_max2, p_min2, p_max4, p_intI, p_intB, p_isi, p_rev, p_revT, ok_popS, popQ_o, t_b, t_i, t_n, a_n, a_t, a_l, sM_t, sM_f, sA_0, sA_1, wE_0, wE_1, List.map_cons, List.map_nil, List.set_cons_zero, List.set_cons_succ, List.getElem?_cons_zero, List.getElem?_cons_succ, Nat.reduceAdd, at0, at1, at2, at3, at4, at5, at6, ix0, ix1, ix2, List.length_cons, List.length_nil, List.nil_append, decide_eq_true_eq, onFin_rt, onFin_nx, Bool.not_eq_true', decide_eq_false_iff_not, Int.reducePow, Int.reduceNeg, Int.reduceLT, Int.reduceLE, Nat.reduceLeDiff, Int.reduceToNat, Nat.reducePow, Int.reduceSub, Int.reduceAdd, Int.reduceMul, true_and, and_true, true_or, or_true, decide_true, and_self, if_true, if_false, Bool.false_eq_true, Bool.true_eq_false, reduceCtorEq, not_false_eq_true, not_true_eq_false, reduceIte, p_dictT, dixQ_t, p_sortT, p_ninT, p_dictP, p_tupP, p_dn, p_getT, ok_dput, dputQ_o, ok_dsd, dsdQ_o, frzQ_t, frzQ_k, sM_d, sM_k, ok_dcomp, ditQ_d, ok_disp, dspQ_d, ok_kput, kputQ_o, p_dictK, p_ninK, p_getK, ok_parT, s_law_1_12_0]
  refine way_ok hW g hu fun B hB => ?_
  obtain ⟨p0, hp0⟩ := hv
  obtain ⟨p, hp, hw, _⟩ := hB.some hp0
  rw [hp]
  have hpl := path_le g hu hB.bi hp
  have hnd := hB.short g hp
  have hnodes := hw.nodes g hu
  have hp10 : p.length ≤ 10 := by
    have := sub_len hnd hnodes
    rw [List.length_map] at this
    have := g.len
    omega
  have hp1 : 1 ≤ p.length := by
    obtain ⟨a, rfl⟩ := hw.form
    simp
  have hok : ∀ x ∈ p, PyData.strOk x = true := fun x hx => g.ok x (hnodes x hx)
  simp only [ok_asg, ok_par, ok_ownS, ok_newc, newQ_l, ok_cset, csetQ0, ok_app, appQ_o, ok_ins, insQ_o, ok_frz, frzQ_o, frzQ_v, ok_iteS, ok_for, ok_whil, ok_ret, ok_retN, ok_expr, ok_brk, ok_cont, ok_pass, ok_var, ok_own, ok_k, ok_glob, ok_gdk, gdkQ_s, ok_callK, kwQ_s, arF, Option.bind_some, Option.map_some, ok_dct, ok_dix, dixQ_k, tst_callK, ok_lset, lsetQ_o, p_rep, ok_prim, ok_and, ok_or, ok_not, ok_iteE, ok_chain, ok_call, ok_cidx, cidQ0, ok_comp, ok_esnil, ok_escons, ok_t0, ok_t1, ok_seq, seqQQ_l, seqQQ_t, seqQQ_s, ok_rng, ok_rng2, ok_zip, zipQ_l, zipQ_t, ok_enum, enumQ_l, p_sorted, eqD_pair, rngQ_i, ok_tand, ok_tor, ok_tnot, tst_var, tst_own, tst_k, tst_prim, tst_ite, tst_chain, tst_call, tst_cidx, ok_bind, ok_ok, ok_no, ok_guard, Res.bind_ok, eqD_int, eqD_bool, eqD_str, eqD_nil, eqD_none, konV, setAll, seqQ_nx, seqQ_rt, seqQ_bk, seqQ_ct, ok_cons, ok_nil, p_add, p_addL, p_addT, p_addS, p_sub, p_mul, p_fdiv, p_mod, p_pow, p_neg, p_eq, p_ne, p_lt, p_le, p_gt, p_ge, p_in, p_notin, p_isN, p_notN, p_isB, p_notB, p_idxL, p_idxT, p_lst0, p_lst1, p_lst2, p_lst3, p_lst4, p_lst5, p_lst6, p_lst7, p_tup0, p_tup1, p_tup2, p_tup3, p_tup4, p_tup5, p_lenL, p_lenT, p_listL, p_listT, p_tupleL, p_tupleT, p_abs, p_max2, p_min2, p_max4, p_intI, p_intB, p_isi, p_rev, p_revT, ok_popS, popQ_o, t_b, t_i, t_n, a_n, a_t, a_l, sM_t, sM_f, sA_0, sA_1, wE_0, wE_1, List.map_cons, List.map_nil, List.set_cons_zero, List.set_cons_succ, List.getElem?_cons_zero, List.getElem?_cons_succ, Nat.reduceAdd, at0, at1, at2, at3, at4, at5, at6, ix0, ix1, ix2, List.length_cons, List.length_nil, List.nil_append, decide_eq_true_eq, onFin_rt, onFin_nx, Bool.not_eq_true', decide_eq_false_iff_not, Int.reducePow, Int.reduceNeg, Int.reduceLT, Int.reduceLE, Nat.reduceLeDiff, Int.reduceToNat, Nat.reducePow, Int.reduceSub, Int.reduceAdd, Int.reduceMul, true_and, and_true, true_or, or_true, decide_true, and_self, if_true, if_false, Bool.false_eq_true, Bool.true_eq_false, reduceCtorEq, not_false_eq_true, not_true_eq_false, reduceIte, p_dictT, dixQ_t, p_sortT, p_ninT, p_dictP, p_tupP, p_dn, p_getT, ok_dput, dputQ_o, ok_dsd, dsdQ_o, frzQ_t, frzQ_k, sM_d, sM_k, ok_dcomp, ditQ_d, ok_disp, dspQ_d, ok_kput, kputQ_o, p_dictK, p_ninK, p_getK, ok_parT, eo]
  simp only [ok_asg, ok_par, ok_ownS, ok_newc, newQ_l, ok_cset, csetQ0, ok_app, appQ_o, ok_ins, insQ_o, ok_frz, frzQ_o, frzQ_v, ok_iteS, ok_for, ok_whil, ok_ret, ok_retN, ok_expr, ok_brk, ok_cont, ok_pass, ok_var, ok_own, ok_k, ok_glob, ok_gdk, gdkQ_s, ok_callK, kwQ_s, arF, Option.bind_some, Option.map_some, ok_dct, ok_dix, dixQ_k, tst_callK, ok_lset, lsetQ_o, p_rep, ok_prim, ok_and, ok_or, ok_not, ok_iteE, ok_chain, ok_call, ok_cidx, cidQ0, ok_comp, ok_esnil, ok_escons, ok_t0, ok_t1, ok_seq, seqQQ_l, seqQQ_t, seqQQ_s, ok_rng, ok_rng2, ok_zip, zipQ_l, zipQ_t, ok_enum, enumQ_l, p_sorted, eqD_pair, rngQ_i, ok_tand, ok_tor, ok_tnot, tst_var, tst_own, tst_k, tst_prim, tst_ite, tst_chain, tst_call, tst_cidx, ok_bind, ok_ok, ok_no, ok_guard, Res.bind_ok, eqD_int, eqD_bool, eqD_str, eqD_nil, eqD_none, konV, setAll, seqQ_nx, seqQ_rt, seqQ_bk, seqQ_ct, ok_cons, ok_nil, p_add, p_addL, p_addT, p_addS, p_sub, p_mul, p_fdiv, p_mod, p_pow, p_neg, p_eq, p_ne, p_lt, p_le, p_gt, p_ge, p_in, p_notin, p_isN, p_notN, p_isB, p_notB, p_idxL, p_idxT, p_lst0, p_lst1, p_lst2, p_lst3, p_lst4, p_lst5, p_lst6, p_lst7, p_tup0, p_tup1, p_tup2, p_tup3, p_tup4, p_tup5, p_lenL, p_lenT, p_listL, p_listT, p_tupleL, p_tupleT, p_abs, p_max2, p_min2, p_max4, p_intI, p_intB, p_isi, p_rev, p_revT, ok_popS, popQ_o, t_b, t_i, t_n, a_n, a_t, a_l, sM_t, sM_f, sA_0, sA_1, wE_0, wE_1, List.map_cons, List.map_nil, List.set_cons_zero, List.set_cons_succ, List.getElem?_cons_zero, List.getElem?_cons_succ, Nat.reduceAdd, at0, at1, at2, at3, at4, at5, at6, ix0, ix1, ix2, List.length_cons, List.length_nil, List.nil_append, decide_eq_true_eq, onFin_rt, onFin_nx, Bool.not_eq_true', decide_eq_false_iff_not, Int.reducePow, Int.reduceNeg, Int.reduceLT, Int.reduceLE, Nat.reduceLeDiff, Int.reduceToNat, Nat.reducePow, Int.reduceSub, Int.reduceAdd, Int.reduceMul, true_and, and_true, true_or, or_true, decide_true, and_self, if_true, if_false, Bool.false_eq_true, Bool.true_eq_false, reduceCtorEq, not_false_eq_true, not_true_eq_false, reduceIte, p_dictT, dixQ_t, p_sortT, p_ninT, p_dictP, p_tupP, p_dn, p_getT, ok_dput, dputQ_o, ok_dsd, dsdQ_o, frzQ_t, frzQ_k, sM_d, sM_k, ok_dcomp, ditQ_d, ok_disp, dspQ_d, ok_kput, kputQ_o, p_dictK, p_ninK, p_getK, ok_parT, s_law_1_12_1]
  -- more points
  refine way_ok hW P.gm (by rw [P.nm]; exact hu) fun B2 hB2 => ?_
  obtain ⟨o2, ho2, _, hc2⟩ := hB2.some (hw.up P.mx)
  have e2 : cst more p = cst pl p := by
    have h1 := cst_le (pl := more) (pl2 := pl) (fun x => by rw [P.mt]; omega) p
    have h2 := cst_le (pl := pl) (pl2 := more) (fun x => by rw [P.mt]; omega) p
    omega
  rw [ho2]
  simp only [ok_asg, ok_par, ok_ownS, ok_newc, newQ_l, ok_cset, csetQ0, ok_app, appQ_o, ok_ins, insQ_o, ok_frz, frzQ_o, frzQ_v, ok_iteS, ok_for, ok_whil, ok_ret, ok_retN, ok_expr, ok_brk, ok_cont, ok_pass, ok_var, ok_own, ok_k, ok_glob, ok_gdk, gdkQ_s, ok_callK, kwQ_s, arF, Option.bind_some, Option.map_some, ok_dct, ok_dix, dixQ_k, tst_callK, ok_lset, lsetQ_o, p_rep, ok_prim, ok_and, ok_or, ok_not, ok_iteE, ok_chain, ok_call, ok_cidx, cidQ0, ok_comp, ok_esnil, ok_escons, ok_t0, ok_t1, ok_seq, seqQQ_l, seqQQ_t, seqQQ_s, ok_rng, ok_rng2, ok_zip, zipQ_l, zipQ_t, ok_enum, enumQ_l, p_sorted, eqD_pair, rngQ_i, ok_tand, ok_tor, ok_tnot, tst_var, tst_own, tst_k, tst_prim, tst_ite, tst_chain, tst_call, tst_cidx, ok_bind, ok_ok, ok_no, ok_guard, Res.bind_ok, eqD_int, eqD_bool, eqD_str, eqD_nil, eqD_none, konV, setAll, seqQ_nx, seqQ_rt, seqQ_bk, seqQ_ct, ok_cons, ok_nil, p_add, p_addL, p_addT, p_addS, p_sub, p_mul, p_fdiv, p_mod, p_pow, p_neg, p_eq, p_ne, p_lt, p_le, p_gt, p_ge, p_in, p_notin, p_isN, p_notN, p_isB, p_notB, p_idxL, p_idxT, p_lst0, p_lst1, p_lst2, p_lst3, p_lst4, p_lst5, p_lst6, p_lst7, p_tup0, p_tup1, p_tup2, p_tup3, p_tup4, p_tup5, p_lenL, p_lenT, p_listL, p_listT, p_tupleL, p_tupleT, p_abs, p_max2, p_min2, p_max4, p_intI, p_intB, p_isi, p_rev, p_revT, ok_popS, popQ_o, t_b, t_i, t_n, a_n, a_t, a_l, sM_t, sM_f, sA_0, sA_1, wE_0, wE_1, List.map_cons, List.map_nil, List.set_cons_zero, List.set_cons_succ, List.getElem?_cons_zero, List.getElem?_cons_succ, Nat.reduceAdd, at0, at1, at2, at3, at4, at5, at6, ix0, ix1, ix2, List.length_cons, List.length_nil, List.nil_append, decide_eq_true_eq, onFin_rt, onFin_nx, Bool.not_eq_true', decide_eq_false_iff_not, Int.reducePow, Int.reduceNeg, Int.reduceLT, Int.reduceLE, Nat.reduceLeDiff, Int.reduceToNat, Nat.reducePow, Int.reduceSub, Int.reduceAdd, Int.reduceMul, true_and, and_true, true_or, or_true, decide_true, and_self, if_true, if_false, Bool.false_eq_true, Bool.true_eq_false, reduceCtorEq, not_false_eq_true, not_true_eq_false, reduceIte, p_dictT, dixQ_t, p_sortT, p_ninT, p_dictP, p_tupP, p_dn, p_getT, ok_dput, dputQ_o, ok_dsd, dsdQ_o, frzQ_t, frzQ_k, sM_d, sM_k, ok_dcomp, ditQ_d, ok_disp, dspQ_d, ok_kput, kputQ_o, p_dictK, p_ninK, p_getK, ok_parT, eo, decide_eq_false (show ¬ cst pl p < cst more o2 by omega)]
  -- more ticks
  refine way_ok hW P.gs (by rw [P.ns]; exact hu) fun B3 hB3 => ?_
  obtain ⟨o3, ho3, hw3, _⟩ := hB3.some (hw.up fun x y hy => by rw [P.sx]; exact hy)
  have hw3' : K15.W pl u0 v o3 := hw3.up fun x y hy => by rw [P.sx] at hy; exact hy
  obtain ⟨o4, ho4, _, hc4⟩ := hB.some hw3'
  rw [hp] at ho4
  cases ho4
  have h3 := cst_le (pl := pl) (pl2 := slow) P.st o3
  rw [ho3]
  simp only [ok_asg, ok_par, ok_ownS, ok_newc, newQ_l, ok_cset, csetQ0, ok_app, appQ_o, ok_ins, insQ_o, ok_frz, frzQ_o, frzQ_v, ok_iteS, ok_for, ok_whil, ok_ret, ok_retN, ok_expr, ok_brk, ok_cont, ok_pass, ok_var, ok_own, ok_k, ok_glob, ok_gdk, gdkQ_s, ok_callK, kwQ_s, arF, Option.bind_some, Option.map_some, ok_dct, ok_dix, dixQ_k, tst_callK, ok_lset, lsetQ_o, p_rep, ok_prim, ok_and, ok_or, ok_not, ok_iteE, ok_chain, ok_call, ok_cidx, cidQ0, ok_comp, ok_esnil, ok_escons, ok_t0, ok_t1, ok_seq, seqQQ_l, seqQQ_t, seqQQ_s, ok_rng, ok_rng2, ok_zip, zipQ_l, zipQ_t, ok_enum, enumQ_l, p_sorted, eqD_pair, rngQ_i, ok_tand, ok_tor, ok_tnot, tst_var, tst_own, tst_k, tst_prim, tst_ite, tst_chain, tst_call, tst_cidx, ok_bind, ok_ok, ok_no, ok_guard, Res.bind_ok, eqD_int, eqD_bool, eqD_str, eqD_nil, eqD_none, konV, setAll, seqQ_nx, seqQ_rt, seqQ_bk, seqQ_ct, ok_cons, ok_nil, p_add, p_addL, p_addT, p_addS, p_sub, p_mul, p_fdiv, p_mod, p_pow, p_neg, p_eq, p_ne, p_lt, p_le, p_gt, p_ge, p_in, p_notin, p_isN, p_notN, p_isB, p_notB, p_idxL, p_idxT, p_lst0, p_lst1, p_lst2, p_lst3, p_lst4, p_lst5, p_lst6, p_lst7, p_tup0, p_tup1, p_tup2, p_tup3, p_tup4, p_tup5, p_lenL, p_lenT, p_listL, p_listT, p_tupleL, p_tupleT, p_abs, p_max2, p_min2, p_max4, p_intI, p_intB, p_isi, p_rev, p_revT, ok_popS, popQ_o, t_b, t_i, t_n, a_n, a_t, a_l, sM_t, sM_f, sA_0, sA_1, wE_0, wE_1, List.map_cons, List.map_nil, List.set_cons_zero, List.set_cons_succ, List.getElem?_cons_zero, List.getElem?_cons_succ, Nat.reduceAdd, at0, at1, at2, at3, at4, at5, at6, ix0, ix1, ix2, List.length_cons, List.length_nil, List.nil_append, decide_eq_true_eq, onFin_rt, onFin_nx, Bool.not_eq_true', decide_eq_false_iff_not, Int.reducePow, Int.reduceNeg, Int.reduceLT, Int.reduceLE, Nat.reduceLeDiff, Int.reduceToNat, Nat.reducePow, Int.reduceSub, Int.reduceAdd, Int.reduceMul, true_and, and_true, true_or, or_true, decide_true, and_self, if_true, if_false, Bool.false_eq_true, Bool.true_eq_false, reduceCtorEq, not_false_eq_true, not_true_eq_false, reduceIte, p_dictT, dixQ_t, p_sortT, p_ninT, p_dictP, p_tupP, p_dn, p_getT, ok_dput, dputQ_o, ok_dsd, dsdQ_o, frzQ_t, frzQ_k, sM_d, sM_k, ok_dcomp, ditQ_d, ok_disp, dspQ_d, ok_kput, kputQ_o, p_dictK, p_ninK, p_getK, ok_parT, eo, decide_eq_false (show ¬ cst slow o3 < cst pl p by omega)]
  unfold b_law_1_12_1e
  simp only [ok_asg, ok_par, ok_ownS, ok_newc, newQ_l, ok_cset, csetQ0, ok_app, appQ_o, ok_ins, insQ_o, ok_frz, frzQ_o, frzQ_v, ok_iteS, ok_for, ok_whil, ok_ret, ok_retN, ok_expr, ok_brk, ok_cont, ok_pass, ok_var, ok_own, ok_k, ok_glob, ok_gdk, gdkQ_s, ok_callK, kwQ_s, arF, Option.bind_some, Option.map_some, ok_dct, ok_dix, dixQ_k, tst_callK, ok_lset, lsetQ_o, p_rep, ok_prim, ok_and, ok_or, ok_not, ok_iteE, ok_chain, ok_call, ok_cidx, cidQ0, ok_comp, ok_esnil, ok_escons, ok_t0, ok_t1, ok_seq, seqQQ_l, seqQQ_t, seqQQ_s, ok_rng, ok_rng2, ok_zip, zipQ_l, zipQ_t, ok_enum, enumQ_l, p_sorted, eqD_pair, rngQ_i, ok_tand, ok_tor, ok_tnot, tst_var, tst_own, tst_k, tst_prim, tst_ite, tst_chain, tst_call, tst_cidx, ok_bind, ok_ok, ok_no, ok_guard, Res.bind_ok, eqD_int, eqD_bool, eqD_str, eqD_nil, eqD_none, konV, setAll, seqQ_nx, seqQ_rt, seqQ_bk, seqQ_ct, ok_cons, ok_nil, p_add, p_addL, p_addT, p_addS, p_sub, p_mul, p_fdiv, p_mod, p_pow, p_neg, p_eq, p_ne, p_lt, p_le, p_gt, p_ge, p_in, p_notin, p_isN, p_notN, p_isB, p_notB, p_idxL, p_idxT, p_lst0, p_lst1, p_lst2, p_lst3, p_lst4, p_lst5, p_lst6, p_lst7, p_tup0, p_tup1, p_tup2, p_tup3, p_tup4, p_tup5, p_lenL, p_lenT, p_listL, p_listT, p_tupleL, p_tupleT, p_abs, p_max2, p_min2, p_max4, p_intI, p_intB, p_isi, p_rev, p_revT, ok_popS, popQ_o, t_b, t_i, t_n, a_n, a_t, a_l, sM_t, sM_f, sA_0, sA_1, wE_0, wE_1, List.map_cons, List.map_nil, List.set_cons_zero, List.set_cons_succ, List.getElem?_cons_zero, List.getElem?_cons_succ, Nat.reduceAdd, at0, at1, at2, at3, at4, at5, at6, ix0, ix1, ix2, List.length_cons, List.length_nil, List.nil_append, decide_eq_true_eq, onFin_rt, onFin_nx, Bool.not_eq_true', decide_eq_false_iff_not, Int.reducePow, Int.reduceNeg, Int.reduceLT, Int.reduceLE, Nat.reduceLeDiff, Int.reduceToNat, Nat.reducePow, Int.reduceSub, Int.reduceAdd, Int.reduceMul, true_and, and_true, true_or, or_true, decide_true, and_self, if_true, if_false, Bool.false_eq_true, Bool.true_eq_false, reduceCtorEq, not_false_eq_true, not_true_eq_false, reduceIte, p_dictT, dixQ_t, p_sortT, p_ninT, p_dictP, p_tupP, p_dn, p_getT, ok_dput, dputQ_o, ok_dsd, dsdQ_o, frzQ_t, frzQ_k, sM_d, sM_k, ok_dcomp, ditQ_d, ok_disp, dspQ_d, ok_kput, kputQ_o, p_dictK, p_ninK, p_getK, ok_parT]
  -- its ticks
  simp only [ok_asg, ok_par, ok_ownS, ok_newc, newQ_l, ok_cset, csetQ0, ok_app, appQ_o, ok_ins, insQ_o, ok_frz, frzQ_o, frzQ_v, ok_iteS, ok_for, ok_whil, ok_ret, ok_retN, ok_expr, ok_brk, ok_cont, ok_pass, ok_var, ok_own, ok_k, ok_glob, ok_gdk, gdkQ_s, ok_callK, kwQ_s, arF, Option.bind_some, Option.map_some, ok_dct, ok_dix, dixQ_k, tst_callK, ok_lset, lsetQ_o, p_rep, ok_prim, ok_and, ok_or, ok_not, ok_iteE, ok_chain, ok_call, ok_cidx, cidQ0, ok_comp, ok_esnil, ok_escons, ok_t0, ok_t1, ok_seq, seqQQ_l, seqQQ_t, seqQQ_s, ok_rng, ok_rng2, ok_zip, zipQ_l, zipQ_t, ok_enum, enumQ_l, p_sorted, eqD_pair, rngQ_i, ok_tand, ok_tor, ok_tnot, tst_var, tst_own, tst_k, tst_prim, tst_ite, tst_chain, tst_call, tst_cidx, ok_bind, ok_ok, ok_no, ok_guard, Res.bind_ok, eqD_int, eqD_bool, eqD_str, eqD_nil, eqD_none, konV, setAll, seqQ_nx, seqQ_rt, seqQ_bk, seqQ_ct, ok_cons, ok_nil, p_add, p_addL, p_addT, p_addS, p_sub, p_mul, p_fdiv, p_mod, p_pow, p_neg, p_eq, p_ne, p_lt, p_le, p_gt, p_ge, p_in, p_notin, p_isN, p_notN, p_isB, p_notB, p_idxL, p_idxT, p_lst0, p_lst1, p_lst2, p_lst3, p_lst4, p_lst5, p_lst6, p_lst7, p_tup0, p_tup1, p_tup2, p_tup3, p_tup4, p_tup5, p_lenL, p_lenT, p_listL, p_listT, p_tupleL, p_tupleT, p_abs, p_max2, p_min2, p_max4, p_intI, p_intB, p_isi, p_rev, p_revT, ok_popS, popQ_o, t_b, t_i, t_n, a_n, a_t, a_l, sM_t, sM_f, sA_0, sA_1, wE_0, wE_1, List.map_cons, List.map_nil, List.set_cons_zero, List.set_cons_succ, List.getElem?_cons_zero, List.getElem?_cons_succ, Nat.reduceAdd, at0, at1, at2, at3, at4, at5, at6, ix0, ix1, ix2, List.length_cons, List.length_nil, List.nil_append, decide_eq_true_eq, onFin_rt, onFin_nx, Bool.not_eq_true', decide_eq_false_iff_not, Int.reducePow, Int.reduceNeg, Int.reduceLT, Int.reduceLE, Nat.reduceLeDiff, Int.reduceToNat, Nat.reducePow, Int.reduceSub, Int.reduceAdd, Int.reduceMul, true_and, and_true, true_or, or_true, decide_true, and_self, if_true, if_false, Bool.false_eq_true, Bool.true_eq_false, reduceCtorEq, not_false_eq_true, not_true_eq_false, reduceIte, p_dictT, dixQ_t, p_sortT, p_ninT, p_dictP, p_tupP, p_dn, p_getT, ok_dput, dputQ_o, ok_dsd, dsdQ_o, frzQ_t, frzQ_k, sM_d, sM_k, ok_dcomp, ditQ_d, ok_disp, dspQ_d, ok_kput, kputQ_o, p_dictK, p_ninK, p_getK, ok_parT, s_law_1_12_2, p_sl01T]
  rw [cut_m1 (by rw [List.length_map]; exact hp1), ← List.map_dropLast]
  refine ok_lcE PyData.str (fun x => some (.int (tko pl x))) _ (fun x hx T t => ?_) (line_le (by rw [List.length_dropLast]; omega)) ?_
  · obtain ⟨r, hr⟩ := rof_some (hnodes x ((List.dropLast_sublist p).mem hx))
    have lt : lookK (tabD pl) (Sum.inr x) = some (.tuple [.int r.tk, .tuple (r.nx.map .str)]) := by rw [look_tab, hr]; rfl
    rw [ok_cstep]
    simp only [ok_asg, ok_par, ok_ownS, ok_newc, newQ_l, ok_cset, csetQ0, ok_app, appQ_o, ok_ins, insQ_o, ok_frz, frzQ_o, frzQ_v, ok_iteS, ok_for, ok_whil, ok_ret, ok_retN, ok_expr, ok_brk, ok_cont, ok_pass, ok_var, ok_own, ok_k, ok_glob, ok_gdk, gdkQ_s, ok_callK, kwQ_s, arF, Option.bind_some, Option.map_some, ok_dct, ok_dix, dixQ_k, tst_callK, ok_lset, lsetQ_o, p_rep, ok_prim, ok_and, ok_or, ok_not, ok_iteE, ok_chain, ok_call, ok_cidx, cidQ0, ok_comp, ok_esnil, ok_escons, ok_t0, ok_t1, ok_seq, seqQQ_l, seqQQ_t, seqQQ_s, ok_rng, ok_rng2, ok_zip, zipQ_l, zipQ_t, ok_enum, enumQ_l, p_sorted, eqD_pair, rngQ_i, ok_tand, ok_tor, ok_tnot, tst_var, tst_own, tst_k, tst_prim, tst_ite, tst_chain, tst_call, tst_cidx, ok_bind, ok_ok, ok_no, ok_guard, Res.bind_ok, eqD_int, eqD_bool, eqD_str, eqD_nil, eqD_none, konV, setAll, seqQ_nx, seqQ_rt, seqQ_bk, seqQ_ct, ok_cons, ok_nil, p_add, p_addL, p_addT, p_addS, p_sub, p_mul, p_fdiv, p_mod, p_pow, p_neg, p_eq, p_ne, p_lt, p_le, p_gt, p_ge, p_in, p_notin, p_isN, p_notN, p_isB, p_notB, p_idxL, p_idxT, p_lst0, p_lst1, p_lst2, p_lst3, p_lst4, p_lst5, p_lst6, p_lst7, p_tup0, p_tup1, p_tup2, p_tup3, p_tup4, p_tup5, p_lenL, p_lenT, p_listL, p_listT, p_tupleL, p_tupleT, p_abs, p_max2, p_min2, p_max4, p_intI, p_intB, p_isi, p_rev, p_revT, ok_popS, popQ_o, t_b, t_i, t_n, a_n, a_t, a_l, sM_t, sM_f, sA_0, sA_1, wE_0, wE_1, List.map_cons, List.map_nil, List.set_cons_zero, List.set_cons_succ, List.getElem?_cons_zero, List.getElem?_cons_succ, Nat.reduceAdd, at0, at1, at2, at3, at4, at5, at6, ix0, ix1, ix2, List.length_cons, List.length_nil, List.nil_append, decide_eq_true_eq, onFin_rt, onFin_nx, Bool.not_eq_true', decide_eq_false_iff_not, Int.reducePow, Int.reduceNeg, Int.reduceLT, Int.reduceLE, Nat.reduceLeDiff, Int.reduceToNat, Nat.reducePow, Int.reduceSub, Int.reduceAdd, Int.reduceMul, true_and, and_true, true_or, or_true, decide_true, and_self, if_true, if_false, Bool.false_eq_true, Bool.true_eq_false, reduceCtorEq, not_false_eq_true, not_true_eq_false, reduceIte, p_dictT, dixQ_t, p_sortT, p_ninT, p_dictP, p_tupP, p_dn, p_getT, ok_dput, dputQ_o, ok_dsd, dsdQ_o, frzQ_t, frzQ_k, sM_d, sM_k, ok_dcomp, ditQ_d, ok_disp, dspQ_d, ok_kput, kputQ_o, p_dictK, p_ninK, p_getK, ok_parT, kd_s, lt, itQ_d]
    rw [tko_of hr] at t
    exact t
  · rw [fm_some]
    have es : (p.dropLast.map fun x => PyData.int (tko pl x)) = (p.dropLast.map (tko pl)).map .int := by rw [List.map_map]; rfl
    have esum : primF .sum1 [.d (.list (p.dropLast.map fun x => PyData.int (tko pl x)))] = .ok (.d (.int (cst pl p))) := by
      rw [es, p_sum1, ints_of, cst_sum]
    have eset : primF .lenSet [.d (.tuple (p.map .str))] = .ok (.d (.int p.length)) := by
      rw [p_lenSet, strs_of]
      show (if p.length ≤ 60 ∧ p.Nodup then _ else _) = _
      rw [if_pos ⟨by omega, hnd⟩]
    simp only [ok_asg, ok_par, ok_ownS, ok_newc, newQ_l, ok_cset, csetQ0, ok_app, appQ_o, ok_ins, insQ_o, ok_frz, frzQ_o, frzQ_v, ok_iteS, ok_for, ok_whil, ok_ret, ok_retN, ok_expr, ok_brk, ok_cont, ok_pass, ok_var, ok_own, ok_k, ok_glob, ok_gdk, gdkQ_s, ok_callK, kwQ_s, arF, Option.bind_some, Option.map_some, ok_dct, ok_dix, dixQ_k, tst_callK, ok_lset, lsetQ_o, p_rep, ok_prim, ok_and, ok_or, ok_not, ok_iteE, ok_chain, ok_call, ok_cidx, cidQ0, ok_comp, ok_esnil, ok_escons, ok_t0, ok_t1, ok_seq, seqQQ_l, seqQQ_t, seqQQ_s, ok_rng, ok_rng2, ok_zip, zipQ_l, zipQ_t, ok_enum, enumQ_l, p_sorted, eqD_pair, rngQ_i, ok_tand, ok_tor, ok_tnot, tst_var, tst_own, tst_k, tst_prim, tst_ite, tst_chain, tst_call, tst_cidx, ok_bind, ok_ok, ok_no, ok_guard, Res.bind_ok, eqD_int, eqD_bool, eqD_str, eqD_nil, eqD_none, konV, setAll, seqQ_nx, seqQ_rt, seqQ_bk, seqQ_ct, ok_cons, ok_nil, p_add, p_addL, p_addT, p_addS, p_sub, p_mul, p_fdiv, p_mod, p_pow, p_neg, p_eq, p_ne, p_lt, p_le, p_gt, p_ge, p_in, p_notin, p_isN, p_notN, p_isB, p_notB, p_idxL, p_idxT, p_lst0, p_lst1, p_lst2, p_lst3, p_lst4, p_lst5, p_lst6, p_lst7, p_tup0, p_tup1, p_tup2, p_tup3, p_tup4, p_tup5, p_lenL, p_lenT, p_listL, p_listT, p_tupleL, p_tupleT, p_abs, p_max2, p_min2, p_max4, p_intI, p_intB, p_isi, p_rev, p_revT, ok_popS, popQ_o, t_b, t_i, t_n, a_n, a_t, a_l, sM_t, sM_f, sA_0, sA_1, wE_0, wE_1, List.map_cons, List.map_nil, List.set_cons_zero, List.set_cons_succ, List.getElem?_cons_zero, List.getElem?_cons_succ, Nat.reduceAdd, at0, at1, at2, at3, at4, at5, at6, ix0, ix1, ix2, List.length_cons, List.length_nil, List.nil_append, decide_eq_true_eq, onFin_rt, onFin_nx, Bool.not_eq_true', decide_eq_false_iff_not, Int.reducePow, Int.reduceNeg, Int.reduceLT, Int.reduceLE, Nat.reduceLeDiff, Int.reduceToNat, Nat.reducePow, Int.reduceSub, Int.reduceAdd, Int.reduceMul, true_and, and_true, true_or, or_true, decide_true, and_self, if_true, if_false, Bool.false_eq_true, Bool.true_eq_false, reduceCtorEq, not_false_eq_true, not_true_eq_false, reduceIte, p_dictT, dixQ_t, p_sortT, p_ninT, p_dictP, p_tupP, p_dn, p_getT, ok_dput, dputQ_o, ok_dsd, dsdQ_o, frzQ_t, frzQ_k, sM_d, sM_k, ok_dcomp, ditQ_d, ok_disp, dspQ_d, ok_kput, kputQ_o, p_dictK, p_ninK, p_getK, ok_parT, esum, eset, List.length_map, Bool.not_true]
    unfold b_law_1_12_2e
    simp only [ok_asg, ok_par, ok_ownS, ok_newc, newQ_l, ok_cset, csetQ0, ok_app, appQ_o, ok_ins, insQ_o, ok_frz, frzQ_o, frzQ_v, ok_iteS, ok_for, ok_whil, ok_ret, ok_retN, ok_expr, ok_brk, ok_cont, ok_pass, ok_var, ok_own, ok_k, ok_glob, ok_gdk, gdkQ_s, ok_callK, kwQ_s, arF, Option.bind_some, Option.map_some, ok_dct, ok_dix, dixQ_k, tst_callK, ok_lset, lsetQ_o, p_rep, ok_prim, ok_and, ok_or, ok_not, ok_iteE, ok_chain, ok_call, ok_cidx, cidQ0, ok_comp, ok_esnil, ok_escons, ok_t0, ok_t1, ok_seq, seqQQ_l, seqQQ_t, seqQQ_s, ok_rng, ok_rng2, ok_zip, zipQ_l, zipQ_t, ok_enum, enumQ_l, p_sorted, eqD_pair, rngQ_i, ok_tand, ok_tor, ok_tnot, tst_var, tst_own, tst_k, tst_prim, tst_ite, tst_chain, tst_call, tst_cidx, ok_bind, ok_ok, ok_no, ok_guard, Res.bind_ok, eqD_int, eqD_bool, eqD_str, eqD_nil, eqD_none, konV, setAll, seqQ_nx, seqQ_rt, seqQ_bk, seqQ_ct, ok_cons, ok_nil, p_add, p_addL, p_addT, p_addS, p_sub, p_mul, p_fdiv, p_mod, p_pow, p_neg, p_eq, p_ne, p_lt, p_le, p_gt, p_ge, p_in, p_notin, p_isN, p_notN, p_isB, p_notB, p_idxL, p_idxT, p_lst0, p_lst1, p_lst2, p_lst3, p_lst4, p_lst5, p_lst6, p_lst7, p_tup0, p_tup1, p_tup2, p_tup3, p_tup4, p_tup5, p_lenL, p_lenT, p_listL, p_listT, p_tupleL, p_tupleT, p_abs, p_max2, p_min2, p_max4, p_intI, p_intB, p_isi, p_rev, p_revT, ok_popS, popQ_o, t_b, t_i, t_n, a_n, a_t, a_l, sM_t, sM_f, sA_0, sA_1, wE_0, wE_1, List.map_cons, List.map_nil, List.set_cons_zero, List.set_cons_succ, List.getElem?_cons_zero, List.getElem?_cons_succ, Nat.reduceAdd, at0, at1, at2, at3, at4, at5, at6, ix0, ix1, ix2, List.length_cons, List.length_nil, List.nil_append, decide_eq_true_eq, onFin_rt, onFin_nx, Bool.not_eq_true', decide_eq_false_iff_not, Int.reducePow, Int.reduceNeg, Int.reduceLT, Int.reduceLE, Nat.reduceLeDiff, Int.reduceToNat, Nat.reducePow, Int.reduceSub, Int.reduceAdd, Int.reduceMul, true_and, and_true, true_or, or_true, decide_true, and_self, if_true, if_false, Bool.false_eq_true, Bool.true_eq_false, reduceCtorEq, not_false_eq_true, not_true_eq_false, reduceIte, p_dictT, dixQ_t, p_sortT, p_ninT, p_dictP, p_tupP, p_dn, p_getT, ok_dput, dputQ_o, ok_dsd, dsdQ_o, frzQ_t, frzQ_k, sM_d, sM_k, ok_dcomp, ditQ_d, ok_disp, dspQ_d, ok_kput, kputQ_o, p_dictK, p_ninK, p_getK, ok_parT]
    -- block by block
    simp only [ok_asg, ok_par, ok_ownS, ok_newc, newQ_l, ok_cset, csetQ0, ok_app, appQ_o, ok_ins, insQ_o, ok_frz, frzQ_o, frzQ_v, ok_iteS, ok_for, ok_whil, ok_ret, ok_retN, ok_expr, ok_brk, ok_cont, ok_pass, ok_var, ok_own, ok_k, ok_glob, ok_gdk, gdkQ_s, ok_callK, kwQ_s, arF, Option.bind_some, Option.map_some, ok_dct, ok_dix, dixQ_k, tst_callK, ok_lset, lsetQ_o, p_rep, ok_prim, ok_and, ok_or, ok_not, ok_iteE, ok_chain, ok_call, ok_cidx, cidQ0, ok_comp, ok_esnil, ok_escons, ok_t0, ok_t1, ok_seq, seqQQ_l, seqQQ_t, seqQQ_s, ok_rng, ok_rng2, ok_zip, zipQ_l, zipQ_t, ok_enum, enumQ_l, p_sorted, eqD_pair, rngQ_i, ok_tand, ok_tor, ok_tnot, tst_var, tst_own, tst_k, tst_prim, tst_ite, tst_chain, tst_call, tst_cidx, ok_bind, ok_ok, ok_no, ok_guard, Res.bind_ok, eqD_int, eqD_bool, eqD_str, eqD_nil, eqD_none, konV, setAll, seqQ_nx, seqQ_rt, seqQ_bk, seqQ_ct, ok_cons, ok_nil, p_add, p_addL, p_addT, p_addS, p_sub, p_mul, p_fdiv, p_mod, p_pow, p_neg, p_eq, p_ne, p_lt, p_le, p_gt, p_ge, p_in, p_notin, p_isN, p_notN, p_isB, p_notB, p_idxL, p_idxT, p_lst0, p_lst1, p_lst2, p_lst3, p_lst4, p_lst5, p_lst6, p_lst7, p_tup0, p_tup1, p_tup2, p_tup3, p_tup4, p_tup5, p_lenL, p_lenT, p_listL, p_listT, p_tupleL, p_tupleT, p_abs, p_max2, p_min2, p_max4, p_intI, p_intB, p_isi, p_rev, p_revT, ok_popS, popQ_o, t_b, t_i, t_n, a_n, a_t, a_l, sM_t, sM_f, sA_0, sA_1, wE_0, wE_1, List.map_cons, List.map_nil, List.set_cons_zero, List.set_cons_succ, List.getElem?_cons_zero, List.getElem?_cons_succ, Nat.reduceAdd, at0, at1, at2, at3, at4, at5, at6, ix0, ix1, ix2, List.length_cons, List.length_nil, List.nil_append, decide_eq_true_eq, onFin_rt, onFin_nx, Bool.not_eq_true', decide_eq_false_iff_not, Int.reducePow, Int.reduceNeg, Int.reduceLT, Int.reduceLE, Nat.reduceLeDiff, Int.reduceToNat, Nat.reducePow, Int.reduceSub, Int.reduceAdd, Int.reduceMul, true_and, and_true, true_or, or_true, decide_true, and_self, if_true, if_false, Bool.false_eq_true, Bool.true_eq_false, reduceCtorEq, not_false_eq_true, not_true_eq_false, reduceIte, p_dictT, dixQ_t, p_sortT, p_ninT, p_dictP, p_tupP, p_dn, p_getT, ok_dput, dputQ_o, ok_dsd, dsdQ_o, frzQ_t, frzQ_k, sM_d, sM_k, ok_dcomp, ditQ_d, ok_disp, dspQ_d, ok_kput, kputQ_o, p_dictK, p_ninK, p_getK, ok_parT, s_law_1_12_3, p_sl10T]
    rw [cut_from (by omega) (by rw [List.length_map]; omega)]
    simp only [ok_asg, ok_par, ok_ownS, ok_newc, newQ_l, ok_cset, csetQ0, ok_app, appQ_o, ok_ins, insQ_o, ok_frz, frzQ_o, frzQ_v, ok_iteS, ok_for, ok_whil, ok_ret, ok_retN, ok_expr, ok_brk, ok_cont, ok_pass, ok_var, ok_own, ok_k, ok_glob, ok_gdk, gdkQ_s, ok_callK, kwQ_s, arF, Option.bind_some, Option.map_some, ok_dct, ok_dix, dixQ_k, tst_callK, ok_lset, lsetQ_o, p_rep, ok_prim, ok_and, ok_or, ok_not, ok_iteE, ok_chain, ok_call, ok_cidx, cidQ0, ok_comp, ok_esnil, ok_escons, ok_t0, ok_t1, ok_seq, seqQQ_l, seqQQ_t, seqQQ_s, ok_rng, ok_rng2, ok_zip, zipQ_l, zipQ_t, ok_enum, enumQ_l, p_sorted, eqD_pair, rngQ_i, ok_tand, ok_tor, ok_tnot, tst_var, tst_own, tst_k, tst_prim, tst_ite, tst_chain, tst_call, tst_cidx, ok_bind, ok_ok, ok_no, ok_guard, Res.bind_ok, eqD_int, eqD_bool, eqD_str, eqD_nil, eqD_none, konV, setAll, seqQ_nx, seqQ_rt, seqQ_bk, seqQ_ct, ok_cons, ok_nil, p_add, p_addL, p_addT, p_addS, p_sub, p_mul, p_fdiv, p_mod, p_pow, p_neg, p_eq, p_ne, p_lt, p_le, p_gt, p_ge, p_in, p_notin, p_isN, p_notN, p_isB, p_notB, p_idxL, p_idxT, p_lst0, p_lst1, p_lst2, p_lst3, p_lst4, p_lst5, p_lst6, p_lst7, p_tup0, p_tup1, p_tup2, p_tup3, p_tup4, p_tup5, p_lenL, p_lenT, p_listL, p_listT, p_tupleL, p_tupleT, p_abs, p_max2, p_min2, p_max4, p_intI, p_intB, p_isi, p_rev, p_revT, ok_popS, popQ_o, t_b, t_i, t_n, a_n, a_t, a_l, sM_t, sM_f, sA_0, sA_1, wE_0, wE_1, List.map_cons, List.map_nil, List.set_cons_zero, List.set_cons_succ, List.getElem?_cons_zero, List.getElem?_cons_succ, Nat.reduceAdd, at0, at1, at2, at3, at4, at5, at6, ix0, ix1, ix2, List.length_cons, List.length_nil, List.nil_append, decide_eq_true_eq, onFin_rt, onFin_nx, Bool.not_eq_true', decide_eq_false_iff_not, Int.reducePow, Int.reduceNeg, Int.reduceLT, Int.reduceLE, Nat.reduceLeDiff, Int.reduceToNat, Nat.reducePow, Int.reduceSub, Int.reduceAdd, Int.reduceMul, true_and, and_true, true_or, or_true, decide_true, and_self, if_true, if_false, Bool.false_eq_true, Bool.true_eq_false, reduceCtorEq, not_false_eq_true, not_true_eq_false, reduceIte, p_dictT, dixQ_t, p_sortT, p_ninT, p_dictP, p_tupP, p_dn, p_getT, ok_dput, dputQ_o, ok_dsd, dsdQ_o, frzQ_t, frzQ_k, sM_d, sM_k, ok_dcomp, ditQ_d, ok_disp, dspQ_d, ok_kput, kputQ_o, p_dictK, p_ninK, p_getK, ok_parT]
    refine ok_loopL (fun i env cs' => ∃ (s18 s19 : Sl), env = [s0, .v (.r 0), s2, .v (.d (.tuple (pl.map rwD))), .v (.k (tabD pl)), s5, s6, s7, s8, s9, s10, s11, .v (.d (.tuple (more.map rwD))), .v (.d (.tuple (slow.map rwD))), .v (.d (.str u0)), .v (.d (.str v)), .v (.d (.int (cst pl p))), .v (.d (.tuple (p.map .str))), s18, s19, s20] ∧ cs' = cs) _ 0 _ _ ⟨_, _, rfl, rfl⟩ ?_ ?_
    · rintro i x env cs' hx ⟨s18, s19, rfl, rfl⟩
      obtain ⟨a, b, ha, hb, rfl⟩ := zipL_get2 _ _ _ _ hx
      rw [List.getElem?_map] at ha
      rw [List.getElem?_drop, List.getElem?_map, Nat.add_comm] at hb
      obtain ⟨y, hy, rfl⟩ := Option.map_eq_some_iff.mp ha
      obtain ⟨z, hz, rfl⟩ := Option.map_eq_some_iff.mp hb
      have hed := ed_at p i y z hw.go hy hz
      obtain ⟨r, hr⟩ := rof_some (hnodes y (List.mem_of_getElem? hy))
      have lt : lookK (tabD pl) (Sum.inr y) = some (.tuple [.int r.tk, .tuple (r.nx.map .str)]) := by rw [look_tab, hr]; rfl
      have ein : inD (.str z) (.tuple (r.nx.map .str)) = .ok true := by
        rw [in_tstrs (hok z (List.mem_of_getElem? hz)) fun w hw => g.ok w ((g.nx r (rof_mem hr).1).2 w hw), ← nxo_of hr, decide_eq_true hed]
      rw [ok_lstep]
      simp only [ok_asg, ok_par, ok_ownS, ok_newc, newQ_l, ok_cset, csetQ0, ok_app, appQ_o, ok_ins, insQ_o, ok_frz, frzQ_o, frzQ_v, ok_iteS, ok_for, ok_whil, ok_ret, ok_retN, ok_expr, ok_brk, ok_cont, ok_pass, ok_var, ok_own, ok_k, ok_glob, ok_gdk, gdkQ_s, ok_callK, kwQ_s, arF, Option.bind_some, Option.map_some, ok_dct, ok_dix, dixQ_k, tst_callK, ok_lset, lsetQ_o, p_rep, ok_prim, ok_and, ok_or, ok_not, ok_iteE, ok_chain, ok_call, ok_cidx, cidQ0, ok_comp, ok_esnil, ok_escons, ok_t0, ok_t1, ok_seq, seqQQ_l, seqQQ_t, seqQQ_s, ok_rng, ok_rng2, ok_zip, zipQ_l, zipQ_t, ok_enum, enumQ_l, p_sorted, eqD_pair, rngQ_i, ok_tand, ok_tor, ok_tnot, tst_var, tst_own, tst_k, tst_prim, tst_ite, tst_chain, tst_call, tst_cidx, ok_bind, ok_ok, ok_no, ok_guard, Res.bind_ok, eqD_int, eqD_bool, eqD_str, eqD_nil, eqD_none, konV, setAll, seqQ_nx, seqQ_rt, seqQ_bk, seqQ_ct, ok_cons, ok_nil, p_add, p_addL, p_addT, p_addS, p_sub, p_mul, p_fdiv, p_mod, p_pow, p_neg, p_eq, p_ne, p_lt, p_le, p_gt, p_ge, p_in, p_notin, p_isN, p_notN, p_isB, p_notB, p_idxL, p_idxT, p_lst0, p_lst1, p_lst2, p_lst3, p_lst4, p_lst5, p_lst6, p_lst7, p_tup0, p_tup1, p_tup2, p_tup3, p_tup4, p_tup5, p_lenL, p_lenT, p_listL, p_listT, p_tupleL, p_tupleT, p_abs, p_max2, p_min2, p_max4, p_intI, p_intB, p_isi, p_rev, p_revT, ok_popS, popQ_o, t_b, t_i, t_n, a_n, a_t, a_l, sM_t, sM_f, sA_0, sA_1, wE_0, wE_1, List.map_cons, List.map_nil, List.set_cons_zero, List.set_cons_succ, List.getElem?_cons_zero, List.getElem?_cons_succ, Nat.reduceAdd, at0, at1, at2, at3, at4, at5, at6, ix0, ix1, ix2, List.length_cons, List.length_nil, List.nil_append, decide_eq_true_eq, onFin_rt, onFin_nx, Bool.not_eq_true', decide_eq_false_iff_not, Int.reducePow, Int.reduceNeg, Int.reduceLT, Int.reduceLE, Nat.reduceLeDiff, Int.reduceToNat, Nat.reducePow, Int.reduceSub, Int.reduceAdd, Int.reduceMul, true_and, and_true, true_or, or_true, decide_true, and_self, if_true, if_false, Bool.false_eq_true, Bool.true_eq_false, reduceCtorEq, not_false_eq_true, not_true_eq_false, reduceIte, p_dictT, dixQ_t, p_sortT, p_ninT, p_dictP, p_tupP, p_dn, p_getT, ok_dput, dputQ_o, ok_dsd, dsdQ_o, frzQ_t, frzQ_k, sM_d, sM_k, ok_dcomp, ditQ_d, ok_disp, dspQ_d, ok_kput, kputQ_o, p_dictK, p_ninK, p_getK, ok_parT]
      unfold b_law_1_12_3
      simp only [ok_asg, ok_par, ok_ownS, ok_newc, newQ_l, ok_cset, csetQ0, ok_app, appQ_o, ok_ins, insQ_o, ok_frz, frzQ_o, frzQ_v, ok_iteS, ok_for, ok_whil, ok_ret, ok_retN, ok_expr, ok_brk, ok_cont, ok_pass, ok_var, ok_own, ok_k, ok_glob, ok_gdk, gdkQ_s, ok_callK, kwQ_s, arF, Option.bind_some, Option.map_some, ok_dct, ok_dix, dixQ_k, tst_callK, ok_lset, lsetQ_o, p_rep, ok_prim, ok_and, ok_or, ok_not, ok_iteE, ok_chain, ok_call, ok_cidx, cidQ0, ok_comp, ok_esnil, ok_escons, ok_t0, ok_t1, ok_seq, seqQQ_l, seqQQ_t, seqQQ_s, ok_rng, ok_rng2, ok_zip, zipQ_l, zipQ_t, ok_enum, enumQ_l, p_sorted, eqD_pair, rngQ_i, ok_tand, ok_tor, ok_tnot, tst_var, tst_own, tst_k, tst_prim, tst_ite, tst_chain, tst_call, tst_cidx, ok_bind, ok_ok, ok_no, ok_guard, Res.bind_ok, eqD_int, eqD_bool, eqD_str, eqD_nil, eqD_none, konV, setAll, seqQ_nx, seqQ_rt, seqQ_bk, seqQ_ct, ok_cons, ok_nil, p_add, p_addL, p_addT, p_addS, p_sub, p_mul, p_fdiv, p_mod, p_pow, p_neg, p_eq, p_ne, p_lt, p_le, p_gt, p_ge, p_in, p_notin, p_isN, p_notN, p_isB, p_notB, p_idxL, p_idxT, p_lst0, p_lst1, p_lst2, p_lst3, p_lst4, p_lst5, p_lst6, p_lst7, p_tup0, p_tup1, p_tup2, p_tup3, p_tup4, p_tup5, p_lenL, p_lenT, p_listL, p_listT, p_tupleL, p_tupleT, p_abs, p_max2, p_min2, p_max4, p_intI, p_intB, p_isi, p_rev, p_revT, ok_popS, popQ_o, t_b, t_i, t_n, a_n, a_t, a_l, sM_t, sM_f, sA_0, sA_1, wE_0, wE_1, List.map_cons, List.map_nil, List.set_cons_zero, List.set_cons_succ, List.getElem?_cons_zero, List.getElem?_cons_succ, Nat.reduceAdd, at0, at1, at2, at3, at4, at5, at6, ix0, ix1, ix2, List.length_cons, List.length_nil, List.nil_append, decide_eq_true_eq, onFin_rt, onFin_nx, Bool.not_eq_true', decide_eq_false_iff_not, Int.reducePow, Int.reduceNeg, Int.reduceLT, Int.reduceLE, Nat.reduceLeDiff, Int.reduceToNat, Nat.reducePow, Int.reduceSub, Int.reduceAdd, Int.reduceMul, true_and, and_true, true_or, or_true, decide_true, and_self, if_true, if_false, Bool.false_eq_true, Bool.true_eq_false, reduceCtorEq, not_false_eq_true, not_true_eq_false, reduceIte, p_dictT, dixQ_t, p_sortT, p_ninT, p_dictP, p_tupP, p_dn, p_getT, ok_dput, dputQ_o, ok_dsd, dsdQ_o, frzQ_t, frzQ_k, sM_d, sM_k, ok_dcomp, ditQ_d, ok_disp, dspQ_d, ok_kput, kputQ_o, p_dictK, p_ninK, p_getK, ok_parT, s_law_1_12_3_0, kd_s, lt, ein, Bool.not_true]
      unfold b_law_1_12_3_0e
      simp only [ok_asg, ok_par, ok_ownS, ok_newc, newQ_l, ok_cset, csetQ0, ok_app, appQ_o, ok_ins, insQ_o, ok_frz, frzQ_o, frzQ_v, ok_iteS, ok_for, ok_whil, ok_ret, ok_retN, ok_expr, ok_brk, ok_cont, ok_pass, ok_var, ok_own, ok_k, ok_glob, ok_gdk, gdkQ_s, ok_callK, kwQ_s, arF, Option.bind_some, Option.map_some, ok_dct, ok_dix, dixQ_k, tst_callK, ok_lset, lsetQ_o, p_rep, ok_prim, ok_and, ok_or, ok_not, ok_iteE, ok_chain, ok_call, ok_cidx, cidQ0, ok_comp, ok_esnil, ok_escons, ok_t0, ok_t1, ok_seq, seqQQ_l, seqQQ_t, seqQQ_s, ok_rng, ok_rng2, ok_zip, zipQ_l, zipQ_t, ok_enum, enumQ_l, p_sorted, eqD_pair, rngQ_i, ok_tand, ok_tor, ok_tnot, tst_var, tst_own, tst_k, tst_prim, tst_ite, tst_chain, tst_call, tst_cidx, ok_bind, ok_ok, ok_no, ok_guard, Res.bind_ok, eqD_int, eqD_bool, eqD_str, eqD_nil, eqD_none, konV, setAll, seqQ_nx, seqQ_rt, seqQ_bk, seqQ_ct, ok_cons, ok_nil, p_add, p_addL, p_addT, p_addS, p_sub, p_mul, p_fdiv, p_mod, p_pow, p_neg, p_eq, p_ne, p_lt, p_le, p_gt, p_ge, p_in, p_notin, p_isN, p_notN, p_isB, p_notB, p_idxL, p_idxT, p_lst0, p_lst1, p_lst2, p_lst3, p_lst4, p_lst5, p_lst6, p_lst7, p_tup0, p_tup1, p_tup2, p_tup3, p_tup4, p_tup5, p_lenL, p_lenT, p_listL, p_listT, p_tupleL, p_tupleT, p_abs, p_max2, p_min2, p_max4, p_intI, p_intB, p_isi, p_rev, p_revT, ok_popS, popQ_o, t_b, t_i, t_n, a_n, a_t, a_l, sM_t, sM_f, sA_0, sA_1, wE_0, wE_1, List.map_cons, List.map_nil, List.set_cons_zero, List.set_cons_succ, List.getElem?_cons_zero, List.getElem?_cons_succ, Nat.reduceAdd, at0, at1, at2, at3, at4, at5, at6, ix0, ix1, ix2, List.length_cons, List.length_nil, List.nil_append, decide_eq_true_eq, onFin_rt, onFin_nx, Bool.not_eq_true', decide_eq_false_iff_not, Int.reducePow, Int.reduceNeg, Int.reduceLT, Int.reduceLE, Nat.reduceLeDiff, Int.reduceToNat, Nat.reducePow, Int.reduceSub, Int.reduceAdd, Int.reduceMul, true_and, and_true, true_or, or_true, decide_true, and_self, if_true, if_false, Bool.false_eq_true, Bool.true_eq_false, reduceCtorEq, not_false_eq_true, not_true_eq_false, reduceIte, p_dictT, dixQ_t, p_sortT, p_ninT, p_dictP, p_tupP, p_dn, p_getT, ok_dput, dputQ_o, ok_dsd, dsdQ_o, frzQ_t, frzQ_k, sM_d, sM_k, ok_dcomp, ditQ_d, ok_disp, dspQ_d, ok_kput, kputQ_o, p_dictK, p_ninK, p_getK, ok_parT]
      exact ⟨_, _, rfl⟩
    · rintro env cs' ⟨s18, s19, rfl, rfl⟩
      simp only [ok_asg, ok_par, ok_ownS, ok_newc, newQ_l, ok_cset, csetQ0, ok_app, appQ_o, ok_ins, insQ_o, ok_frz, frzQ_o, frzQ_v, ok_iteS, ok_for, ok_whil, ok_ret, ok_retN, ok_expr, ok_brk, ok_cont, ok_pass, ok_var, ok_own, ok_k, ok_glob, ok_gdk, gdkQ_s, ok_callK, kwQ_s, arF, Option.bind_some, Option.map_some, ok_dct, ok_dix, dixQ_k, tst_callK, ok_lset, lsetQ_o, p_rep, ok_prim, ok_and, ok_or, ok_not, ok_iteE, ok_chain, ok_call, ok_cidx, cidQ0, ok_comp, ok_esnil, ok_escons, ok_t0, ok_t1, ok_seq, seqQQ_l, seqQQ_t, seqQQ_s, ok_rng, ok_rng2, ok_zip, zipQ_l, zipQ_t, ok_enum, enumQ_l, p_sorted, eqD_pair, rngQ_i, ok_tand, ok_tor, ok_tnot, tst_var, tst_own, tst_k, tst_prim, tst_ite, tst_chain, tst_call, tst_cidx, ok_bind, ok_ok, ok_no, ok_guard, Res.bind_ok, eqD_int, eqD_bool, eqD_str, eqD_nil, eqD_none, konV, setAll, seqQ_nx, seqQ_rt, seqQ_bk, seqQ_ct, ok_cons, ok_nil, p_add, p_addL, p_addT, p_addS, p_sub, p_mul, p_fdiv, p_mod, p_pow, p_neg, p_eq, p_ne, p_lt, p_le, p_gt, p_ge, p_in, p_notin, p_isN, p_notN, p_isB, p_notB, p_idxL, p_idxT, p_lst0, p_lst1, p_lst2, p_lst3, p_lst4, p_lst5, p_lst6, p_lst7, p_tup0, p_tup1, p_tup2, p_tup3, p_tup4, p_tup5, p_lenL, p_lenT, p_listL, p_listT, p_tupleL, p_tupleT, p_abs, p_max2, p_min2, p_max4, p_intI, p_intB, p_isi, p_rev, p_revT, ok_popS, popQ_o, t_b, t_i, t_n, a_n, a_t, a_l, sM_t, sM_f, sA_0, sA_1, wE_0, wE_1, List.map_cons, List.map_nil, List.set_cons_zero, List.set_cons_succ, List.getElem?_cons_zero, List.getElem?_cons_succ, Nat.reduceAdd, at0, at1, at2, at3, at4, at5, at6, ix0, ix1, ix2, List.length_cons, List.length_nil, List.nil_append, decide_eq_true_eq, onFin_rt, onFin_nx, Bool.not_eq_true', decide_eq_false_iff_not, Int.reducePow, Int.reduceNeg, Int.reduceLT, Int.reduceLE, Nat.reduceLeDiff, Int.reduceToNat, Nat.reducePow, Int.reduceSub, Int.reduceAdd, Int.reduceMul, true_and, and_true, true_or, or_true, decide_true, and_self, if_true, if_false, Bool.false_eq_true, Bool.true_eq_false, reduceCtorEq, not_false_eq_true, not_true_eq_false, reduceIte, p_dictT, dixQ_t, p_sortT, p_ninT, p_dictP, p_tupP, p_dn, p_getT, ok_dput, dputQ_o, ok_dsd, dsdQ_o, frzQ_t, frzQ_k, sM_d, sM_k, ok_dcomp, ditQ_d, ok_disp, dspQ_d, ok_kput, kputQ_o, p_dictK, p_ninK, p_getK, ok_parT]
      -- its beginnings
      simp only [ok_asg, ok_par, ok_ownS, ok_newc, newQ_l, ok_cset, csetQ0, ok_app, appQ_o, ok_ins, insQ_o, ok_frz, frzQ_o, frzQ_v, ok_iteS, ok_for, ok_whil, ok_ret, ok_retN, ok_expr, ok_brk, ok_cont, ok_pass, ok_var, ok_own, ok_k, ok_glob, ok_gdk, gdkQ_s, ok_callK, kwQ_s, arF, Option.bind_some, Option.map_some, ok_dct, ok_dix, dixQ_k, tst_callK, ok_lset, lsetQ_o, p_rep, ok_prim, ok_and, ok_or, ok_not, ok_iteE, ok_chain, ok_call, ok_cidx, cidQ0, ok_comp, ok_esnil, ok_escons, ok_t0, ok_t1, ok_seq, seqQQ_l, seqQQ_t, seqQQ_s, ok_rng, ok_rng2, ok_zip, zipQ_l, zipQ_t, ok_enum, enumQ_l, p_sorted, eqD_pair, rngQ_i, ok_tand, ok_tor, ok_tnot, tst_var, tst_own, tst_k, tst_prim, tst_ite, tst_chain, tst_call, tst_cidx, ok_bind, ok_ok, ok_no, ok_guard, Res.bind_ok, eqD_int, eqD_bool, eqD_str, eqD_nil, eqD_none, konV, setAll, seqQ_nx, seqQ_rt, seqQ_bk, seqQ_ct, ok_cons, ok_nil, p_add, p_addL, p_addT, p_addS, p_sub, p_mul, p_fdiv, p_mod, p_pow, p_neg, p_eq, p_ne, p_lt, p_le, p_gt, p_ge, p_in, p_notin, p_isN, p_notN, p_isB, p_notB, p_idxL, p_idxT, p_lst0, p_lst1, p_lst2, p_lst3, p_lst4, p_lst5, p_lst6, p_lst7, p_tup0, p_tup1, p_tup2, p_tup3, p_tup4, p_tup5, p_lenL, p_lenT, p_listL, p_listT, p_tupleL, p_tupleT, p_abs, p_max2, p_min2, p_max4, p_intI, p_intB, p_isi, p_rev, p_revT, ok_popS, popQ_o, t_b, t_i, t_n, a_n, a_t, a_l, sM_t, sM_f, sA_0, sA_1, wE_0, wE_1, List.map_cons, List.map_nil, List.set_cons_zero, List.set_cons_succ, List.getElem?_cons_zero, List.getElem?_cons_succ, Nat.reduceAdd, at0, at1, at2, at3, at4, at5, at6, ix0, ix1, ix2, List.length_cons, List.length_nil, List.nil_append, decide_eq_true_eq, onFin_rt, onFin_nx, Bool.not_eq_true', decide_eq_false_iff_not, Int.reducePow, Int.reduceNeg, Int.reduceLT, Int.reduceLE, Nat.reduceLeDiff, Int.reduceToNat, Nat.reducePow, Int.reduceSub, Int.reduceAdd, Int.reduceMul, true_and, and_true, true_or, or_true, decide_true, and_self, if_true, if_false, Bool.false_eq_true, Bool.true_eq_false, reduceCtorEq, not_false_eq_true, not_true_eq_false, reduceIte, p_dictT, dixQ_t, p_sortT, p_ninT, p_dictP, p_tupP, p_dn, p_getT, ok_dput, dputQ_o, ok_dsd, dsdQ_o, frzQ_t, frzQ_k, sM_d, sM_k, ok_dcomp, ditQ_d, ok_disp, dspQ_d, ok_kput, kputQ_o, p_dictK, p_ninK, p_getK, ok_parT, s_law_1_12_4, List.length_map]
      by_cases h2 : 1 < p.length
      · rcases hw.back with ⟨rfl, _⟩ | ⟨y, q, hq, hy, rfl⟩
        · simp at h2
        · have hpq : lookB B y = some q := hB.pre g hp hq hy
          obtain ⟨a, rfl⟩ := hq.form
          have eat : atD ((a ++ [y] ++ [v]).map PyData.str) (-2) = .ok (.d (.str y)) := by
            have e1 : L2.atI ((a ++ [y] ++ [v]).map PyData.str) (-2) = some (.str y) := by
              unfold L2.atI L2.ixN
              rw [if_neg (by omega), if_pos (by simp; omega)]
              have : ((-2 : Int) + (((a ++ [y] ++ [v]).map PyData.str).length : Int)).toNat = a.length := by simp; omega
              rw [this]
              simp
            unfold atD
            rw [e1]
          rw [if_pos (show (1 : Int) < ((a ++ [y] ++ [v]).length : Int) by omega)]
          simp only [ok_asg, ok_par, ok_ownS, ok_newc, newQ_l, ok_cset, csetQ0, ok_app, appQ_o, ok_ins, insQ_o, ok_frz, frzQ_o, frzQ_v, ok_iteS, ok_for, ok_whil, ok_ret, ok_retN, ok_expr, ok_brk, ok_cont, ok_pass, ok_var, ok_own, ok_k, ok_glob, ok_gdk, gdkQ_s, ok_callK, kwQ_s, arF, Option.bind_some, Option.map_some, ok_dct, ok_dix, dixQ_k, tst_callK, ok_lset, lsetQ_o, p_rep, ok_prim, ok_and, ok_or, ok_not, ok_iteE, ok_chain, ok_call, ok_cidx, cidQ0, ok_comp, ok_esnil, ok_escons, ok_t0, ok_t1, ok_seq, seqQQ_l, seqQQ_t, seqQQ_s, ok_rng, ok_rng2, ok_zip, zipQ_l, zipQ_t, ok_enum, enumQ_l, p_sorted, eqD_pair, rngQ_i, ok_tand, ok_tor, ok_tnot, tst_var, tst_own, tst_k, tst_prim, tst_ite, tst_chain, tst_call, tst_cidx, ok_bind, ok_ok, ok_no, ok_guard, Res.bind_ok, eqD_int, eqD_bool, eqD_str, eqD_nil, eqD_none, konV, setAll, seqQ_nx, seqQ_rt, seqQ_bk, seqQ_ct, ok_cons, ok_nil, p_add, p_addL, p_addT, p_addS, p_sub, p_mul, p_fdiv, p_mod, p_pow, p_neg, p_eq, p_ne, p_lt, p_le, p_gt, p_ge, p_in, p_notin, p_isN, p_notN, p_isB, p_notB, p_idxL, p_idxT, p_lst0, p_lst1, p_lst2, p_lst3, p_lst4, p_lst5, p_lst6, p_lst7, p_tup0, p_tup1, p_tup2, p_tup3, p_tup4, p_tup5, p_lenL, p_lenT, p_listL, p_listT, p_tupleL, p_tupleT, p_abs, p_max2, p_min2, p_max4, p_intI, p_intB, p_isi, p_rev, p_revT, ok_popS, popQ_o, t_b, t_i, t_n, a_n, a_t, a_l, sM_t, sM_f, sA_0, sA_1, wE_0, wE_1, List.map_cons, List.map_nil, List.set_cons_zero, List.set_cons_succ, List.getElem?_cons_zero, List.getElem?_cons_succ, Nat.reduceAdd, at0, at1, at2, at3, at4, at5, at6, ix0, ix1, ix2, List.length_cons, List.length_nil, List.nil_append, decide_eq_true_eq, onFin_rt, onFin_nx, Bool.not_eq_true', decide_eq_false_iff_not, Int.reducePow, Int.reduceNeg, Int.reduceLT, Int.reduceLE, Nat.reduceLeDiff, Int.reduceToNat, Nat.reducePow, Int.reduceSub, Int.reduceAdd, Int.reduceMul, true_and, and_true, true_or, or_true, decide_true, and_self, if_true, if_false, Bool.false_eq_true, Bool.true_eq_false, reduceCtorEq, not_false_eq_true, not_true_eq_false, reduceIte, p_dictT, dixQ_t, p_sortT, p_ninT, p_dictP, p_tupP, p_dn, p_getT, ok_dput, dputQ_o, ok_dsd, dsdQ_o, frzQ_t, frzQ_k, sM_d, sM_k, ok_dcomp, ditQ_d, ok_disp, dspQ_d, ok_kput, kputQ_o, p_dictK, p_ninK, p_getK, ok_parT, eat]
          refine way_ok hW g hu fun B4 hB4 => ?_
          rw [hB4.uniq hB y, hpq]
          have ecm := eqD_same (cm_tstrs (xs := a ++ [y]) fun x hx => hok x (List.mem_append_left _ hx)) (by decide)
          simp only [ok_asg, ok_par, ok_ownS, ok_newc, newQ_l, ok_cset, csetQ0, ok_app, appQ_o, ok_ins, insQ_o, ok_frz, frzQ_o, frzQ_v, ok_iteS, ok_for, ok_whil, ok_ret, ok_retN, ok_expr, ok_brk, ok_cont, ok_pass, ok_var, ok_own, ok_k, ok_glob, ok_gdk, gdkQ_s, ok_callK, kwQ_s, arF, Option.bind_some, Option.map_some, ok_dct, ok_dix, dixQ_k, tst_callK, ok_lset, lsetQ_o, p_rep, ok_prim, ok_and, ok_or, ok_not, ok_iteE, ok_chain, ok_call, ok_cidx, cidQ0, ok_comp, ok_esnil, ok_escons, ok_t0, ok_t1, ok_seq, seqQQ_l, seqQQ_t, seqQQ_s, ok_rng, ok_rng2, ok_zip, zipQ_l, zipQ_t, ok_enum, enumQ_l, p_sorted, eqD_pair, rngQ_i, ok_tand, ok_tor, ok_tnot, tst_var, tst_own, tst_k, tst_prim, tst_ite, tst_chain, tst_call, tst_cidx, ok_bind, ok_ok, ok_no, ok_guard, Res.bind_ok, eqD_int, eqD_bool, eqD_str, eqD_nil, eqD_none, konV, setAll, seqQ_nx, seqQ_rt, seqQ_bk, seqQ_ct, ok_cons, ok_nil, p_add, p_addL, p_addT, p_addS, p_sub, p_mul, p_fdiv, p_mod, p_pow, p_neg, p_eq, p_ne, p_lt, p_le, p_gt, p_ge, p_in, p_notin, p_isN, p_notN, p_isB, p_notB, p_idxL, p_idxT, p_lst0, p_lst1, p_lst2, p_lst3, p_lst4, p_lst5, p_lst6, p_lst7, p_tup0, p_tup1, p_tup2, p_tup3, p_tup4, p_tup5, p_lenL, p_lenT, p_listL, p_listT, p_tupleL, p_tupleT, p_abs, p_max2, p_min2, p_max4, p_intI, p_intB, p_isi, p_rev, p_revT, ok_popS, popQ_o, t_b, t_i, t_n, a_n, a_t, a_l, sM_t, sM_f, sA_0, sA_1, wE_0, wE_1, List.map_cons, List.map_nil, List.set_cons_zero, List.set_cons_succ, List.getElem?_cons_zero, List.getElem?_cons_succ, Nat.reduceAdd, at0, at1, at2, at3, at4, at5, at6, ix0, ix1, ix2, List.length_cons, List.length_nil, List.nil_append, decide_eq_true_eq, onFin_rt, onFin_nx, Bool.not_eq_true', decide_eq_false_iff_not, Int.reducePow, Int.reduceNeg, Int.reduceLT, Int.reduceLE, Nat.reduceLeDiff, Int.reduceToNat, Nat.reducePow, Int.reduceSub, Int.reduceAdd, Int.reduceMul, true_and, and_true, true_or, or_true, decide_true, and_self, if_true, if_false, Bool.false_eq_true, Bool.true_eq_false, reduceCtorEq, not_false_eq_true, not_true_eq_false, reduceIte, p_dictT, dixQ_t, p_sortT, p_ninT, p_dictP, p_tupP, p_dn, p_getT, ok_dput, dputQ_o, ok_dsd, dsdQ_o, frzQ_t, frzQ_k, sM_d, sM_k, ok_dcomp, ditQ_d, ok_disp, dspQ_d, ok_kput, kputQ_o, p_dictK, p_ninK, p_getK, ok_parT, eo, p_sl01T]
          rw [cut_m1 (by simp), ← List.map_dropLast, List.dropLast_concat]
          simp only [ok_asg, ok_par, ok_ownS, ok_newc, newQ_l, ok_cset, csetQ0, ok_app, appQ_o, ok_ins, insQ_o, ok_frz, frzQ_o, frzQ_v, ok_iteS, ok_for, ok_whil, ok_ret, ok_retN, ok_expr, ok_brk, ok_cont, ok_pass, ok_var, ok_own, ok_k, ok_glob, ok_gdk, gdkQ_s, ok_callK, kwQ_s, arF, Option.bind_some, Option.map_some, ok_dct, ok_dix, dixQ_k, tst_callK, ok_lset, lsetQ_o, p_rep, ok_prim, ok_and, ok_or, ok_not, ok_iteE, ok_chain, ok_call, ok_cidx, cidQ0, ok_comp, ok_esnil, ok_escons, ok_t0, ok_t1, ok_seq, seqQQ_l, seqQQ_t, seqQQ_s, ok_rng, ok_rng2, ok_zip, zipQ_l, zipQ_t, ok_enum, enumQ_l, p_sorted, eqD_pair, rngQ_i, ok_tand, ok_tor, ok_tnot, tst_var, tst_own, tst_k, tst_prim, tst_ite, tst_chain, tst_call, tst_cidx, ok_bind, ok_ok, ok_no, ok_guard, Res.bind_ok, eqD_int, eqD_bool, eqD_str, eqD_nil, eqD_none, konV, setAll, seqQ_nx, seqQ_rt, seqQ_bk, seqQ_ct, ok_cons, ok_nil, p_add, p_addL, p_addT, p_addS, p_sub, p_mul, p_fdiv, p_mod, p_pow, p_neg, p_eq, p_ne, p_lt, p_le, p_gt, p_ge, p_in, p_notin, p_isN, p_notN, p_isB, p_notB, p_idxL, p_idxT, p_lst0, p_lst1, p_lst2, p_lst3, p_lst4, p_lst5, p_lst6, p_lst7, p_tup0, p_tup1, p_tup2, p_tup3, p_tup4, p_tup5, p_lenL, p_lenT, p_listL, p_listT, p_tupleL, p_tupleT, p_abs, p_max2, p_min2, p_max4, p_intI, p_intB, p_isi, p_rev, p_revT, ok_popS, popQ_o, t_b, t_i, t_n, a_n, a_t, a_l, sM_t, sM_f, sA_0, sA_1, wE_0, wE_1, List.map_cons, List.map_nil, List.set_cons_zero, List.set_cons_succ, List.getElem?_cons_zero, List.getElem?_cons_succ, Nat.reduceAdd, at0, at1, at2, at3, at4, at5, at6, ix0, ix1, ix2, List.length_cons, List.length_nil, List.nil_append, decide_eq_true_eq, onFin_rt, onFin_nx, Bool.not_eq_true', decide_eq_false_iff_not, Int.reducePow, Int.reduceNeg, Int.reduceLT, Int.reduceLE, Nat.reduceLeDiff, Int.reduceToNat, Nat.reducePow, Int.reduceSub, Int.reduceAdd, Int.reduceMul, true_and, and_true, true_or, or_true, decide_true, and_self, if_true, if_false, Bool.false_eq_true, Bool.true_eq_false, reduceCtorEq, not_false_eq_true, not_true_eq_false, reduceIte, p_dictT, dixQ_t, p_sortT, p_ninT, p_dictP, p_tupP, p_dn, p_getT, ok_dput, dputQ_o, ok_dsd, dsdQ_o, frzQ_t, frzQ_k, sM_d, sM_k, ok_dcomp, ditQ_d, ok_disp, dspQ_d, ok_kput, kputQ_o, p_dictK, p_ninK, p_getK, ok_parT, ecm, Bool.not_true]
          unfold b_law_1_12_4e
          simp only [ok_asg, ok_par, ok_ownS, ok_newc, newQ_l, ok_cset, csetQ0, ok_app, appQ_o, ok_ins, insQ_o, ok_frz, frzQ_o, frzQ_v, ok_iteS, ok_for, ok_whil, ok_ret, ok_retN, ok_expr, ok_brk, ok_cont, ok_pass, ok_var, ok_own, ok_k, ok_glob, ok_gdk, gdkQ_s, ok_callK, kwQ_s, arF, Option.bind_some, Option.map_some, ok_dct, ok_dix, dixQ_k, tst_callK, ok_lset, lsetQ_o, p_rep, ok_prim, ok_and, ok_or, ok_not, ok_iteE, ok_chain, ok_call, ok_cidx, cidQ0, ok_comp, ok_esnil, ok_escons, ok_t0, ok_t1, ok_seq, seqQQ_l, seqQQ_t, seqQQ_s, ok_rng, ok_rng2, ok_zip, zipQ_l, zipQ_t, ok_enum, enumQ_l, p_sorted, eqD_pair, rngQ_i, ok_tand, ok_tor, ok_tnot, tst_var, tst_own, tst_k, tst_prim, tst_ite, tst_chain, tst_call, tst_cidx, ok_bind, ok_ok, ok_no, ok_guard, Res.bind_ok, eqD_int, eqD_bool, eqD_str, eqD_nil, eqD_none, konV, setAll, seqQ_nx, seqQ_rt, seqQ_bk, seqQ_ct, ok_cons, ok_nil, p_add, p_addL, p_addT, p_addS, p_sub, p_mul, p_fdiv, p_mod, p_pow, p_neg, p_eq, p_ne, p_lt, p_le, p_gt, p_ge, p_in, p_notin, p_isN, p_notN, p_isB, p_notB, p_idxL, p_idxT, p_lst0, p_lst1, p_lst2, p_lst3, p_lst4, p_lst5, p_lst6, p_lst7, p_tup0, p_tup1, p_tup2, p_tup3, p_tup4, p_tup5, p_lenL, p_lenT, p_listL, p_listT, p_tupleL, p_tupleT, p_abs, p_max2, p_min2, p_max4, p_intI, p_intB, p_isi, p_rev, p_revT, ok_popS, popQ_o, t_b, t_i, t_n, a_n, a_t, a_l, sM_t, sM_f, sA_0, sA_1, wE_0, wE_1, List.map_cons, List.map_nil, List.set_cons_zero, List.set_cons_succ, List.getElem?_cons_zero, List.getElem?_cons_succ, Nat.reduceAdd, at0, at1, at2, at3, at4, at5, at6, ix0, ix1, ix2, List.length_cons, List.length_nil, List.nil_append, decide_eq_true_eq, onFin_rt, onFin_nx, Bool.not_eq_true', decide_eq_false_iff_not, Int.reducePow, Int.reduceNeg, Int.reduceLT, Int.reduceLE, Nat.reduceLeDiff, Int.reduceToNat, Nat.reducePow, Int.reduceSub, Int.reduceAdd, Int.reduceMul, true_and, and_true, true_or, or_true, decide_true, and_self, if_true, if_false, Bool.false_eq_true, Bool.true_eq_false, reduceCtorEq, not_false_eq_true, not_true_eq_false, reduceIte, p_dictT, dixQ_t, p_sortT, p_ninT, p_dictP, p_tupP, p_dn, p_getT, ok_dput, dputQ_o, ok_dsd, dsdQ_o, frzQ_t, frzQ_k, sM_d, sM_k, ok_dcomp, ditQ_d, ok_disp, dspQ_d, ok_kput, kputQ_o, p_dictK, p_ninK, p_getK, ok_parT]
          exact k _ _ _ _
      · rw [if_neg (show ¬ (1 : Int) < (p.length : Int) by omega)]
        unfold b_law_1_12_4e
        simp only [ok_asg, ok_par, ok_ownS, ok_newc, newQ_l, ok_cset, csetQ0, ok_app, appQ_o, ok_ins, insQ_o, ok_frz, frzQ_o, frzQ_v, ok_iteS, ok_for, ok_whil, ok_ret, ok_retN, ok_expr, ok_brk, ok_cont, ok_pass, ok_var, ok_own, ok_k, ok_glob, ok_gdk, gdkQ_s, ok_callK, kwQ_s, arF, Option.bind_some, Option.map_some, ok_dct, ok_dix, dixQ_k, tst_callK, ok_lset, lsetQ_o, p_rep, ok_prim, ok_and, ok_or, ok_not, ok_iteE, ok_chain, ok_call, ok_cidx, cidQ0, ok_comp, ok_esnil, ok_escons, ok_t0, ok_t1, ok_seq, seqQQ_l, seqQQ_t, seqQQ_s, ok_rng, ok_rng2, ok_zip, zipQ_l, zipQ_t, ok_enum, enumQ_l, p_sorted, eqD_pair, rngQ_i, ok_tand, ok_tor, ok_tnot, tst_var, tst_own, tst_k, tst_prim, tst_ite, tst_chain, tst_call, tst_cidx, ok_bind, ok_ok, ok_no, ok_guard, Res.bind_ok, eqD_int, eqD_bool, eqD_str, eqD_nil, eqD_none, konV, setAll, seqQ_nx, seqQ_rt, seqQ_bk, seqQ_ct, ok_cons, ok_nil, p_add, p_addL, p_addT, p_addS, p_sub, p_mul, p_fdiv, p_mod, p_pow, p_neg, p_eq, p_ne, p_lt, p_le, p_gt, p_ge, p_in, p_notin, p_isN, p_notN, p_isB, p_notB, p_idxL, p_idxT, p_lst0, p_lst1, p_lst2, p_lst3, p_lst4, p_lst5, p_lst6, p_lst7, p_tup0, p_tup1, p_tup2, p_tup3, p_tup4, p_tup5, p_lenL, p_lenT, p_listL, p_listT, p_tupleL, p_tupleT, p_abs, p_max2, p_min2, p_max4, p_intI, p_intB, p_isi, p_rev, p_revT, ok_popS, popQ_o, t_b, t_i, t_n, a_n, a_t, a_l, sM_t, sM_f, sA_0, sA_1, wE_0, wE_1, List.map_cons, List.map_nil, List.set_cons_zero, List.set_cons_succ, List.getElem?_cons_zero, List.getElem?_cons_succ, Nat.reduceAdd, at0, at1, at2, at3, at4, at5, at6, ix0, ix1, ix2, List.length_cons, List.length_nil, List.nil_append, decide_eq_true_eq, onFin_rt, onFin_nx, Bool.not_eq_true', decide_eq_false_iff_not, Int.reducePow, Int.reduceNeg, Int.reduceLT, Int.reduceLE, Nat.reduceLeDiff, Int.reduceToNat, Nat.reducePow, Int.reduceSub, Int.reduceAdd, Int.reduceMul, true_and, and_true, true_or, or_true, decide_true, and_self, if_true, if_false, Bool.false_eq_true, Bool.true_eq_false, reduceCtorEq, not_false_eq_true, not_true_eq_false, reduceIte, p_dictT, dixQ_t, p_sortT, p_ninT, p_dictP, p_tupP, p_dn, p_getT, ok_dput, dputQ_o, ok_dsd, dsdQ_o, frzQ_t, frzQ_k, sM_d, sM_k, ok_dcomp, ditQ_d, ok_disp, dspQ_d, ok_kput, kputQ_o, p_dictK, p_ninK, p_getK, ok_parT]
        exact k _ _ _ _
theorem rof_oth {r r2 : Rw} {A B : List Rw} (g : GdP (A ++ r :: B)) (e : r2.nm = r.nm) (z : Str) : (z = r.nm ∧ rof (A ++ r :: B) z = some r ∧ rof (A ++ r2 :: B) z = some r2) ∨ (z ≠ r.nm ∧ rof (A ++ r2 :: B) z = rof (A ++ r :: B) z) := by
  have h := rof_set e z B A g.nd
  by_cases c : z = r.nm
  · rw [if_pos c] at h
    exact .inl ⟨c, by rw [c]; exact rof_self B A g.nd, h⟩
  · rw [if_neg c] at h
    exact .inr ⟨c, h⟩
theorem pls_of {r rm rs : Rw} {A B : List Rw} (g : GdP (A ++ r :: B)) (m1 : rm.nm = r.nm) (m2 : rm.tk = r.tk) (m3 : rm.nx.length ≤ 2) (m4 : ∀ y ∈ rm.nx, y ∈ (A ++ r :: B).map (·.nm)) (m5 : ∀ y ∈ r.nx, y ∈ rm.nx)
    (s1 : rs.nm = r.nm) (s2 : rs.nx = r.nx) (s3 : r.tk ≤ rs.tk ∧ rs.tk ≤ 20) : Pls (A ++ r :: B) (A ++ rm :: B) (A ++ rs :: B) := by
  have hr := g.tk r (by simp)
  have hx := g.nx r (by simp)
  refine ⟨g, gd_set g m1 (by rw [m2]; exact hr) m3 m4, gd_set g s1 (by omega) (by rw [s2]; exact hx.1) (by rw [s2]; exact hx.2), ?_, ?_, fun x y hy => ?_, fun x => ?_, fun x => ?_, fun x => ?_⟩
  · rw [List.map_append, List.map_append, List.map_cons, List.map_cons, m1]
  · rw [List.map_append, List.map_append, List.map_cons, List.map_cons, s1]
  · unfold nxo at hy ⊢
    rcases rof_oth g m1 x with ⟨_, h1, h2⟩ | ⟨_, h⟩
    · rw [h1] at hy
      rw [h2]
      exact m5 y hy
    · rw [h]
      exact hy
  · unfold tko
    rcases rof_oth g m1 x with ⟨_, h1, h2⟩ | ⟨_, h⟩
    · rw [h1, h2]
      exact m2
    · rw [h]
  · unfold nxo
    rcases rof_oth g s1 x with ⟨_, h1, h2⟩ | ⟨_, h⟩
    · rw [h1, h2]
      exact s2
    · rw [h]
  · unfold tko
    rcases rof_oth g s1 x with ⟨_, h1, h2⟩ | ⟨_, h⟩
    · rw [h1, h2]
      exact s3.1
    · rw [h]
      exact Int.le_refl _
theorem rest_ok {W n : Nat} {pl more slow : List Rw} {u0 : Str} {s0 s2 s5 s6 s7 s8 s9 s10 s11 s15 s16 s17 s18 s19 s20 : Sl} {cs : Cells} {O : Out → Prop} (hW : 1100 ≤ W) (P : Pls pl more slow) (hu : u0 ∈ pl.map (·.nm))
    (k : ∀ s15 s16 s17 s18 s19, O (.nx, [s0, .v (.r 0), s2, .v (.d (.tuple (pl.map rwD))), .v (.k (tabD pl)), s5, s6, s7, s8, s9, s10, s11, .v (.d (.tuple (more.map rwD))), .v (.d (.tuple (slow.map rwD))), .v (.d (.str u0)), s15, s16, s17, s18, s19, s20], cs)) :
    Ok (evSs ⟨R.run Ds gl W (n + 2), gl, W⟩ (.cons s_law_1_10 (.cons s_law_1_11 (.cons s_law_1_12 .nil))) [s0, .v (.r 0), s2, .v (.d (.tuple (pl.map rwD))), .v (.k (tabD pl)), s5, s6, s7, s8, s9, s10, s11, .v (.d (.tuple (more.map rwD))), .v (.d (.tuple (slow.map rwD))), .v (.d (.str u0)), s15, s16, s17, s18, s19, s20] cs) O := by
  have g := P.g
  rw [ok_cons]
  simp only [ok_asg, ok_par, ok_ownS, ok_newc, newQ_l, ok_cset, csetQ0, ok_app, appQ_o, ok_ins, insQ_o, ok_frz, frzQ_o, frzQ_v, ok_iteS, ok_for, ok_whil, ok_ret, ok_retN, ok_expr, ok_brk, ok_cont, ok_pass, ok_var, ok_own, ok_k, ok_glob, ok_gdk, gdkQ_s, ok_callK, kwQ_s, arF, Option.bind_some, Option.map_some, ok_dct, ok_dix, dixQ_k, tst_callK, ok_lset, lsetQ_o, p_rep, ok_prim, ok_and, ok_or, ok_not, ok_iteE, ok_chain, ok_call, ok_cidx, cidQ0, ok_comp, ok_esnil, ok_escons, ok_t0, ok_t1, ok_seq, seqQQ_l, seqQQ_t, seqQQ_s, ok_rng, ok_rng2, ok_zip, zipQ_l, zipQ_t, ok_enum, enumQ_l, p_sorted, eqD_pair, rngQ_i, ok_tand, ok_tor, ok_tnot, tst_var, tst_own, tst_k, tst_prim, tst_ite, tst_chain, tst_call, tst_cidx, ok_bind, ok_ok, ok_no, ok_guard, Res.bind_ok, eqD_int, eqD_bool, eqD_str, eqD_nil, eqD_none, konV, setAll, seqQ_nx, seqQ_rt, seqQ_bk, seqQ_ct, ok_cons, ok_nil, p_add, p_addL, p_addT, p_addS, p_sub, p_mul, p_fdiv, p_mod, p_pow, p_neg, p_eq, p_ne, p_lt, p_le, p_gt, p_ge, p_in, p_notin, p_isN, p_notN, p_isB, p_notB, p_idxL, p_idxT, p_lst0, p_lst1, p_lst2, p_lst3, p_lst4, p_lst5, p_lst6, p_lst7, p_tup0, p_tup1, p_tup2, p_tup3, p_tup4, p_tup5, p_lenL, p_lenT, p_listL, p_listT, p_tupleL, p_tupleT, p_abs, p_max2, p_min2, p_max4, p_intI, p_intB, p_isi, p_rev, p_revT, ok_popS, popQ_o, t_b, t_i, t_n, a_n, a_t, a_l, sM_t, sM_f, sA_0, sA_1, wE_0, wE_1, List.map_cons, List.map_nil, List.set_cons_zero, List.set_cons_succ, List.getElem?_cons_zero, List.getElem?_cons_succ, Nat.reduceAdd, at0, at1, at2, at3, at4, at5, at6, ix0, ix1, ix2, List.length_cons, List.length_nil, List.nil_append, decide_eq_true_eq, onFin_rt, onFin_nx, Bool.not_eq_true', decide_eq_false_iff_not, Int.reducePow, Int.reduceNeg, Int.reduceLT, Int.reduceLE, Nat.reduceLeDiff, Int.reduceToNat, Nat.reducePow, Int.reduceSub, Int.reduceAdd, Int.reduceMul, true_and, and_true, true_or, or_true, decide_true, and_self, if_true, if_false, Bool.false_eq_true, Bool.true_eq_false, reduceCtorEq, not_false_eq_true, not_true_eq_false, reduceIte, p_dictT, dixQ_t, p_sortT, p_ninT, p_dictP, p_tupP, p_dn, p_getT, ok_dput, dputQ_o, ok_dsd, dsdQ_o, frzQ_t, frzQ_k, sM_d, sM_k, ok_dcomp, ditQ_d, ok_disp, dspQ_d, ok_kput, kputQ_o, p_dictK, p_ninK, p_getK, ok_parT, s_law_1_10]
  refine reach_ok (by omega) g hu fun F h1 h2 h3 h4 h5 => ?_
  simp only [ok_asg, ok_par, ok_ownS, ok_newc, newQ_l, ok_cset, csetQ0, ok_app, appQ_o, ok_ins, insQ_o, ok_frz, frzQ_o, frzQ_v, ok_iteS, ok_for, ok_whil, ok_ret, ok_retN, ok_expr, ok_brk, ok_cont, ok_pass, ok_var, ok_own, ok_k, ok_glob, ok_gdk, gdkQ_s, ok_callK, kwQ_s, arF, Option.bind_some, Option.map_some, ok_dct, ok_dix, dixQ_k, tst_callK, ok_lset, lsetQ_o, p_rep, ok_prim, ok_and, ok_or, ok_not, ok_iteE, ok_chain, ok_call, ok_cidx, cidQ0, ok_comp, ok_esnil, ok_escons, ok_t0, ok_t1, ok_seq, seqQQ_l, seqQQ_t, seqQQ_s, ok_rng, ok_rng2, ok_zip, zipQ_l, zipQ_t, ok_enum, enumQ_l, p_sorted, eqD_pair, rngQ_i, ok_tand, ok_tor, ok_tnot, tst_var, tst_own, tst_k, tst_prim, tst_ite, tst_chain, tst_call, tst_cidx, ok_bind, ok_ok, ok_no, ok_guard, Res.bind_ok, eqD_int, eqD_bool, eqD_str, eqD_nil, eqD_none, konV, setAll, seqQ_nx, seqQ_rt, seqQ_bk, seqQ_ct, ok_cons, ok_nil, p_add, p_addL, p_addT, p_addS, p_sub, p_mul, p_fdiv, p_mod, p_pow, p_neg, p_eq, p_ne, p_lt, p_le, p_gt, p_ge, p_in, p_notin, p_isN, p_notN, p_isB, p_notB, p_idxL, p_idxT, p_lst0, p_lst1, p_lst2, p_lst3, p_lst4, p_lst5, p_lst6, p_lst7, p_tup0, p_tup1, p_tup2, p_tup3, p_tup4, p_tup5, p_lenL, p_lenT, p_listL, p_listT, p_tupleL, p_tupleT, p_abs, p_max2, p_min2, p_max4, p_intI, p_intB, p_isi, p_rev, p_revT, ok_popS, popQ_o, t_b, t_i, t_n, a_n, a_t, a_l, sM_t, sM_f, sA_0, sA_1, wE_0, wE_1, List.map_cons, List.map_nil, List.set_cons_zero, List.set_cons_succ, List.getElem?_cons_zero, List.getElem?_cons_succ, Nat.reduceAdd, at0, at1, at2, at3, at4, at5, at6, ix0, ix1, ix2, List.length_cons, List.length_nil, List.nil_append, decide_eq_true_eq, onFin_rt, onFin_nx, Bool.not_eq_true', decide_eq_false_iff_not, Int.reducePow, Int.reduceNeg, Int.reduceLT, Int.reduceLE, Nat.reduceLeDiff, Int.reduceToNat, Nat.reducePow, Int.reduceSub, Int.reduceAdd, Int.reduceMul, true_and, and_true, true_or, or_true, decide_true, and_self, if_true, if_false, Bool.false_eq_true, Bool.true_eq_false, reduceCtorEq, not_false_eq_true, not_true_eq_false, reduceIte, p_dictT, dixQ_t, p_sortT, p_ninT, p_dictP, p_tupP, p_dn, p_getT, ok_dput, dputQ_o, ok_dsd, dsdQ_o, frzQ_t, frzQ_k, sM_d, sM_k, ok_dcomp, ditQ_d, ok_disp, dspQ_d, ok_kput, kputQ_o, p_dictK, p_ninK, p_getK, ok_parT]
  refine ok_lcE PyData.str (fun _ => none) F (fun z hz T t => ?_) (line_le (by omega)) ?_
  · rw [ok_cstep]
    simp only [ok_asg, ok_par, ok_ownS, ok_newc, newQ_l, ok_cset, csetQ0, ok_app, appQ_o, ok_ins, insQ_o, ok_frz, frzQ_o, frzQ_v, ok_iteS, ok_for, ok_whil, ok_ret, ok_retN, ok_expr, ok_brk, ok_cont, ok_pass, ok_var, ok_own, ok_k, ok_glob, ok_gdk, gdkQ_s, ok_callK, kwQ_s, arF, Option.bind_some, Option.map_some, ok_dct, ok_dix, dixQ_k, tst_callK, ok_lset, lsetQ_o, p_rep, ok_prim, ok_and, ok_or, ok_not, ok_iteE, ok_chain, ok_call, ok_cidx, cidQ0, ok_comp, ok_esnil, ok_escons, ok_t0, ok_t1, ok_seq, seqQQ_l, seqQQ_t, seqQQ_s, ok_rng, ok_rng2, ok_zip, zipQ_l, zipQ_t, ok_enum, enumQ_l, p_sorted, eqD_pair, rngQ_i, ok_tand, ok_tor, ok_tnot, tst_var, tst_own, tst_k, tst_prim, tst_ite, tst_chain, tst_call, tst_cidx, ok_bind, ok_ok, ok_no, ok_guard, Res.bind_ok, eqD_int, eqD_bool, eqD_str, eqD_nil, eqD_none, konV, setAll, seqQ_nx, seqQ_rt, seqQ_bk, seqQ_ct, ok_cons, ok_nil, p_add, p_addL, p_addT, p_addS, p_sub, p_mul, p_fdiv, p_mod, p_pow, p_neg, p_eq, p_ne, p_lt, p_le, p_gt, p_ge, p_in, p_notin, p_isN, p_notN, p_isB, p_notB, p_idxL, p_idxT, p_lst0, p_lst1, p_lst2, p_lst3, p_lst4, p_lst5, p_lst6, p_lst7, p_tup0, p_tup1, p_tup2, p_tup3, p_tup4, p_tup5, p_lenL, p_lenT, p_listL, p_listT, p_tupleL, p_tupleT, p_abs, p_max2, p_min2, p_max4, p_intI, p_intB, p_isi, p_rev, p_revT, ok_popS, popQ_o, t_b, t_i, t_n, a_n, a_t, a_l, sM_t, sM_f, sA_0, sA_1, wE_0, wE_1, List.map_cons, List.map_nil, List.set_cons_zero, List.set_cons_succ, List.getElem?_cons_zero, List.getElem?_cons_succ, Nat.reduceAdd, at0, at1, at2, at3, at4, at5, at6, ix0, ix1, ix2, List.length_cons, List.length_nil, List.nil_append, decide_eq_true_eq, onFin_rt, onFin_nx, Bool.not_eq_true', decide_eq_false_iff_not, Int.reducePow, Int.reduceNeg, Int.reduceLT, Int.reduceLE, Nat.reduceLeDiff, Int.reduceToNat, Nat.reducePow, Int.reduceSub, Int.reduceAdd, Int.reduceMul, true_and, and_true, true_or, or_true, decide_true, and_self, if_true, if_false, Bool.false_eq_true, Bool.true_eq_false, reduceCtorEq, not_false_eq_true, not_true_eq_false, reduceIte, p_dictT, dixQ_t, p_sortT, p_ninT, p_dictP, p_tupP, p_dn, p_getT, ok_dput, dputQ_o, ok_dsd, dsdQ_o, frzQ_t, frzQ_k, sM_d, sM_k, ok_dcomp, ditQ_d, ok_disp, dspQ_d, ok_kput, kputQ_o, p_dictK, p_ninK, p_getK, ok_parT]
    refine reach_ok (by omega) P.gm (by rw [P.nm]; exact hu) fun F2 i1 i2 i3 i4 i5 => ?_
    have hin : z ∈ F2 := by
      obtain ⟨p, hp⟩ := (h1 z).mp hz
      exact (i1 z).mpr ⟨p, hp.up P.mx⟩
    simp only [ok_asg, ok_par, ok_ownS, ok_newc, newQ_l, ok_cset, csetQ0, ok_app, appQ_o, ok_ins, insQ_o, ok_frz, frzQ_o, frzQ_v, ok_iteS, ok_for, ok_whil, ok_ret, ok_retN, ok_expr, ok_brk, ok_cont, ok_pass, ok_var, ok_own, ok_k, ok_glob, ok_gdk, gdkQ_s, ok_callK, kwQ_s, arF, Option.bind_some, Option.map_some, ok_dct, ok_dix, dixQ_k, tst_callK, ok_lset, lsetQ_o, p_rep, ok_prim, ok_and, ok_or, ok_not, ok_iteE, ok_chain, ok_call, ok_cidx, cidQ0, ok_comp, ok_esnil, ok_escons, ok_t0, ok_t1, ok_seq, seqQQ_l, seqQQ_t, seqQQ_s, ok_rng, ok_rng2, ok_zip, zipQ_l, zipQ_t, ok_enum, enumQ_l, p_sorted, eqD_pair, rngQ_i, ok_tand, ok_tor, ok_tnot, tst_var, tst_own, tst_k, tst_prim, tst_ite, tst_chain, tst_call, tst_cidx, ok_bind, ok_ok, ok_no, ok_guard, Res.bind_ok, eqD_int, eqD_bool, eqD_str, eqD_nil, eqD_none, konV, setAll, seqQ_nx, seqQ_rt, seqQ_bk, seqQ_ct, ok_cons, ok_nil, p_add, p_addL, p_addT, p_addS, p_sub, p_mul, p_fdiv, p_mod, p_pow, p_neg, p_eq, p_ne, p_lt, p_le, p_gt, p_ge, p_in, p_notin, p_isN, p_notN, p_isB, p_notB, p_idxL, p_idxT, p_lst0, p_lst1, p_lst2, p_lst3, p_lst4, p_lst5, p_lst6, p_lst7, p_tup0, p_tup1, p_tup2, p_tup3, p_tup4, p_tup5, p_lenL, p_lenT, p_listL, p_listT, p_tupleL, p_tupleT, p_abs, p_max2, p_min2, p_max4, p_intI, p_intB, p_isi, p_rev, p_revT, ok_popS, popQ_o, t_b, t_i, t_n, a_n, a_t, a_l, sM_t, sM_f, sA_0, sA_1, wE_0, wE_1, List.map_cons, List.map_nil, List.set_cons_zero, List.set_cons_succ, List.getElem?_cons_zero, List.getElem?_cons_succ, Nat.reduceAdd, at0, at1, at2, at3, at4, at5, at6, ix0, ix1, ix2, List.length_cons, List.length_nil, List.nil_append, decide_eq_true_eq, onFin_rt, onFin_nx, Bool.not_eq_true', decide_eq_false_iff_not, Int.reducePow, Int.reduceNeg, Int.reduceLT, Int.reduceLE, Nat.reduceLeDiff, Int.reduceToNat, Nat.reducePow, Int.reduceSub, Int.reduceAdd, Int.reduceMul, true_and, and_true, true_or, or_true, decide_true, and_self, if_true, if_false, Bool.false_eq_true, Bool.true_eq_false, reduceCtorEq, not_false_eq_true, not_true_eq_false, reduceIte, p_dictT, dixQ_t, p_sortT, p_ninT, p_dictP, p_tupP, p_dn, p_getT, ok_dput, dputQ_o, ok_dsd, dsdQ_o, frzQ_t, frzQ_k, sM_d, sM_k, ok_dcomp, ditQ_d, ok_disp, dspQ_d, ok_kput, kputQ_o, p_dictK, p_ninK, p_getK, ok_parT, in_strs (h5 z hz) i5, decide_eq_true hin, Bool.not_true]
    exact t
  · rw [fm_none]
    simp only [ok_asg, ok_par, ok_ownS, ok_newc, newQ_l, ok_cset, csetQ0, ok_app, appQ_o, ok_ins, insQ_o, ok_frz, frzQ_o, frzQ_v, ok_iteS, ok_for, ok_whil, ok_ret, ok_retN, ok_expr, ok_brk, ok_cont, ok_pass, ok_var, ok_own, ok_k, ok_glob, ok_gdk, gdkQ_s, ok_callK, kwQ_s, arF, Option.bind_some, Option.map_some, ok_dct, ok_dix, dixQ_k, tst_callK, ok_lset, lsetQ_o, p_rep, ok_prim, ok_and, ok_or, ok_not, ok_iteE, ok_chain, ok_call, ok_cidx, cidQ0, ok_comp, ok_esnil, ok_escons, ok_t0, ok_t1, ok_seq, seqQQ_l, seqQQ_t, seqQQ_s, ok_rng, ok_rng2, ok_zip, zipQ_l, zipQ_t, ok_enum, enumQ_l, p_sorted, eqD_pair, rngQ_i, ok_tand, ok_tor, ok_tnot, tst_var, tst_own, tst_k, tst_prim, tst_ite, tst_chain, tst_call, tst_cidx, ok_bind, ok_ok, ok_no, ok_guard, Res.bind_ok, eqD_int, eqD_bool, eqD_str, eqD_nil, eqD_none, konV, setAll, seqQ_nx, seqQ_rt, seqQ_bk, seqQ_ct, ok_cons, ok_nil, p_add, p_addL, p_addT, p_addS, p_sub, p_mul, p_fdiv, p_mod, p_pow, p_neg, p_eq, p_ne, p_lt, p_le, p_gt, p_ge, p_in, p_notin, p_isN, p_notN, p_isB, p_notB, p_idxL, p_idxT, p_lst0, p_lst1, p_lst2, p_lst3, p_lst4, p_lst5, p_lst6, p_lst7, p_tup0, p_tup1, p_tup2, p_tup3, p_tup4, p_tup5, p_lenL, p_lenT, p_listL, p_listT, p_tupleL, p_tupleT, p_abs, p_max2, p_min2, p_max4, p_intI, p_intB, p_isi, p_rev, p_revT, ok_popS, popQ_o, t_b, t_i, t_n, a_n, a_t, a_l, sM_t, sM_f, sA_0, sA_1, wE_0, wE_1, List.map_cons, List.map_nil, List.set_cons_zero, List.set_cons_succ, List.getElem?_cons_zero, List.getElem?_cons_succ, Nat.reduceAdd, at0, at1, at2, at3, at4, at5, at6, ix0, ix1, ix2, List.length_cons, List.length_nil, List.nil_append, decide_eq_true_eq, onFin_rt, onFin_nx, Bool.not_eq_true', decide_eq_false_iff_not, Int.reducePow, Int.reduceNeg, Int.reduceLT, Int.reduceLE, Nat.reduceLeDiff, Int.reduceToNat, Nat.reducePow, Int.reduceSub, Int.reduceAdd, Int.reduceMul, true_and, and_true, true_or, or_true, decide_true, and_self, if_true, if_false, Bool.false_eq_true, Bool.true_eq_false, reduceCtorEq, not_false_eq_true, not_true_eq_false, reduceIte, p_dictT, dixQ_t, p_sortT, p_ninT, p_dictP, p_tupP, p_dn, p_getT, ok_dput, dputQ_o, ok_dsd, dsdQ_o, frzQ_t, frzQ_k, sM_d, sM_k, ok_dcomp, ditQ_d, ok_disp, dspQ_d, ok_kput, kputQ_o, p_dictK, p_ninK, p_getK, ok_parT, Bool.not_true]
    unfold b_law_1_10e
    simp only [ok_asg, ok_par, ok_ownS, ok_newc, newQ_l, ok_cset, csetQ0, ok_app, appQ_o, ok_ins, insQ_o, ok_frz, frzQ_o, frzQ_v, ok_iteS, ok_for, ok_whil, ok_ret, ok_retN, ok_expr, ok_brk, ok_cont, ok_pass, ok_var, ok_own, ok_k, ok_glob, ok_gdk, gdkQ_s, ok_callK, kwQ_s, arF, Option.bind_some, Option.map_some, ok_dct, ok_dix, dixQ_k, tst_callK, ok_lset, lsetQ_o, p_rep, ok_prim, ok_and, ok_or, ok_not, ok_iteE, ok_chain, ok_call, ok_cidx, cidQ0, ok_comp, ok_esnil, ok_escons, ok_t0, ok_t1, ok_seq, seqQQ_l, seqQQ_t, seqQQ_s, ok_rng, ok_rng2, ok_zip, zipQ_l, zipQ_t, ok_enum, enumQ_l, p_sorted, eqD_pair, rngQ_i, ok_tand, ok_tor, ok_tnot, tst_var, tst_own, tst_k, tst_prim, tst_ite, tst_chain, tst_call, tst_cidx, ok_bind, ok_ok, ok_no, ok_guard, Res.bind_ok, eqD_int, eqD_bool, eqD_str, eqD_nil, eqD_none, konV, setAll, seqQ_nx, seqQ_rt, seqQ_bk, seqQ_ct, ok_cons, ok_nil, p_add, p_addL, p_addT, p_addS, p_sub, p_mul, p_fdiv, p_mod, p_pow, p_neg, p_eq, p_ne, p_lt, p_le, p_gt, p_ge, p_in, p_notin, p_isN, p_notN, p_isB, p_notB, p_idxL, p_idxT, p_lst0, p_lst1, p_lst2, p_lst3, p_lst4, p_lst5, p_lst6, p_lst7, p_tup0, p_tup1, p_tup2, p_tup3, p_tup4, p_tup5, p_lenL, p_lenT, p_listL, p_listT, p_tupleL, p_tupleT, p_abs, p_max2, p_min2, p_max4, p_intI, p_intB, p_isi, p_rev, p_revT, ok_popS, popQ_o, t_b, t_i, t_n, a_n, a_t, a_l, sM_t, sM_f, sA_0, sA_1, wE_0, wE_1, List.map_cons, List.map_nil, List.set_cons_zero, List.set_cons_succ, List.getElem?_cons_zero, List.getElem?_cons_succ, Nat.reduceAdd, at0, at1, at2, at3, at4, at5, at6, ix0, ix1, ix2, List.length_cons, List.length_nil, List.nil_append, decide_eq_true_eq, onFin_rt, onFin_nx, Bool.not_eq_true', decide_eq_false_iff_not, Int.reducePow, Int.reduceNeg, Int.reduceLT, Int.reduceLE, Nat.reduceLeDiff, Int.reduceToNat, Nat.reducePow, Int.reduceSub, Int.reduceAdd, Int.reduceMul, true_and, and_true, true_or, or_true, decide_true, and_self, if_true, if_false, Bool.false_eq_true, Bool.true_eq_false, reduceCtorEq, not_false_eq_true, not_true_eq_false, reduceIte, p_dictT, dixQ_t, p_sortT, p_ninT, p_dictP, p_tupP, p_dn, p_getT, ok_dput, dputQ_o, ok_dsd, dsdQ_o, frzQ_t, frzQ_k, sM_d, sM_k, ok_dcomp, ditQ_d, ok_disp, dspQ_d, ok_kput, kputQ_o, p_dictK, p_ninK, p_getK, ok_parT]
    simp only [ok_asg, ok_par, ok_ownS, ok_newc, newQ_l, ok_cset, csetQ0, ok_app, appQ_o, ok_ins, insQ_o, ok_frz, frzQ_o, frzQ_v, ok_iteS, ok_for, ok_whil, ok_ret, ok_retN, ok_expr, ok_brk, ok_cont, ok_pass, ok_var, ok_own, ok_k, ok_glob, ok_gdk, gdkQ_s, ok_callK, kwQ_s, arF, Option.bind_some, Option.map_some, ok_dct, ok_dix, dixQ_k, tst_callK, ok_lset, lsetQ_o, p_rep, ok_prim, ok_and, ok_or, ok_not, ok_iteE, ok_chain, ok_call, ok_cidx, cidQ0, ok_comp, ok_esnil, ok_escons, ok_t0, ok_t1, ok_seq, seqQQ_l, seqQQ_t, seqQQ_s, ok_rng, ok_rng2, ok_zip, zipQ_l, zipQ_t, ok_enum, enumQ_l, p_sorted, eqD_pair, rngQ_i, ok_tand, ok_tor, ok_tnot, tst_var, tst_own, tst_k, tst_prim, tst_ite, tst_chain, tst_call, tst_cidx, ok_bind, ok_ok, ok_no, ok_guard, Res.bind_ok, eqD_int, eqD_bool, eqD_str, eqD_nil, eqD_none, konV, setAll, seqQ_nx, seqQ_rt, seqQ_bk, seqQ_ct, ok_cons, ok_nil, p_add, p_addL, p_addT, p_addS, p_sub, p_mul, p_fdiv, p_mod, p_pow, p_neg, p_eq, p_ne, p_lt, p_le, p_gt, p_ge, p_in, p_notin, p_isN, p_notN, p_isB, p_notB, p_idxL, p_idxT, p_lst0, p_lst1, p_lst2, p_lst3, p_lst4, p_lst5, p_lst6, p_lst7, p_tup0, p_tup1, p_tup2, p_tup3, p_tup4, p_tup5, p_lenL, p_lenT, p_listL, p_listT, p_tupleL, p_tupleT, p_abs, p_max2, p_min2, p_max4, p_intI, p_intB, p_isi, p_rev, p_revT, ok_popS, popQ_o, t_b, t_i, t_n, a_n, a_t, a_l, sM_t, sM_f, sA_0, sA_1, wE_0, wE_1, List.map_cons, List.map_nil, List.set_cons_zero, List.set_cons_succ, List.getElem?_cons_zero, List.getElem?_cons_succ, Nat.reduceAdd, at0, at1, at2, at3, at4, at5, at6, ix0, ix1, ix2, List.length_cons, List.length_nil, List.nil_append, decide_eq_true_eq, onFin_rt, onFin_nx, Bool.not_eq_true', decide_eq_false_iff_not, Int.reducePow, Int.reduceNeg, Int.reduceLT, Int.reduceLE, Nat.reduceLeDiff, Int.reduceToNat, Nat.reducePow, Int.reduceSub, Int.reduceAdd, Int.reduceMul, true_and, and_true, true_or, or_true, decide_true, and_self, if_true, if_false, Bool.false_eq_true, Bool.true_eq_false, reduceCtorEq, not_false_eq_true, not_true_eq_false, reduceIte, p_dictT, dixQ_t, p_sortT, p_ninT, p_dictP, p_tupP, p_dn, p_getT, ok_dput, dputQ_o, ok_dsd, dsdQ_o, frzQ_t, frzQ_k, sM_d, sM_k, ok_dcomp, ditQ_d, ok_disp, dspQ_d, ok_kput, kputQ_o, p_dictK, p_ninK, p_getK, ok_parT, s_law_1_11]
    refine reach_ok (by omega) P.gs (by rw [P.ns]; exact hu) fun F3 j1 j2 j3 j4 j5 => ?_
    simp only [ok_asg, ok_par, ok_ownS, ok_newc, newQ_l, ok_cset, csetQ0, ok_app, appQ_o, ok_ins, insQ_o, ok_frz, frzQ_o, frzQ_v, ok_iteS, ok_for, ok_whil, ok_ret, ok_retN, ok_expr, ok_brk, ok_cont, ok_pass, ok_var, ok_own, ok_k, ok_glob, ok_gdk, gdkQ_s, ok_callK, kwQ_s, arF, Option.bind_some, Option.map_some, ok_dct, ok_dix, dixQ_k, tst_callK, ok_lset, lsetQ_o, p_rep, ok_prim, ok_and, ok_or, ok_not, ok_iteE, ok_chain, ok_call, ok_cidx, cidQ0, ok_comp, ok_esnil, ok_escons, ok_t0, ok_t1, ok_seq, seqQQ_l, seqQQ_t, seqQQ_s, ok_rng, ok_rng2, ok_zip, zipQ_l, zipQ_t, ok_enum, enumQ_l, p_sorted, eqD_pair, rngQ_i, ok_tand, ok_tor, ok_tnot, tst_var, tst_own, tst_k, tst_prim, tst_ite, tst_chain, tst_call, tst_cidx, ok_bind, ok_ok, ok_no, ok_guard, Res.bind_ok, eqD_int, eqD_bool, eqD_str, eqD_nil, eqD_none, konV, setAll, seqQ_nx, seqQ_rt, seqQ_bk, seqQ_ct, ok_cons, ok_nil, p_add, p_addL, p_addT, p_addS, p_sub, p_mul, p_fdiv, p_mod, p_pow, p_neg, p_eq, p_ne, p_lt, p_le, p_gt, p_ge, p_in, p_notin, p_isN, p_notN, p_isB, p_notB, p_idxL, p_idxT, p_lst0, p_lst1, p_lst2, p_lst3, p_lst4, p_lst5, p_lst6, p_lst7, p_tup0, p_tup1, p_tup2, p_tup3, p_tup4, p_tup5, p_lenL, p_lenT, p_listL, p_listT, p_tupleL, p_tupleT, p_abs, p_max2, p_min2, p_max4, p_intI, p_intB, p_isi, p_rev, p_revT, ok_popS, popQ_o, t_b, t_i, t_n, a_n, a_t, a_l, sM_t, sM_f, sA_0, sA_1, wE_0, wE_1, List.map_cons, List.map_nil, List.set_cons_zero, List.set_cons_succ, List.getElem?_cons_zero, List.getElem?_cons_succ, Nat.reduceAdd, at0, at1, at2, at3, at4, at5, at6, ix0, ix1, ix2, List.length_cons, List.length_nil, List.nil_append, decide_eq_true_eq, onFin_rt, onFin_nx, Bool.not_eq_true', decide_eq_false_iff_not, Int.reducePow, Int.reduceNeg, Int.reduceLT, Int.reduceLE, Nat.reduceLeDiff, Int.reduceToNat, Nat.reducePow, Int.reduceSub, Int.reduceAdd, Int.reduceMul, true_and, and_true, true_or, or_true, decide_true, and_self, if_true, if_false, Bool.false_eq_true, Bool.true_eq_false, reduceCtorEq, not_false_eq_true, not_true_eq_false, reduceIte, p_dictT, dixQ_t, p_sortT, p_ninT, p_dictP, p_tupP, p_dn, p_getT, ok_dput, dputQ_o, ok_dsd, dsdQ_o, frzQ_t, frzQ_k, sM_d, sM_k, ok_dcomp, ditQ_d, ok_disp, dspQ_d, ok_kput, kputQ_o, p_dictK, p_ninK, p_getK, ok_parT]
    refine reach_ok (by omega) g hu fun F4 k1 k2 k3 k4 k5 => ?_
    have e34 : F3 = F4 := by
      refine sort_one ((List.perm_ext_iff_of_nodup j3 k3).mpr fun z => ?_) j2 k2
      rw [j1, k1]
      exact ⟨fun ⟨p, hp⟩ => ⟨p, hp.up fun x y hy => by rw [P.sx] at hy; exact hy⟩, fun ⟨p, hp⟩ => ⟨p, hp.up fun x y hy => by rw [P.sx]; exact hy⟩⟩
    rw [e34]
    simp only [ok_asg, ok_par, ok_ownS, ok_newc, newQ_l, ok_cset, csetQ0, ok_app, appQ_o, ok_ins, insQ_o, ok_frz, frzQ_o, frzQ_v, ok_iteS, ok_for, ok_whil, ok_ret, ok_retN, ok_expr, ok_brk, ok_cont, ok_pass, ok_var, ok_own, ok_k, ok_glob, ok_gdk, gdkQ_s, ok_callK, kwQ_s, arF, Option.bind_some, Option.map_some, ok_dct, ok_dix, dixQ_k, tst_callK, ok_lset, lsetQ_o, p_rep, ok_prim, ok_and, ok_or, ok_not, ok_iteE, ok_chain, ok_call, ok_cidx, cidQ0, ok_comp, ok_esnil, ok_escons, ok_t0, ok_t1, ok_seq, seqQQ_l, seqQQ_t, seqQQ_s, ok_rng, ok_rng2, ok_zip, zipQ_l, zipQ_t, ok_enum, enumQ_l, p_sorted, eqD_pair, rngQ_i, ok_tand, ok_tor, ok_tnot, tst_var, tst_own, tst_k, tst_prim, tst_ite, tst_chain, tst_call, tst_cidx, ok_bind, ok_ok, ok_no, ok_guard, Res.bind_ok, eqD_int, eqD_bool, eqD_str, eqD_nil, eqD_none, konV, setAll, seqQ_nx, seqQ_rt, seqQ_bk, seqQ_ct, ok_cons, ok_nil, p_add, p_addL, p_addT, p_addS, p_sub, p_mul, p_fdiv, p_mod, p_pow, p_neg, p_eq, p_ne, p_lt, p_le, p_gt, p_ge, p_in, p_notin, p_isN, p_notN, p_isB, p_notB, p_idxL, p_idxT, p_lst0, p_lst1, p_lst2, p_lst3, p_lst4, p_lst5, p_lst6, p_lst7, p_tup0, p_tup1, p_tup2, p_tup3, p_tup4, p_tup5, p_lenL, p_lenT, p_listL, p_listT, p_tupleL, p_tupleT, p_abs, p_max2, p_min2, p_max4, p_intI, p_intB, p_isi, p_rev, p_revT, ok_popS, popQ_o, t_b, t_i, t_n, a_n, a_t, a_l, sM_t, sM_f, sA_0, sA_1, wE_0, wE_1, List.map_cons, List.map_nil, List.set_cons_zero, List.set_cons_succ, List.getElem?_cons_zero, List.getElem?_cons_succ, Nat.reduceAdd, at0, at1, at2, at3, at4, at5, at6, ix0, ix1, ix2, List.length_cons, List.length_nil, List.nil_append, decide_eq_true_eq, onFin_rt, onFin_nx, Bool.not_eq_true', decide_eq_false_iff_not, Int.reducePow, Int.reduceNeg, Int.reduceLT, Int.reduceLE, Nat.reduceLeDiff, Int.reduceToNat, Nat.reducePow, Int.reduceSub, Int.reduceAdd, Int.reduceMul, true_and, and_true, true_or, or_true, decide_true, and_self, if_true, if_false, Bool.false_eq_true, Bool.true_eq_false, reduceCtorEq, not_false_eq_true, not_true_eq_false, reduceIte, p_dictT, dixQ_t, p_sortT, p_ninT, p_dictP, p_tupP, p_dn, p_getT, ok_dput, dputQ_o, ok_dsd, dsdQ_o, frzQ_t, frzQ_k, sM_d, sM_k, ok_dcomp, ditQ_d, ok_disp, dspQ_d, ok_kput, kputQ_o, p_dictK, p_ninK, p_getK, ok_parT, eqD_same (cm_strs k5) (by decide), Bool.not_true]
    unfold b_law_1_11e
    simp only [ok_asg, ok_par, ok_ownS, ok_newc, newQ_l, ok_cset, csetQ0, ok_app, appQ_o, ok_ins, insQ_o, ok_frz, frzQ_o, frzQ_v, ok_iteS, ok_for, ok_whil, ok_ret, ok_retN, ok_expr, ok_brk, ok_cont, ok_pass, ok_var, ok_own, ok_k, ok_glob, ok_gdk, gdkQ_s, ok_callK, kwQ_s, arF, Option.bind_some, Option.map_some, ok_dct, ok_dix, dixQ_k, tst_callK, ok_lset, lsetQ_o, p_rep, ok_prim, ok_and, ok_or, ok_not, ok_iteE, ok_chain, ok_call, ok_cidx, cidQ0, ok_comp, ok_esnil, ok_escons, ok_t0, ok_t1, ok_seq, seqQQ_l, seqQQ_t, seqQQ_s, ok_rng, ok_rng2, ok_zip, zipQ_l, zipQ_t, ok_enum, enumQ_l, p_sorted, eqD_pair, rngQ_i, ok_tand, ok_tor, ok_tnot, tst_var, tst_own, tst_k, tst_prim, tst_ite, tst_chain, tst_call, tst_cidx, ok_bind, ok_ok, ok_no, ok_guard, Res.bind_ok, eqD_int, eqD_bool, eqD_str, eqD_nil, eqD_none, konV, setAll, seqQ_nx, seqQ_rt, seqQ_bk, seqQ_ct, ok_cons, ok_nil, p_add, p_addL, p_addT, p_addS, p_sub, p_mul, p_fdiv, p_mod, p_pow, p_neg, p_eq, p_ne, p_lt, p_le, p_gt, p_ge, p_in, p_notin, p_isN, p_notN, p_isB, p_notB, p_idxL, p_idxT, p_lst0, p_lst1, p_lst2, p_lst3, p_lst4, p_lst5, p_lst6, p_lst7, p_tup0, p_tup1, p_tup2, p_tup3, p_tup4, p_tup5, p_lenL, p_lenT, p_listL, p_listT, p_tupleL, p_tupleT, p_abs, p_max2, p_min2, p_max4, p_intI, p_intB, p_isi, p_rev, p_revT, ok_popS, popQ_o, t_b, t_i, t_n, a_n, a_t, a_l, sM_t, sM_f, sA_0, sA_1, wE_0, wE_1, List.map_cons, List.map_nil, List.set_cons_zero, List.set_cons_succ, List.getElem?_cons_zero, List.getElem?_cons_succ, Nat.reduceAdd, at0, at1, at2, at3, at4, at5, at6, ix0, ix1, ix2, List.length_cons, List.length_nil, List.nil_append, decide_eq_true_eq, onFin_rt, onFin_nx, Bool.not_eq_true', decide_eq_false_iff_not, Int.reducePow, Int.reduceNeg, Int.reduceLT, Int.reduceLE, Nat.reduceLeDiff, Int.reduceToNat, Nat.reducePow, Int.reduceSub, Int.reduceAdd, Int.reduceMul, true_and, and_true, true_or, or_true, decide_true, and_self, if_true, if_false, Bool.false_eq_true, Bool.true_eq_false, reduceCtorEq, not_false_eq_true, not_true_eq_false, reduceIte, p_dictT, dixQ_t, p_sortT, p_ninT, p_dictP, p_tupP, p_dn, p_getT, ok_dput, dputQ_o, ok_dsd, dsdQ_o, frzQ_t, frzQ_k, sM_d, sM_k, ok_dcomp, ditQ_d, ok_disp, dspQ_d, ok_kput, kputQ_o, p_dictK, p_ninK, p_getK, ok_parT]
    simp only [ok_asg, ok_par, ok_ownS, ok_newc, newQ_l, ok_cset, csetQ0, ok_app, appQ_o, ok_ins, insQ_o, ok_frz, frzQ_o, frzQ_v, ok_iteS, ok_for, ok_whil, ok_ret, ok_retN, ok_expr, ok_brk, ok_cont, ok_pass, ok_var, ok_own, ok_k, ok_glob, ok_gdk, gdkQ_s, ok_callK, kwQ_s, arF, Option.bind_some, Option.map_some, ok_dct, ok_dix, dixQ_k, tst_callK, ok_lset, lsetQ_o, p_rep, ok_prim, ok_and, ok_or, ok_not, ok_iteE, ok_chain, ok_call, ok_cidx, cidQ0, ok_comp, ok_esnil, ok_escons, ok_t0, ok_t1, ok_seq, seqQQ_l, seqQQ_t, seqQQ_s, ok_rng, ok_rng2, ok_zip, zipQ_l, zipQ_t, ok_enum, enumQ_l, p_sorted, eqD_pair, rngQ_i, ok_tand, ok_tor, ok_tnot, tst_var, tst_own, tst_k, tst_prim, tst_ite, tst_chain, tst_call, tst_cidx, ok_bind, ok_ok, ok_no, ok_guard, Res.bind_ok, eqD_int, eqD_bool, eqD_str, eqD_nil, eqD_none, konV, setAll, seqQ_nx, seqQ_rt, seqQ_bk, seqQ_ct, ok_cons, ok_nil, p_add, p_addL, p_addT, p_addS, p_sub, p_mul, p_fdiv, p_mod, p_pow, p_neg, p_eq, p_ne, p_lt, p_le, p_gt, p_ge, p_in, p_notin, p_isN, p_notN, p_isB, p_notB, p_idxL, p_idxT, p_lst0, p_lst1, p_lst2, p_lst3, p_lst4, p_lst5, p_lst6, p_lst7, p_tup0, p_tup1, p_tup2, p_tup3, p_tup4, p_tup5, p_lenL, p_lenT, p_listL, p_listT, p_tupleL, p_tupleT, p_abs, p_max2, p_min2, p_max4, p_intI, p_intB, p_isi, p_rev, p_revT, ok_popS, popQ_o, t_b, t_i, t_n, a_n, a_t, a_l, sM_t, sM_f, sA_0, sA_1, wE_0, wE_1, List.map_cons, List.map_nil, List.set_cons_zero, List.set_cons_succ, List.getElem?_cons_zero, List.getElem?_cons_succ, Nat.reduceAdd, at0, at1, at2, at3, at4, at5, at6, ix0, ix1, ix2, List.length_cons, List.length_nil, List.nil_append, decide_eq_true_eq, onFin_rt, onFin_nx, Bool.not_eq_true', decide_eq_false_iff_not, Int.reducePow, Int.reduceNeg, Int.reduceLT, Int.reduceLE, Nat.reduceLeDiff, Int.reduceToNat, Nat.reducePow, Int.reduceSub, Int.reduceAdd, Int.reduceMul, true_and, and_true, true_or, or_true, decide_true, and_self, if_true, if_false, Bool.false_eq_true, Bool.true_eq_false, reduceCtorEq, not_false_eq_true, not_true_eq_false, reduceIte, p_dictT, dixQ_t, p_sortT, p_ninT, p_dictP, p_tupP, p_dn, p_getT, ok_dput, dputQ_o, ok_dsd, dsdQ_o, frzQ_t, frzQ_k, sM_d, sM_k, ok_dcomp, ditQ_d, ok_disp, dspQ_d, ok_kput, kputQ_o, p_dictK, p_ninK, p_getK, ok_parT, s_law_1_12]
    refine reach_ok (by omega) g hu fun F5 l1 l2 l3 l4 l5 => ?_
    simp only [ok_asg, ok_par, ok_ownS, ok_newc, newQ_l, ok_cset, csetQ0, ok_app, appQ_o, ok_ins, insQ_o, ok_frz, frzQ_o, frzQ_v, ok_iteS, ok_for, ok_whil, ok_ret, ok_retN, ok_expr, ok_brk, ok_cont, ok_pass, ok_var, ok_own, ok_k, ok_glob, ok_gdk, gdkQ_s, ok_callK, kwQ_s, arF, Option.bind_some, Option.map_some, ok_dct, ok_dix, dixQ_k, tst_callK, ok_lset, lsetQ_o, p_rep, ok_prim, ok_and, ok_or, ok_not, ok_iteE, ok_chain, ok_call, ok_cidx, cidQ0, ok_comp, ok_esnil, ok_escons, ok_t0, ok_t1, ok_seq, seqQQ_l, seqQQ_t, seqQQ_s, ok_rng, ok_rng2, ok_zip, zipQ_l, zipQ_t, ok_enum, enumQ_l, p_sorted, eqD_pair, rngQ_i, ok_tand, ok_tor, ok_tnot, tst_var, tst_own, tst_k, tst_prim, tst_ite, tst_chain, tst_call, tst_cidx, ok_bind, ok_ok, ok_no, ok_guard, Res.bind_ok, eqD_int, eqD_bool, eqD_str, eqD_nil, eqD_none, konV, setAll, seqQ_nx, seqQ_rt, seqQ_bk, seqQ_ct, ok_cons, ok_nil, p_add, p_addL, p_addT, p_addS, p_sub, p_mul, p_fdiv, p_mod, p_pow, p_neg, p_eq, p_ne, p_lt, p_le, p_gt, p_ge, p_in, p_notin, p_isN, p_notN, p_isB, p_notB, p_idxL, p_idxT, p_lst0, p_lst1, p_lst2, p_lst3, p_lst4, p_lst5, p_lst6, p_lst7, p_tup0, p_tup1, p_tup2, p_tup3, p_tup4, p_tup5, p_lenL, p_lenT, p_listL, p_listT, p_tupleL, p_tupleT, p_abs, p_max2, p_min2, p_max4, p_intI, p_intB, p_isi, p_rev, p_revT, ok_popS, popQ_o, t_b, t_i, t_n, a_n, a_t, a_l, sM_t, sM_f, sA_0, sA_1, wE_0, wE_1, List.map_cons, List.map_nil, List.set_cons_zero, List.set_cons_succ, List.getElem?_cons_zero, List.getElem?_cons_succ, Nat.reduceAdd, at0, at1, at2, at3, at4, at5, at6, ix0, ix1, ix2, List.length_cons, List.length_nil, List.nil_append, decide_eq_true_eq, onFin_rt, onFin_nx, Bool.not_eq_true', decide_eq_false_iff_not, Int.reducePow, Int.reduceNeg, Int.reduceLT, Int.reduceLE, Nat.reduceLeDiff, Int.reduceToNat, Nat.reducePow, Int.reduceSub, Int.reduceAdd, Int.reduceMul, true_and, and_true, true_or, or_true, decide_true, and_self, if_true, if_false, Bool.false_eq_true, Bool.true_eq_false, reduceCtorEq, not_false_eq_true, not_true_eq_false, reduceIte, p_dictT, dixQ_t, p_sortT, p_ninT, p_dictP, p_tupP, p_dn, p_getT, ok_dput, dputQ_o, ok_dsd, dsdQ_o, frzQ_t, frzQ_k, sM_d, sM_k, ok_dcomp, ditQ_d, ok_disp, dspQ_d, ok_kput, kputQ_o, p_dictK, p_ninK, p_getK, ok_parT]
    refine ok_loopL (fun i env cs' => ∃ (s15 s16 s17 s18 s19 : Sl), env = [s0, .v (.r 0), s2, .v (.d (.tuple (pl.map rwD))), .v (.k (tabD pl)), s5, s6, s7, s8, s9, s10, s11, .v (.d (.tuple (more.map rwD))), .v (.d (.tuple (slow.map rwD))), .v (.d (.str u0)), s15, s16, s17, s18, s19, s20] ∧ cs' = cs) _ 0 _ _ ⟨_, _, _, _, _, rfl, rfl⟩ ?_ ?_
    · rintro i x env cs' hx ⟨s15, s16, s17, s18, s19, rfl, rfl⟩
      rw [List.getElem?_map] at hx
      obtain ⟨v, hv, rfl⟩ := Option.map_eq_some_iff.mp hx
      rw [ok_lstep]
      simp only [ok_asg, ok_par, ok_ownS, ok_newc, newQ_l, ok_cset, csetQ0, ok_app, appQ_o, ok_ins, insQ_o, ok_frz, frzQ_o, frzQ_v, ok_iteS, ok_for, ok_whil, ok_ret, ok_retN, ok_expr, ok_brk, ok_cont, ok_pass, ok_var, ok_own, ok_k, ok_glob, ok_gdk, gdkQ_s, ok_callK, kwQ_s, arF, Option.bind_some, Option.map_some, ok_dct, ok_dix, dixQ_k, tst_callK, ok_lset, lsetQ_o, p_rep, ok_prim, ok_and, ok_or, ok_not, ok_iteE, ok_chain, ok_call, ok_cidx, cidQ0, ok_comp, ok_esnil, ok_escons, ok_t0, ok_t1, ok_seq, seqQQ_l, seqQQ_t, seqQQ_s, ok_rng, ok_rng2, ok_zip, zipQ_l, zipQ_t, ok_enum, enumQ_l, p_sorted, eqD_pair, rngQ_i, ok_tand, ok_tor, ok_tnot, tst_var, tst_own, tst_k, tst_prim, tst_ite, tst_chain, tst_call, tst_cidx, ok_bind, ok_ok, ok_no, ok_guard, Res.bind_ok, eqD_int, eqD_bool, eqD_str, eqD_nil, eqD_none, konV, setAll, seqQ_nx, seqQ_rt, seqQ_bk, seqQ_ct, ok_cons, ok_nil, p_add, p_addL, p_addT, p_addS, p_sub, p_mul, p_fdiv, p_mod, p_pow, p_neg, p_eq, p_ne, p_lt, p_le, p_gt, p_ge, p_in, p_notin, p_isN, p_notN, p_isB, p_notB, p_idxL, p_idxT, p_lst0, p_lst1, p_lst2, p_lst3, p_lst4, p_lst5, p_lst6, p_lst7, p_tup0, p_tup1, p_tup2, p_tup3, p_tup4, p_tup5, p_lenL, p_lenT, p_listL, p_listT, p_tupleL, p_tupleT, p_abs, p_max2, p_min2, p_max4, p_intI, p_intB, p_isi, p_rev, p_revT, ok_popS, popQ_o, t_b, t_i, t_n, a_n, a_t, a_l, sM_t, sM_f, sA_0, sA_1, wE_0, wE_1, List.map_cons, List.map_nil, List.set_cons_zero, List.set_cons_succ, List.getElem?_cons_zero, List.getElem?_cons_succ, Nat.reduceAdd, at0, at1, at2, at3, at4, at5, at6, ix0, ix1, ix2, List.length_cons, List.length_nil, List.nil_append, decide_eq_true_eq, onFin_rt, onFin_nx, Bool.not_eq_true', decide_eq_false_iff_not, Int.reducePow, Int.reduceNeg, Int.reduceLT, Int.reduceLE, Nat.reduceLeDiff, Int.reduceToNat, Nat.reducePow, Int.reduceSub, Int.reduceAdd, Int.reduceMul, true_and, and_true, true_or, or_true, decide_true, and_self, if_true, if_false, Bool.false_eq_true, Bool.true_eq_false, reduceCtorEq, not_false_eq_true, not_true_eq_false, reduceIte, p_dictT, dixQ_t, p_sortT, p_ninT, p_dictP, p_tupP, p_dn, p_getT, ok_dput, dputQ_o, ok_dsd, dsdQ_o, frzQ_t, frzQ_k, sM_d, sM_k, ok_dcomp, ditQ_d, ok_disp, dspQ_d, ok_kput, kputQ_o, p_dictK, p_ninK, p_getK, ok_parT]
      refine there_ok hW P hu ((l1 v).mp (List.mem_of_getElem? hv)) fun s16 s17 s18 s19 => ?_
      exact ⟨_, _, _, _, _, rfl, rfl⟩
    · rintro env cs' ⟨s15, s16, s17, s18, s19, rfl, rfl⟩
      simp only [ok_asg, ok_par, ok_ownS, ok_newc, newQ_l, ok_cset, csetQ0, ok_app, appQ_o, ok_ins, insQ_o, ok_frz, frzQ_o, frzQ_v, ok_iteS, ok_for, ok_whil, ok_ret, ok_retN, ok_expr, ok_brk, ok_cont, ok_pass, ok_var, ok_own, ok_k, ok_glob, ok_gdk, gdkQ_s, ok_callK, kwQ_s, arF, Option.bind_some, Option.map_some, ok_dct, ok_dix, dixQ_k, tst_callK, ok_lset, lsetQ_o, p_rep, ok_prim, ok_and, ok_or, ok_not, ok_iteE, ok_chain, ok_call, ok_cidx, cidQ0, ok_comp, ok_esnil, ok_escons, ok_t0, ok_t1, ok_seq, seqQQ_l, seqQQ_t, seqQQ_s, ok_rng, ok_rng2, ok_zip, zipQ_l, zipQ_t, ok_enum, enumQ_l, p_sorted, eqD_pair, rngQ_i, ok_tand, ok_tor, ok_tnot, tst_var, tst_own, tst_k, tst_prim, tst_ite, tst_chain, tst_call, tst_cidx, ok_bind, ok_ok, ok_no, ok_guard, Res.bind_ok, eqD_int, eqD_bool, eqD_str, eqD_nil, eqD_none, konV, setAll, seqQ_nx, seqQ_rt, seqQ_bk, seqQ_ct, ok_cons, ok_nil, p_add, p_addL, p_addT, p_addS, p_sub, p_mul, p_fdiv, p_mod, p_pow, p_neg, p_eq, p_ne, p_lt, p_le, p_gt, p_ge, p_in, p_notin, p_isN, p_notN, p_isB, p_notB, p_idxL, p_idxT, p_lst0, p_lst1, p_lst2, p_lst3, p_lst4, p_lst5, p_lst6, p_lst7, p_tup0, p_tup1, p_tup2, p_tup3, p_tup4, p_tup5, p_lenL, p_lenT, p_listL, p_listT, p_tupleL, p_tupleT, p_abs, p_max2, p_min2, p_max4, p_intI, p_intB, p_isi, p_rev, p_revT, ok_popS, popQ_o, t_b, t_i, t_n, a_n, a_t, a_l, sM_t, sM_f, sA_0, sA_1, wE_0, wE_1, List.map_cons, List.map_nil, List.set_cons_zero, List.set_cons_succ, List.getElem?_cons_zero, List.getElem?_cons_succ, Nat.reduceAdd, at0, at1, at2, at3, at4, at5, at6, ix0, ix1, ix2, List.length_cons, List.length_nil, List.nil_append, decide_eq_true_eq, onFin_rt, onFin_nx, Bool.not_eq_true', decide_eq_false_iff_not, Int.reducePow, Int.reduceNeg, Int.reduceLT, Int.reduceLE, Nat.reduceLeDiff, Int.reduceToNat, Nat.reducePow, Int.reduceSub, Int.reduceAdd, Int.reduceMul, true_and, and_true, true_or, or_true, decide_true, and_self, if_true, if_false, Bool.false_eq_true, Bool.true_eq_false, reduceCtorEq, not_false_eq_true, not_true_eq_false, reduceIte, p_dictT, dixQ_t, p_sortT, p_ninT, p_dictP, p_tupP, p_dn, p_getT, ok_dput, dputQ_o, ok_dsd, dsdQ_o, frzQ_t, frzQ_k, sM_d, sM_k, ok_dcomp, ditQ_d, ok_disp, dspQ_d, ok_kput, kputQ_o, p_dictK, p_ninK, p_getK, ok_parT]
      exact k _ _ _ _ _
theorem turn_ok {W n : Nat} {s0 s2 s3 s4 s5 s6 s7 s8 s9 s10 s11 s12 s13 s14 s15 s16 s17 s18 s19 s20 : Sl} {cs : Cells} {O : Out → Prop} (hW : 1100 ≤ W) (h : Tape cs) (k : ∀ s3 s4 s5 s6 s7 s8 s9 s10 s11 s12 s13 s14 s15 s16 s17 s18 s19 s20 cs, Tape cs → O (.nx, [s0, .v (.r 0), s2, s3, s4, s5, s6, s7, s8, s9, s10, s11, s12, s13, s14, s15, s16, s17, s18, s19, s20], cs)) :
    Ok (evSs ⟨R.run Ds gl W (n + 3), gl, W⟩ b_law_1 [s0, .v (.r 0), s2, s3, s4, s5, s6, s7, s8, s9, s10, s11, s12, s13, s14, s15, s16, s17, s18, s19, s20] cs) O := by
  unfold b_law_1
  rw [ok_cons]
  simp only [ok_asg, ok_par, ok_ownS, ok_newc, newQ_l, ok_cset, csetQ0, ok_app, appQ_o, ok_ins, insQ_o, ok_frz, frzQ_o, frzQ_v, ok_iteS, ok_for, ok_whil, ok_ret, ok_retN, ok_expr, ok_brk, ok_cont, ok_pass, ok_var, ok_own, ok_k, ok_glob, ok_gdk, gdkQ_s, ok_callK, kwQ_s, arF, Option.bind_some, Option.map_some, ok_dct, ok_dix, dixQ_k, tst_callK, ok_lset, lsetQ_o, p_rep, ok_prim, ok_and, ok_or, ok_not, ok_iteE, ok_chain, ok_call, ok_cidx, cidQ0, ok_comp, ok_esnil, ok_escons, ok_t0, ok_t1, ok_seq, seqQQ_l, seqQQ_t, seqQQ_s, ok_rng, ok_rng2, ok_zip, zipQ_l, zipQ_t, ok_enum, enumQ_l, p_sorted, eqD_pair, rngQ_i, ok_tand, ok_tor, ok_tnot, tst_var, tst_own, tst_k, tst_prim, tst_ite, tst_chain, tst_call, tst_cidx, ok_bind, ok_ok, ok_no, ok_guard, Res.bind_ok, eqD_int, eqD_bool, eqD_str, eqD_nil, eqD_none, konV, setAll, seqQ_nx, seqQ_rt, seqQ_bk, seqQ_ct, ok_cons, ok_nil, p_add, p_addL, p_addT, p_addS, p_sub, p_mul, p_fdiv, p_mod, p_pow, p_neg, p_eq, p_ne, p_lt, p_le, p_gt, p_ge, p_in, p_notin, p_isN, p_notN, p_isB, p_notB, p_idxL, p_idxT, p_lst0, p_lst1, p_lst2, p_lst3, p_lst4, p_lst5, p_lst6, p_lst7, p_tup0, p_tup1, p_tup2, p_tup3, p_tup4, p_tup5, p_lenL, p_lenT, p_listL, p_listT, p_tupleL, p_tupleT, p_abs, p_max2, p_min2, p_max4, p_intI, p_intB, p_isi, p_rev, p_revT, ok_popS, popQ_o, t_b, t_i, t_n, a_n, a_t, a_l, sM_t, sM_f, sA_0, sA_1, wE_0, wE_1, List.map_cons, List.map_nil, List.set_cons_zero, List.set_cons_succ, List.getElem?_cons_zero, List.getElem?_cons_succ, Nat.reduceAdd, at0, at1, at2, at3, at4, at5, at6, ix0, ix1, ix2, List.length_cons, List.length_nil, List.nil_append, decide_eq_true_eq, onFin_rt, onFin_nx, Bool.not_eq_true', decide_eq_false_iff_not, Int.reducePow, Int.reduceNeg, Int.reduceLT, Int.reduceLE, Nat.reduceLeDiff, Int.reduceToNat, Nat.reducePow, Int.reduceSub, Int.reduceAdd, Int.reduceMul, true_and, and_true, true_or, or_true, decide_true, and_self, if_true, if_false, Bool.false_eq_true, Bool.true_eq_false, reduceCtorEq, not_false_eq_true, not_true_eq_false, reduceIte, p_dictT, dixQ_t, p_sortT, p_ninT, p_dictP, p_tupP, p_dn, p_getT, ok_dput, dputQ_o, ok_dsd, dsdQ_o, frzQ_t, frzQ_k, sM_d, sM_k, ok_dcomp, ditQ_d, ok_disp, dspQ_d, ok_kput, kputQ_o, p_dictK, p_ninK, p_getK, ok_parT, s_law_1_0]
  refine plan_ok (by omega) (by omega) h fun pl cs1 g p1 _ h1 => ?_
  have hpl := g.len
  simp only [ok_asg, ok_par, ok_ownS, ok_newc, newQ_l, ok_cset, csetQ0, ok_app, appQ_o, ok_ins, insQ_o, ok_frz, frzQ_o, frzQ_v, ok_iteS, ok_for, ok_whil, ok_ret, ok_retN, ok_expr, ok_brk, ok_cont, ok_pass, ok_var, ok_own, ok_k, ok_glob, ok_gdk, gdkQ_s, ok_callK, kwQ_s, arF, Option.bind_some, Option.map_some, ok_dct, ok_dix, dixQ_k, tst_callK, ok_lset, lsetQ_o, p_rep, ok_prim, ok_and, ok_or, ok_not, ok_iteE, ok_chain, ok_call, ok_cidx, cidQ0, ok_comp, ok_esnil, ok_escons, ok_t0, ok_t1, ok_seq, seqQQ_l, seqQQ_t, seqQQ_s, ok_rng, ok_rng2, ok_zip, zipQ_l, zipQ_t, ok_enum, enumQ_l, p_sorted, eqD_pair, rngQ_i, ok_tand, ok_tor, ok_tnot, tst_var, tst_own, tst_k, tst_prim, tst_ite, tst_chain, tst_call, tst_cidx, ok_bind, ok_ok, ok_no, ok_guard, Res.bind_ok, eqD_int, eqD_bool, eqD_str, eqD_nil, eqD_none, konV, setAll, seqQ_nx, seqQ_rt, seqQ_bk, seqQ_ct, ok_cons, ok_nil, p_add, p_addL, p_addT, p_addS, p_sub, p_mul, p_fdiv, p_mod, p_pow, p_neg, p_eq, p_ne, p_lt, p_le, p_gt, p_ge, p_in, p_notin, p_isN, p_notN, p_isB, p_notB, p_idxL, p_idxT, p_lst0, p_lst1, p_lst2, p_lst3, p_lst4, p_lst5, p_lst6, p_lst7, p_tup0, p_tup1, p_tup2, p_tup3, p_tup4, p_tup5, p_lenL, p_lenT, p_listL, p_listT, p_tupleL, p_tupleT, p_abs, p_max2, p_min2, p_max4, p_intI, p_intB, p_isi, p_rev, p_revT, ok_popS, popQ_o, t_b, t_i, t_n, a_n, a_t, a_l, sM_t, sM_f, sA_0, sA_1, wE_0, wE_1, List.map_cons, List.map_nil, List.set_cons_zero, List.set_cons_succ, List.getElem?_cons_zero, List.getElem?_cons_succ, Nat.reduceAdd, at0, at1, at2, at3, at4, at5, at6, ix0, ix1, ix2, List.length_cons, List.length_nil, List.nil_append, decide_eq_true_eq, onFin_rt, onFin_nx, Bool.not_eq_true', decide_eq_false_iff_not, Int.reducePow, Int.reduceNeg, Int.reduceLT, Int.reduceLE, Nat.reduceLeDiff, Int.reduceToNat, Nat.reducePow, Int.reduceSub, Int.reduceAdd, Int.reduceMul, true_and, and_true, true_or, or_true, decide_true, and_self, if_true, if_false, Bool.false_eq_true, Bool.true_eq_false, reduceCtorEq, not_false_eq_true, not_true_eq_false, reduceIte, p_dictT, dixQ_t, p_sortT, p_ninT, p_dictP, p_tupP, p_dn, p_getT, ok_dput, dputQ_o, ok_dsd, dsdQ_o, frzQ_t, frzQ_k, sM_d, sM_k, ok_dcomp, ditQ_d, ok_disp, dspQ_d, ok_kput, kputQ_o, p_dictK, p_ninK, p_getK, ok_parT]
  simp only [ok_asg, ok_par, ok_ownS, ok_newc, newQ_l, ok_cset, csetQ0, ok_app, appQ_o, ok_ins, insQ_o, ok_frz, frzQ_o, frzQ_v, ok_iteS, ok_for, ok_whil, ok_ret, ok_retN, ok_expr, ok_brk, ok_cont, ok_pass, ok_var, ok_own, ok_k, ok_glob, ok_gdk, gdkQ_s, ok_callK, kwQ_s, arF, Option.bind_some, Option.map_some, ok_dct, ok_dix, dixQ_k, tst_callK, ok_lset, lsetQ_o, p_rep, ok_prim, ok_and, ok_or, ok_not, ok_iteE, ok_chain, ok_call, ok_cidx, cidQ0, ok_comp, ok_esnil, ok_escons, ok_t0, ok_t1, ok_seq, seqQQ_l, seqQQ_t, seqQQ_s, ok_rng, ok_rng2, ok_zip, zipQ_l, zipQ_t, ok_enum, enumQ_l, p_sorted, eqD_pair, rngQ_i, ok_tand, ok_tor, ok_tnot, tst_var, tst_own, tst_k, tst_prim, tst_ite, tst_chain, tst_call, tst_cidx, ok_bind, ok_ok, ok_no, ok_guard, Res.bind_ok, eqD_int, eqD_bool, eqD_str, eqD_nil, eqD_none, konV, setAll, seqQ_nx, seqQ_rt, seqQ_bk, seqQ_ct, ok_cons, ok_nil, p_add, p_addL, p_addT, p_addS, p_sub, p_mul, p_fdiv, p_mod, p_pow, p_neg, p_eq, p_ne, p_lt, p_le, p_gt, p_ge, p_in, p_notin, p_isN, p_notN, p_isB, p_notB, p_idxL, p_idxT, p_lst0, p_lst1, p_lst2, p_lst3, p_lst4, p_lst5, p_lst6, p_lst7, p_tup0, p_tup1, p_tup2, p_tup3, p_tup4, p_tup5, p_lenL, p_lenT, p_listL, p_listT, p_tupleL, p_tupleT, p_abs, p_max2, p_min2, p_max4, p_intI, p_intB, p_isi, p_rev, p_revT, ok_popS, popQ_o, t_b, t_i, t_n, a_n, a_t, a_l, sM_t, sM_f, sA_0, sA_1, wE_0, wE_1, List.map_cons, List.map_nil, List.set_cons_zero, List.set_cons_succ, List.getElem?_cons_zero, List.getElem?_cons_succ, Nat.reduceAdd, at0, at1, at2, at3, at4, at5, at6, ix0, ix1, ix2, List.length_cons, List.length_nil, List.nil_append, decide_eq_true_eq, onFin_rt, onFin_nx, Bool.not_eq_true', decide_eq_false_iff_not, Int.reducePow, Int.reduceNeg, Int.reduceLT, Int.reduceLE, Nat.reduceLeDiff, Int.reduceToNat, Nat.reducePow, Int.reduceSub, Int.reduceAdd, Int.reduceMul, true_and, and_true, true_or, or_true, decide_true, and_self, if_true, if_false, Bool.false_eq_true, Bool.true_eq_false, reduceCtorEq, not_false_eq_true, not_true_eq_false, reduceIte, p_dictT, dixQ_t, p_sortT, p_ninT, p_dictP, p_tupP, p_dn, p_getT, ok_dput, dputQ_o, ok_dsd, dsdQ_o, frzQ_t, frzQ_k, sM_d, sM_k, ok_dcomp, ditQ_d, ok_disp, dspQ_d, ok_kput, kputQ_o, p_dictK, p_ninK, p_getK, ok_parT, s_law_1_1]
  refine lblocks_ok g ?_
  simp only [ok_asg, ok_par, ok_ownS, ok_newc, newQ_l, ok_cset, csetQ0, ok_app, appQ_o, ok_ins, insQ_o, ok_frz, frzQ_o, frzQ_v, ok_iteS, ok_for, ok_whil, ok_ret, ok_retN, ok_expr, ok_brk, ok_cont, ok_pass, ok_var, ok_own, ok_k, ok_glob, ok_gdk, gdkQ_s, ok_callK, kwQ_s, arF, Option.bind_some, Option.map_some, ok_dct, ok_dix, dixQ_k, tst_callK, ok_lset, lsetQ_o, p_rep, ok_prim, ok_and, ok_or, ok_not, ok_iteE, ok_chain, ok_call, ok_cidx, cidQ0, ok_comp, ok_esnil, ok_escons, ok_t0, ok_t1, ok_seq, seqQQ_l, seqQQ_t, seqQQ_s, ok_rng, ok_rng2, ok_zip, zipQ_l, zipQ_t, ok_enum, enumQ_l, p_sorted, eqD_pair, rngQ_i, ok_tand, ok_tor, ok_tnot, tst_var, tst_own, tst_k, tst_prim, tst_ite, tst_chain, tst_call, tst_cidx, ok_bind, ok_ok, ok_no, ok_guard, Res.bind_ok, eqD_int, eqD_bool, eqD_str, eqD_nil, eqD_none, konV, setAll, seqQ_nx, seqQ_rt, seqQ_bk, seqQ_ct, ok_cons, ok_nil, p_add, p_addL, p_addT, p_addS, p_sub, p_mul, p_fdiv, p_mod, p_pow, p_neg, p_eq, p_ne, p_lt, p_le, p_gt, p_ge, p_in, p_notin, p_isN, p_notN, p_isB, p_notB, p_idxL, p_idxT, p_lst0, p_lst1, p_lst2, p_lst3, p_lst4, p_lst5, p_lst6, p_lst7, p_tup0, p_tup1, p_tup2, p_tup3, p_tup4, p_tup5, p_lenL, p_lenT, p_listL, p_listT, p_tupleL, p_tupleT, p_abs, p_max2, p_min2, p_max4, p_intI, p_intB, p_isi, p_rev, p_revT, ok_popS, popQ_o, t_b, t_i, t_n, a_n, a_t, a_l, sM_t, sM_f, sA_0, sA_1, wE_0, wE_1, List.map_cons, List.map_nil, List.set_cons_zero, List.set_cons_succ, List.getElem?_cons_zero, List.getElem?_cons_succ, Nat.reduceAdd, at0, at1, at2, at3, at4, at5, at6, ix0, ix1, ix2, List.length_cons, List.length_nil, List.nil_append, decide_eq_true_eq, onFin_rt, onFin_nx, Bool.not_eq_true', decide_eq_false_iff_not, Int.reducePow, Int.reduceNeg, Int.reduceLT, Int.reduceLE, Nat.reduceLeDiff, Int.reduceToNat, Nat.reducePow, Int.reduceSub, Int.reduceAdd, Int.reduceMul, true_and, and_true, true_or, or_true, decide_true, and_self, if_true, if_false, Bool.false_eq_true, Bool.true_eq_false, reduceCtorEq, not_false_eq_true, not_true_eq_false, reduceIte, p_dictT, dixQ_t, p_sortT, p_ninT, p_dictP, p_tupP, p_dn, p_getT, ok_dput, dputQ_o, ok_dsd, dsdQ_o, frzQ_t, frzQ_k, sM_d, sM_k, ok_dcomp, ditQ_d, ok_disp, dspQ_d, ok_kput, kputQ_o, p_dictK, p_ninK, p_getK, ok_parT]
  refine ok_lcE rwD (fun r => some (.str r.nm)) _ (fun r hr T t => ?_) (line_le (by omega)) ?_
  · rw [ok_cstep]
    unfold rwD
    simp only [ok_asg, ok_par, ok_ownS, ok_newc, newQ_l, ok_cset, csetQ0, ok_app, appQ_o, ok_ins, insQ_o, ok_frz, frzQ_o, frzQ_v, ok_iteS, ok_for, ok_whil, ok_ret, ok_retN, ok_expr, ok_brk, ok_cont, ok_pass, ok_var, ok_own, ok_k, ok_glob, ok_gdk, gdkQ_s, ok_callK, kwQ_s, arF, Option.bind_some, Option.map_some, ok_dct, ok_dix, dixQ_k, tst_callK, ok_lset, lsetQ_o, p_rep, ok_prim, ok_and, ok_or, ok_not, ok_iteE, ok_chain, ok_call, ok_cidx, cidQ0, ok_comp, ok_esnil, ok_escons, ok_t0, ok_t1, ok_seq, seqQQ_l, seqQQ_t, seqQQ_s, ok_rng, ok_rng2, ok_zip, zipQ_l, zipQ_t, ok_enum, enumQ_l, p_sorted, eqD_pair, rngQ_i, ok_tand, ok_tor, ok_tnot, tst_var, tst_own, tst_k, tst_prim, tst_ite, tst_chain, tst_call, tst_cidx, ok_bind, ok_ok, ok_no, ok_guard, Res.bind_ok, eqD_int, eqD_bool, eqD_str, eqD_nil, eqD_none, konV, setAll, seqQ_nx, seqQ_rt, seqQ_bk, seqQ_ct, ok_cons, ok_nil, p_add, p_addL, p_addT, p_addS, p_sub, p_mul, p_fdiv, p_mod, p_pow, p_neg, p_eq, p_ne, p_lt, p_le, p_gt, p_ge, p_in, p_notin, p_isN, p_notN, p_isB, p_notB, p_idxL, p_idxT, p_lst0, p_lst1, p_lst2, p_lst3, p_lst4, p_lst5, p_lst6, p_lst7, p_tup0, p_tup1, p_tup2, p_tup3, p_tup4, p_tup5, p_lenL, p_lenT, p_listL, p_listT, p_tupleL, p_tupleT, p_abs, p_max2, p_min2, p_max4, p_intI, p_intB, p_isi, p_rev, p_revT, ok_popS, popQ_o, t_b, t_i, t_n, a_n, a_t, a_l, sM_t, sM_f, sA_0, sA_1, wE_0, wE_1, List.map_cons, List.map_nil, List.set_cons_zero, List.set_cons_succ, List.getElem?_cons_zero, List.getElem?_cons_succ, Nat.reduceAdd, at0, at1, at2, at3, at4, at5, at6, ix0, ix1, ix2, List.length_cons, List.length_nil, List.nil_append, decide_eq_true_eq, onFin_rt, onFin_nx, Bool.not_eq_true', decide_eq_false_iff_not, Int.reducePow, Int.reduceNeg, Int.reduceLT, Int.reduceLE, Nat.reduceLeDiff, Int.reduceToNat, Nat.reducePow, Int.reduceSub, Int.reduceAdd, Int.reduceMul, true_and, and_true, true_or, or_true, decide_true, and_self, if_true, if_false, Bool.false_eq_true, Bool.true_eq_false, reduceCtorEq, not_false_eq_true, not_true_eq_false, reduceIte, p_dictT, dixQ_t, p_sortT, p_ninT, p_dictP, p_tupP, p_dn, p_getT, ok_dput, dputQ_o, ok_dsd, dsdQ_o, frzQ_t, frzQ_k, sM_d, sM_k, ok_dcomp, ditQ_d, ok_disp, dspQ_d, ok_kput, kputQ_o, p_dictK, p_ninK, p_getK, ok_parT, itQ_d]
    exact t
  · rw [fm_some]
    have en : (pl.map fun r => PyData.str r.nm) = (pl.map (·.nm)).map .str := by rw [List.map_map]; rfl
    rw [en]
    have hnl : (pl.map (·.nm)).length ≤ 10 := by rw [List.length_map]; exact hpl
    have hn1 : 1 ≤ (pl.map (·.nm)).length := by rw [List.length_map]; exact p1
    have hmem : ∀ z ∈ pl.map (·.nm), z ∈ pl.map (·.nm) := fun z hz => hz
    generalize hns : pl.map (·.nm) = ns at hnl hn1 hmem
    have hmem : ∀ z ∈ ns, z ∈ pl.map (·.nm) := fun z hz => by rw [hns]; exact hz
    simp only [ok_asg, ok_par, ok_ownS, ok_newc, newQ_l, ok_cset, csetQ0, ok_app, appQ_o, ok_ins, insQ_o, ok_frz, frzQ_o, frzQ_v, ok_iteS, ok_for, ok_whil, ok_ret, ok_retN, ok_expr, ok_brk, ok_cont, ok_pass, ok_var, ok_own, ok_k, ok_glob, ok_gdk, gdkQ_s, ok_callK, kwQ_s, arF, Option.bind_some, Option.map_some, ok_dct, ok_dix, dixQ_k, tst_callK, ok_lset, lsetQ_o, p_rep, ok_prim, ok_and, ok_or, ok_not, ok_iteE, ok_chain, ok_call, ok_cidx, cidQ0, ok_comp, ok_esnil, ok_escons, ok_t0, ok_t1, ok_seq, seqQQ_l, seqQQ_t, seqQQ_s, ok_rng, ok_rng2, ok_zip, zipQ_l, zipQ_t, ok_enum, enumQ_l, p_sorted, eqD_pair, rngQ_i, ok_tand, ok_tor, ok_tnot, tst_var, tst_own, tst_k, tst_prim, tst_ite, tst_chain, tst_call, tst_cidx, ok_bind, ok_ok, ok_no, ok_guard, Res.bind_ok, eqD_int, eqD_bool, eqD_str, eqD_nil, eqD_none, konV, setAll, seqQ_nx, seqQ_rt, seqQ_bk, seqQ_ct, ok_cons, ok_nil, p_add, p_addL, p_addT, p_addS, p_sub, p_mul, p_fdiv, p_mod, p_pow, p_neg, p_eq, p_ne, p_lt, p_le, p_gt, p_ge, p_in, p_notin, p_isN, p_notN, p_isB, p_notB, p_idxL, p_idxT, p_lst0, p_lst1, p_lst2, p_lst3, p_lst4, p_lst5, p_lst6, p_lst7, p_tup0, p_tup1, p_tup2, p_tup3, p_tup4, p_tup5, p_lenL, p_lenT, p_listL, p_listT, p_tupleL, p_tupleT, p_abs, p_max2, p_min2, p_max4, p_intI, p_intB, p_isi, p_rev, p_revT, ok_popS, popQ_o, t_b, t_i, t_n, a_n, a_t, a_l, sM_t, sM_f, sA_0, sA_1, wE_0, wE_1, List.map_cons, List.map_nil, List.set_cons_zero, List.set_cons_succ, List.getElem?_cons_zero, List.getElem?_cons_succ, Nat.reduceAdd, at0, at1, at2, at3, at4, at5, at6, ix0, ix1, ix2, List.length_cons, List.length_nil, List.nil_append, decide_eq_true_eq, onFin_rt, onFin_nx, Bool.not_eq_true', decide_eq_false_iff_not, Int.reducePow, Int.reduceNeg, Int.reduceLT, Int.reduceLE, Nat.reduceLeDiff, Int.reduceToNat, Nat.reducePow, Int.reduceSub, Int.reduceAdd, Int.reduceMul, true_and, and_true, true_or, or_true, decide_true, and_self, if_true, if_false, Bool.false_eq_true, Bool.true_eq_false, reduceCtorEq, not_false_eq_true, not_true_eq_false, reduceIte, p_dictT, dixQ_t, p_sortT, p_ninT, p_dictP, p_tupP, p_dn, p_getT, ok_dput, dputQ_o, ok_dsd, dsdQ_o, frzQ_t, frzQ_k, sM_d, sM_k, ok_dcomp, ditQ_d, ok_disp, dspQ_d, ok_kput, kputQ_o, p_dictK, p_ninK, p_getK, ok_parT, setAllM]
    simp only [ok_asg, ok_par, ok_ownS, ok_newc, newQ_l, ok_cset, csetQ0, ok_app, appQ_o, ok_ins, insQ_o, ok_frz, frzQ_o, frzQ_v, ok_iteS, ok_for, ok_whil, ok_ret, ok_retN, ok_expr, ok_brk, ok_cont, ok_pass, ok_var, ok_own, ok_k, ok_glob, ok_gdk, gdkQ_s, ok_callK, kwQ_s, arF, Option.bind_some, Option.map_some, ok_dct, ok_dix, dixQ_k, tst_callK, ok_lset, lsetQ_o, p_rep, ok_prim, ok_and, ok_or, ok_not, ok_iteE, ok_chain, ok_call, ok_cidx, cidQ0, ok_comp, ok_esnil, ok_escons, ok_t0, ok_t1, ok_seq, seqQQ_l, seqQQ_t, seqQQ_s, ok_rng, ok_rng2, ok_zip, zipQ_l, zipQ_t, ok_enum, enumQ_l, p_sorted, eqD_pair, rngQ_i, ok_tand, ok_tor, ok_tnot, tst_var, tst_own, tst_k, tst_prim, tst_ite, tst_chain, tst_call, tst_cidx, ok_bind, ok_ok, ok_no, ok_guard, Res.bind_ok, eqD_int, eqD_bool, eqD_str, eqD_nil, eqD_none, konV, setAll, seqQ_nx, seqQ_rt, seqQ_bk, seqQ_ct, ok_cons, ok_nil, p_add, p_addL, p_addT, p_addS, p_sub, p_mul, p_fdiv, p_mod, p_pow, p_neg, p_eq, p_ne, p_lt, p_le, p_gt, p_ge, p_in, p_notin, p_isN, p_notN, p_isB, p_notB, p_idxL, p_idxT, p_lst0, p_lst1, p_lst2, p_lst3, p_lst4, p_lst5, p_lst6, p_lst7, p_tup0, p_tup1, p_tup2, p_tup3, p_tup4, p_tup5, p_lenL, p_lenT, p_listL, p_listT, p_tupleL, p_tupleT, p_abs, p_max2, p_min2, p_max4, p_intI, p_intB, p_isi, p_rev, p_revT, ok_popS, popQ_o, t_b, t_i, t_n, a_n, a_t, a_l, sM_t, sM_f, sA_0, sA_1, wE_0, wE_1, List.map_cons, List.map_nil, List.set_cons_zero, List.set_cons_succ, List.getElem?_cons_zero, List.getElem?_cons_succ, Nat.reduceAdd, at0, at1, at2, at3, at4, at5, at6, ix0, ix1, ix2, List.length_cons, List.length_nil, List.nil_append, decide_eq_true_eq, onFin_rt, onFin_nx, Bool.not_eq_true', decide_eq_false_iff_not, Int.reducePow, Int.reduceNeg, Int.reduceLT, Int.reduceLE, Nat.reduceLeDiff, Int.reduceToNat, Nat.reducePow, Int.reduceSub, Int.reduceAdd, Int.reduceMul, true_and, and_true, true_or, or_true, decide_true, and_self, if_true, if_false, Bool.false_eq_true, Bool.true_eq_false, reduceCtorEq, not_false_eq_true, not_true_eq_false, reduceIte, p_dictT, dixQ_t, p_sortT, p_ninT, p_dictP, p_tupP, p_dn, p_getT, ok_dput, dputQ_o, ok_dsd, dsdQ_o, frzQ_t, frzQ_k, sM_d, sM_k, ok_dcomp, ditQ_d, ok_disp, dspQ_d, ok_kput, kputQ_o, p_dictK, p_ninK, p_getK, ok_parT, s_law_1_2, List.length_map]
    refine draw_ok h1 (by omega) (by omega) fun a cs2 a0 a1 h2 => ?_
    simp only [ok_asg, ok_par, ok_ownS, ok_newc, newQ_l, ok_cset, csetQ0, ok_app, appQ_o, ok_ins, insQ_o, ok_frz, frzQ_o, frzQ_v, ok_iteS, ok_for, ok_whil, ok_ret, ok_retN, ok_expr, ok_brk, ok_cont, ok_pass, ok_var, ok_own, ok_k, ok_glob, ok_gdk, gdkQ_s, ok_callK, kwQ_s, arF, Option.bind_some, Option.map_some, ok_dct, ok_dix, dixQ_k, tst_callK, ok_lset, lsetQ_o, p_rep, ok_prim, ok_and, ok_or, ok_not, ok_iteE, ok_chain, ok_call, ok_cidx, cidQ0, ok_comp, ok_esnil, ok_escons, ok_t0, ok_t1, ok_seq, seqQQ_l, seqQQ_t, seqQQ_s, ok_rng, ok_rng2, ok_zip, zipQ_l, zipQ_t, ok_enum, enumQ_l, p_sorted, eqD_pair, rngQ_i, ok_tand, ok_tor, ok_tnot, tst_var, tst_own, tst_k, tst_prim, tst_ite, tst_chain, tst_call, tst_cidx, ok_bind, ok_ok, ok_no, ok_guard, Res.bind_ok, eqD_int, eqD_bool, eqD_str, eqD_nil, eqD_none, konV, setAll, seqQ_nx, seqQ_rt, seqQ_bk, seqQ_ct, ok_cons, ok_nil, p_add, p_addL, p_addT, p_addS, p_sub, p_mul, p_fdiv, p_mod, p_pow, p_neg, p_eq, p_ne, p_lt, p_le, p_gt, p_ge, p_in, p_notin, p_isN, p_notN, p_isB, p_notB, p_idxL, p_idxT, p_lst0, p_lst1, p_lst2, p_lst3, p_lst4, p_lst5, p_lst6, p_lst7, p_tup0, p_tup1, p_tup2, p_tup3, p_tup4, p_tup5, p_lenL, p_lenT, p_listL, p_listT, p_tupleL, p_tupleT, p_abs, p_max2, p_min2, p_max4, p_intI, p_intB, p_isi, p_rev, p_revT, ok_popS, popQ_o, t_b, t_i, t_n, a_n, a_t, a_l, sM_t, sM_f, sA_0, sA_1, wE_0, wE_1, List.map_cons, List.map_nil, List.set_cons_zero, List.set_cons_succ, List.getElem?_cons_zero, List.getElem?_cons_succ, Nat.reduceAdd, at0, at1, at2, at3, at4, at5, at6, ix0, ix1, ix2, List.length_cons, List.length_nil, List.nil_append, decide_eq_true_eq, onFin_rt, onFin_nx, Bool.not_eq_true', decide_eq_false_iff_not, Int.reducePow, Int.reduceNeg, Int.reduceLT, Int.reduceLE, Nat.reduceLeDiff, Int.reduceToNat, Nat.reducePow, Int.reduceSub, Int.reduceAdd, Int.reduceMul, true_and, and_true, true_or, or_true, decide_true, and_self, if_true, if_false, Bool.false_eq_true, Bool.true_eq_false, reduceCtorEq, not_false_eq_true, not_true_eq_false, reduceIte, p_dictT, dixQ_t, p_sortT, p_ninT, p_dictP, p_tupP, p_dn, p_getT, ok_dput, dputQ_o, ok_dsd, dsdQ_o, frzQ_t, frzQ_k, sM_d, sM_k, ok_dcomp, ditQ_d, ok_disp, dspQ_d, ok_kput, kputQ_o, p_dictK, p_ninK, p_getK, ok_parT]
    refine draw_ok h2 (by omega) (by omega) fun b cs3 b0 b1 h3 => ?_
    simp only [ok_asg, ok_par, ok_ownS, ok_newc, newQ_l, ok_cset, csetQ0, ok_app, appQ_o, ok_ins, insQ_o, ok_frz, frzQ_o, frzQ_v, ok_iteS, ok_for, ok_whil, ok_ret, ok_retN, ok_expr, ok_brk, ok_cont, ok_pass, ok_var, ok_own, ok_k, ok_glob, ok_gdk, gdkQ_s, ok_callK, kwQ_s, arF, Option.bind_some, Option.map_some, ok_dct, ok_dix, dixQ_k, tst_callK, ok_lset, lsetQ_o, p_rep, ok_prim, ok_and, ok_or, ok_not, ok_iteE, ok_chain, ok_call, ok_cidx, cidQ0, ok_comp, ok_esnil, ok_escons, ok_t0, ok_t1, ok_seq, seqQQ_l, seqQQ_t, seqQQ_s, ok_rng, ok_rng2, ok_zip, zipQ_l, zipQ_t, ok_enum, enumQ_l, p_sorted, eqD_pair, rngQ_i, ok_tand, ok_tor, ok_tnot, tst_var, tst_own, tst_k, tst_prim, tst_ite, tst_chain, tst_call, tst_cidx, ok_bind, ok_ok, ok_no, ok_guard, Res.bind_ok, eqD_int, eqD_bool, eqD_str, eqD_nil, eqD_none, konV, setAll, seqQ_nx, seqQ_rt, seqQ_bk, seqQ_ct, ok_cons, ok_nil, p_add, p_addL, p_addT, p_addS, p_sub, p_mul, p_fdiv, p_mod, p_pow, p_neg, p_eq, p_ne, p_lt, p_le, p_gt, p_ge, p_in, p_notin, p_isN, p_notN, p_isB, p_notB, p_idxL, p_idxT, p_lst0, p_lst1, p_lst2, p_lst3, p_lst4, p_lst5, p_lst6, p_lst7, p_tup0, p_tup1, p_tup2, p_tup3, p_tup4, p_tup5, p_lenL, p_lenT, p_listL, p_listT, p_tupleL, p_tupleT, p_abs, p_max2, p_min2, p_max4, p_intI, p_intB, p_isi, p_rev, p_revT, ok_popS, popQ_o, t_b, t_i, t_n, a_n, a_t, a_l, sM_t, sM_f, sA_0, sA_1, wE_0, wE_1, List.map_cons, List.map_nil, List.set_cons_zero, List.set_cons_succ, List.getElem?_cons_zero, List.getElem?_cons_succ, Nat.reduceAdd, at0, at1, at2, at3, at4, at5, at6, ix0, ix1, ix2, List.length_cons, List.length_nil, List.nil_append, decide_eq_true_eq, onFin_rt, onFin_nx, Bool.not_eq_true', decide_eq_false_iff_not, Int.reducePow, Int.reduceNeg, Int.reduceLT, Int.reduceLE, Nat.reduceLeDiff, Int.reduceToNat, Nat.reducePow, Int.reduceSub, Int.reduceAdd, Int.reduceMul, true_and, and_true, true_or, or_true, decide_true, and_self, if_true, if_false, Bool.false_eq_true, Bool.true_eq_false, reduceCtorEq, not_false_eq_true, not_true_eq_false, reduceIte, p_dictT, dixQ_t, p_sortT, p_ninT, p_dictP, p_tupP, p_dn, p_getT, ok_dput, dputQ_o, ok_dsd, dsdQ_o, frzQ_t, frzQ_k, sM_d, sM_k, ok_dcomp, ditQ_d, ok_disp, dspQ_d, ok_kput, kputQ_o, p_dictK, p_ninK, p_getK, ok_parT]
    refine ok_at b0 (by rw [List.length_map]; omega) fun y hy => ?_
    rw [List.getElem?_map] at hy
    obtain ⟨oth, ho, rfl⟩ := Option.map_eq_some_iff.mp hy
    have hoth := hmem oth (List.mem_of_getElem? ho)
    try simp only [ok_asg, ok_par, ok_ownS, ok_newc, newQ_l, ok_cset, csetQ0, ok_app, appQ_o, ok_ins, insQ_o, ok_frz, frzQ_o, frzQ_v, ok_iteS, ok_for, ok_whil, ok_ret, ok_retN, ok_expr, ok_brk, ok_cont, ok_pass, ok_var, ok_own, ok_k, ok_glob, ok_gdk, gdkQ_s, ok_callK, kwQ_s, arF, Option.bind_some, Option.map_some, ok_dct, ok_dix, dixQ_k, tst_callK, ok_lset, lsetQ_o, p_rep, ok_prim, ok_and, ok_or, ok_not, ok_iteE, ok_chain, ok_call, ok_cidx, cidQ0, ok_comp, ok_esnil, ok_escons, ok_t0, ok_t1, ok_seq, seqQQ_l, seqQQ_t, seqQQ_s, ok_rng, ok_rng2, ok_zip, zipQ_l, zipQ_t, ok_enum, enumQ_l, p_sorted, eqD_pair, rngQ_i, ok_tand, ok_tor, ok_tnot, tst_var, tst_own, tst_k, tst_prim, tst_ite, tst_chain, tst_call, tst_cidx, ok_bind, ok_ok, ok_no, ok_guard, Res.bind_ok, eqD_int, eqD_bool, eqD_str, eqD_nil, eqD_none, konV, setAll, seqQ_nx, seqQ_rt, seqQ_bk, seqQ_ct, ok_cons, ok_nil, p_add, p_addL, p_addT, p_addS, p_sub, p_mul, p_fdiv, p_mod, p_pow, p_neg, p_eq, p_ne, p_lt, p_le, p_gt, p_ge, p_in, p_notin, p_isN, p_notN, p_isB, p_notB, p_idxL, p_idxT, p_lst0, p_lst1, p_lst2, p_lst3, p_lst4, p_lst5, p_lst6, p_lst7, p_tup0, p_tup1, p_tup2, p_tup3, p_tup4, p_tup5, p_lenL, p_lenT, p_listL, p_listT, p_tupleL, p_tupleT, p_abs, p_max2, p_min2, p_max4, p_intI, p_intB, p_isi, p_rev, p_revT, ok_popS, popQ_o, t_b, t_i, t_n, a_n, a_t, a_l, sM_t, sM_f, sA_0, sA_1, wE_0, wE_1, List.map_cons, List.map_nil, List.set_cons_zero, List.set_cons_succ, List.getElem?_cons_zero, List.getElem?_cons_succ, Nat.reduceAdd, at0, at1, at2, at3, at4, at5, at6, ix0, ix1, ix2, List.length_cons, List.length_nil, List.nil_append, decide_eq_true_eq, onFin_rt, onFin_nx, Bool.not_eq_true', decide_eq_false_iff_not, Int.reducePow, Int.reduceNeg, Int.reduceLT, Int.reduceLE, Nat.reduceLeDiff, Int.reduceToNat, Nat.reducePow, Int.reduceSub, Int.reduceAdd, Int.reduceMul, true_and, and_true, true_or, or_true, decide_true, and_self, if_true, if_false, Bool.false_eq_true, Bool.true_eq_false, reduceCtorEq, not_false_eq_true, not_true_eq_false, reduceIte, p_dictT, dixQ_t, p_sortT, p_ninT, p_dictP, p_tupP, p_dn, p_getT, ok_dput, dputQ_o, ok_dsd, dsdQ_o, frzQ_t, frzQ_k, sM_d, sM_k, ok_dcomp, ditQ_d, ok_disp, dspQ_d, ok_kput, kputQ_o, p_dictK, p_ninK, p_getK, ok_parT]
    simp only [ok_asg, ok_par, ok_ownS, ok_newc, newQ_l, ok_cset, csetQ0, ok_app, appQ_o, ok_ins, insQ_o, ok_frz, frzQ_o, frzQ_v, ok_iteS, ok_for, ok_whil, ok_ret, ok_retN, ok_expr, ok_brk, ok_cont, ok_pass, ok_var, ok_own, ok_k, ok_glob, ok_gdk, gdkQ_s, ok_callK, kwQ_s, arF, Option.bind_some, Option.map_some, ok_dct, ok_dix, dixQ_k, tst_callK, ok_lset, lsetQ_o, p_rep, ok_prim, ok_and, ok_or, ok_not, ok_iteE, ok_chain, ok_call, ok_cidx, cidQ0, ok_comp, ok_esnil, ok_escons, ok_t0, ok_t1, ok_seq, seqQQ_l, seqQQ_t, seqQQ_s, ok_rng, ok_rng2, ok_zip, zipQ_l, zipQ_t, ok_enum, enumQ_l, p_sorted, eqD_pair, rngQ_i, ok_tand, ok_tor, ok_tnot, tst_var, tst_own, tst_k, tst_prim, tst_ite, tst_chain, tst_call, tst_cidx, ok_bind, ok_ok, ok_no, ok_guard, Res.bind_ok, eqD_int, eqD_bool, eqD_str, eqD_nil, eqD_none, konV, setAll, seqQ_nx, seqQ_rt, seqQ_bk, seqQ_ct, ok_cons, ok_nil, p_add, p_addL, p_addT, p_addS, p_sub, p_mul, p_fdiv, p_mod, p_pow, p_neg, p_eq, p_ne, p_lt, p_le, p_gt, p_ge, p_in, p_notin, p_isN, p_notN, p_isB, p_notB, p_idxL, p_idxT, p_lst0, p_lst1, p_lst2, p_lst3, p_lst4, p_lst5, p_lst6, p_lst7, p_tup0, p_tup1, p_tup2, p_tup3, p_tup4, p_tup5, p_lenL, p_lenT, p_listL, p_listT, p_tupleL, p_tupleT, p_abs, p_max2, p_min2, p_max4, p_intI, p_intB, p_isi, p_rev, p_revT, ok_popS, popQ_o, t_b, t_i, t_n, a_n, a_t, a_l, sM_t, sM_f, sA_0, sA_1, wE_0, wE_1, List.map_cons, List.map_nil, List.set_cons_zero, List.set_cons_succ, List.getElem?_cons_zero, List.getElem?_cons_succ, Nat.reduceAdd, at0, at1, at2, at3, at4, at5, at6, ix0, ix1, ix2, List.length_cons, List.length_nil, List.nil_append, decide_eq_true_eq, onFin_rt, onFin_nx, Bool.not_eq_true', decide_eq_false_iff_not, Int.reducePow, Int.reduceNeg, Int.reduceLT, Int.reduceLE, Nat.reduceLeDiff, Int.reduceToNat, Nat.reducePow, Int.reduceSub, Int.reduceAdd, Int.reduceMul, true_and, and_true, true_or, or_true, decide_true, and_self, if_true, if_false, Bool.false_eq_true, Bool.true_eq_false, reduceCtorEq, not_false_eq_true, not_true_eq_false, reduceIte, p_dictT, dixQ_t, p_sortT, p_ninT, p_dictP, p_tupP, p_dn, p_getT, ok_dput, dputQ_o, ok_dsd, dsdQ_o, frzQ_t, frzQ_k, sM_d, sM_k, ok_dcomp, ditQ_d, ok_disp, dspQ_d, ok_kput, kputQ_o, p_dictK, p_ninK, p_getK, ok_parT, s_law_1_3]
    refine ok_at a0 (by rw [List.length_map]; omega) fun y hy => ?_
    rw [List.getElem?_map] at hy
    obtain ⟨r, hr, rfl⟩ := Option.map_eq_some_iff.mp hy
    obtain ⟨hal, har⟩ := List.getElem?_eq_some_iff.mp hr
    have hsp : pl = pl.take a.toNat ++ r :: pl.drop (a.toNat + 1) := by
      rw [← har, ← List.drop_eq_getElem_cons hal, List.take_append_drop]
    have hrm := List.mem_of_getElem? hr
    have htk := g.tk r hrm
    have hnx := g.nx r hrm
    have erw : rwD r = .tuple [.str r.nm, .int r.tk, .tuple (r.nx.map .str)] := rfl
    have hne : ∀ y ∈ r.nx, PyData.strOk y = true := fun y hy => g.ok y (hnx.2 y hy)
    simp only [ok_asg, ok_par, ok_ownS, ok_newc, newQ_l, ok_cset, csetQ0, ok_app, appQ_o, ok_ins, insQ_o, ok_frz, frzQ_o, frzQ_v, ok_iteS, ok_for, ok_whil, ok_ret, ok_retN, ok_expr, ok_brk, ok_cont, ok_pass, ok_var, ok_own, ok_k, ok_glob, ok_gdk, gdkQ_s, ok_callK, kwQ_s, arF, Option.bind_some, Option.map_some, ok_dct, ok_dix, dixQ_k, tst_callK, ok_lset, lsetQ_o, p_rep, ok_prim, ok_and, ok_or, ok_not, ok_iteE, ok_chain, ok_call, ok_cidx, cidQ0, ok_comp, ok_esnil, ok_escons, ok_t0, ok_t1, ok_seq, seqQQ_l, seqQQ_t, seqQQ_s, ok_rng, ok_rng2, ok_zip, zipQ_l, zipQ_t, ok_enum, enumQ_l, p_sorted, eqD_pair, rngQ_i, ok_tand, ok_tor, ok_tnot, tst_var, tst_own, tst_k, tst_prim, tst_ite, tst_chain, tst_call, tst_cidx, ok_bind, ok_ok, ok_no, ok_guard, Res.bind_ok, eqD_int, eqD_bool, eqD_str, eqD_nil, eqD_none, konV, setAll, seqQ_nx, seqQ_rt, seqQ_bk, seqQ_ct, ok_cons, ok_nil, p_add, p_addL, p_addT, p_addS, p_sub, p_mul, p_fdiv, p_mod, p_pow, p_neg, p_eq, p_ne, p_lt, p_le, p_gt, p_ge, p_in, p_notin, p_isN, p_notN, p_isB, p_notB, p_idxL, p_idxT, p_lst0, p_lst1, p_lst2, p_lst3, p_lst4, p_lst5, p_lst6, p_lst7, p_tup0, p_tup1, p_tup2, p_tup3, p_tup4, p_tup5, p_lenL, p_lenT, p_listL, p_listT, p_tupleL, p_tupleT, p_abs, p_max2, p_min2, p_max4, p_intI, p_intB, p_isi, p_rev, p_revT, ok_popS, popQ_o, t_b, t_i, t_n, a_n, a_t, a_l, sM_t, sM_f, sA_0, sA_1, wE_0, wE_1, List.map_cons, List.map_nil, List.set_cons_zero, List.set_cons_succ, List.getElem?_cons_zero, List.getElem?_cons_succ, Nat.reduceAdd, at0, at1, at2, at3, at4, at5, at6, ix0, ix1, ix2, List.length_cons, List.length_nil, List.nil_append, decide_eq_true_eq, onFin_rt, onFin_nx, Bool.not_eq_true', decide_eq_false_iff_not, Int.reducePow, Int.reduceNeg, Int.reduceLT, Int.reduceLE, Nat.reduceLeDiff, Int.reduceToNat, Nat.reducePow, Int.reduceSub, Int.reduceAdd, Int.reduceMul, true_and, and_true, true_or, or_true, decide_true, and_self, if_true, if_false, Bool.false_eq_true, Bool.true_eq_false, reduceCtorEq, not_false_eq_true, not_true_eq_false, reduceIte, p_dictT, dixQ_t, p_sortT, p_ninT, p_dictP, p_tupP, p_dn, p_getT, ok_dput, dputQ_o, ok_dsd, dsdQ_o, frzQ_t, frzQ_k, sM_d, sM_k, ok_dcomp, ditQ_d, ok_disp, dspQ_d, ok_kput, kputQ_o, p_dictK, p_ninK, p_getK, ok_parT, erw]
    simp only [ok_asg, ok_par, ok_ownS, ok_newc, newQ_l, ok_cset, csetQ0, ok_app, appQ_o, ok_ins, insQ_o, ok_frz, frzQ_o, frzQ_v, ok_iteS, ok_for, ok_whil, ok_ret, ok_retN, ok_expr, ok_brk, ok_cont, ok_pass, ok_var, ok_own, ok_k, ok_glob, ok_gdk, gdkQ_s, ok_callK, kwQ_s, arF, Option.bind_some, Option.map_some, ok_dct, ok_dix, dixQ_k, tst_callK, ok_lset, lsetQ_o, p_rep, ok_prim, ok_and, ok_or, ok_not, ok_iteE, ok_chain, ok_call, ok_cidx, cidQ0, ok_comp, ok_esnil, ok_escons, ok_t0, ok_t1, ok_seq, seqQQ_l, seqQQ_t, seqQQ_s, ok_rng, ok_rng2, ok_zip, zipQ_l, zipQ_t, ok_enum, enumQ_l, p_sorted, eqD_pair, rngQ_i, ok_tand, ok_tor, ok_tnot, tst_var, tst_own, tst_k, tst_prim, tst_ite, tst_chain, tst_call, tst_cidx, ok_bind, ok_ok, ok_no, ok_guard, Res.bind_ok, eqD_int, eqD_bool, eqD_str, eqD_nil, eqD_none, konV, setAll, seqQ_nx, seqQ_rt, seqQ_bk, seqQ_ct, ok_cons, ok_nil, p_add, p_addL, p_addT, p_addS, p_sub, p_mul, p_fdiv, p_mod, p_pow, p_neg, p_eq, p_ne, p_lt, p_le, p_gt, p_ge, p_in, p_notin, p_isN, p_notN, p_isB, p_notB, p_idxL, p_idxT, p_lst0, p_lst1, p_lst2, p_lst3, p_lst4, p_lst5, p_lst6, p_lst7, p_tup0, p_tup1, p_tup2, p_tup3, p_tup4, p_tup5, p_lenL, p_lenT, p_listL, p_listT, p_tupleL, p_tupleT, p_abs, p_max2, p_min2, p_max4, p_intI, p_intB, p_isi, p_rev, p_revT, ok_popS, popQ_o, t_b, t_i, t_n, a_n, a_t, a_l, sM_t, sM_f, sA_0, sA_1, wE_0, wE_1, List.map_cons, List.map_nil, List.set_cons_zero, List.set_cons_succ, List.getElem?_cons_zero, List.getElem?_cons_succ, Nat.reduceAdd, at0, at1, at2, at3, at4, at5, at6, ix0, ix1, ix2, List.length_cons, List.length_nil, List.nil_append, decide_eq_true_eq, onFin_rt, onFin_nx, Bool.not_eq_true', decide_eq_false_iff_not, Int.reducePow, Int.reduceNeg, Int.reduceLT, Int.reduceLE, Nat.reduceLeDiff, Int.reduceToNat, Nat.reducePow, Int.reduceSub, Int.reduceAdd, Int.reduceMul, true_and, and_true, true_or, or_true, decide_true, and_self, if_true, if_false, Bool.false_eq_true, Bool.true_eq_false, reduceCtorEq, not_false_eq_true, not_true_eq_false, reduceIte, p_dictT, dixQ_t, p_sortT, p_ninT, p_dictP, p_tupP, p_dn, p_getT, ok_dput, dputQ_o, ok_dsd, dsdQ_o, frzQ_t, frzQ_k, sM_d, sM_k, ok_dcomp, ditQ_d, ok_disp, dspQ_d, ok_kput, kputQ_o, p_dictK, p_ninK, p_getK, ok_parT, s_law_1_4]
    -- the cuts
    have ecut : ∀ q : PyData, cutD (pl.map rwD) none (some a) ++ [q] ++ cutD (pl.map rwD) (some (a + 1)) none = (pl.take a.toNat).map rwD ++ q :: (pl.drop (a.toNat + 1)).map rwD := fun q => by
      rw [cut_to a0 (by rw [List.length_map]; omega), cut_from (by omega) (by rw [List.length_map]; omega), List.append_assoc, List.map_take, List.map_drop, show (a + 1).toNat = a.toNat + 1 by omega]
      rfl
    have elen : (cutD (pl.map rwD) none (some a)).length ≤ 10 ∧ (cutD (pl.map rwD) (some (a + 1)) none).length ≤ 10 := by
      rw [cut_to a0 (by rw [List.length_map]; omega), cut_from (by omega) (by rw [List.length_map]; omega)]
      rw [List.length_take, List.length_drop, List.length_map]
      omega
    -- the rest, the row with more points found
    have fin : ∀ (rm : Rw) (cs : Cells), Tape cs → rm.nm = r.nm → rm.tk = r.tk → rm.nx.length ≤ 2 → (∀ y ∈ rm.nx, y ∈ pl.map (·.nm)) → (∀ y ∈ r.nx, y ∈ rm.nx) →
        Ok (evSs ⟨R.run Ds gl W (n + 3), gl, W⟩ (.cons s_law_1_6 (.cons s_law_1_7 (.cons s_law_1_8 (.cons s_law_1_9 (.cons s_law_1_10 (.cons s_law_1_11 (.cons s_law_1_12 .nil))))))) [s0, .v (.r 0), s2, .v (.d (.tuple (pl.map rwD))), .v (.k (tabD pl)), .v (.d (.list (ns.map .str))), .v (.d (.int a)), .v (.d (.str oth)), .v (.d (.str r.nm)), .v (.d (.int r.tk)), .v (.d (.tuple (r.nx.map .str))), .v (.d (rwD rm)), s12, s13, s14, s15, s16, s17, s18, s19, s20] cs) O := fun rm cs ht m1 m2 m3 m4 m5 => by
      rw [ok_cons]
      simp only [ok_asg, ok_par, ok_ownS, ok_newc, newQ_l, ok_cset, csetQ0, ok_app, appQ_o, ok_ins, insQ_o, ok_frz, frzQ_o, frzQ_v, ok_iteS, ok_for, ok_whil, ok_ret, ok_retN, ok_expr, ok_brk, ok_cont, ok_pass, ok_var, ok_own, ok_k, ok_glob, ok_gdk, gdkQ_s, ok_callK, kwQ_s, arF, Option.bind_some, Option.map_some, ok_dct, ok_dix, dixQ_k, tst_callK, ok_lset, lsetQ_o, p_rep, ok_prim, ok_and, ok_or, ok_not, ok_iteE, ok_chain, ok_call, ok_cidx, cidQ0, ok_comp, ok_esnil, ok_escons, ok_t0, ok_t1, ok_seq, seqQQ_l, seqQQ_t, seqQQ_s, ok_rng, ok_rng2, ok_zip, zipQ_l, zipQ_t, ok_enum, enumQ_l, p_sorted, eqD_pair, rngQ_i, ok_tand, ok_tor, ok_tnot, tst_var, tst_own, tst_k, tst_prim, tst_ite, tst_chain, tst_call, tst_cidx, ok_bind, ok_ok, ok_no, ok_guard, Res.bind_ok, eqD_int, eqD_bool, eqD_str, eqD_nil, eqD_none, konV, setAll, seqQ_nx, seqQ_rt, seqQ_bk, seqQ_ct, ok_cons, ok_nil, p_add, p_addL, p_addT, p_addS, p_sub, p_mul, p_fdiv, p_mod, p_pow, p_neg, p_eq, p_ne, p_lt, p_le, p_gt, p_ge, p_in, p_notin, p_isN, p_notN, p_isB, p_notB, p_idxL, p_idxT, p_lst0, p_lst1, p_lst2, p_lst3, p_lst4, p_lst5, p_lst6, p_lst7, p_tup0, p_tup1, p_tup2, p_tup3, p_tup4, p_tup5, p_lenL, p_lenT, p_listL, p_listT, p_tupleL, p_tupleT, p_abs, p_max2, p_min2, p_max4, p_intI, p_intB, p_isi, p_rev, p_revT, ok_popS, popQ_o, t_b, t_i, t_n, a_n, a_t, a_l, sM_t, sM_f, sA_0, sA_1, wE_0, wE_1, List.map_cons, List.map_nil, List.set_cons_zero, List.set_cons_succ, List.getElem?_cons_zero, List.getElem?_cons_succ, Nat.reduceAdd, at0, at1, at2, at3, at4, at5, at6, ix0, ix1, ix2, List.length_cons, List.length_nil, List.nil_append, decide_eq_true_eq, onFin_rt, onFin_nx, Bool.not_eq_true', decide_eq_false_iff_not, Int.reducePow, Int.reduceNeg, Int.reduceLT, Int.reduceLE, Nat.reduceLeDiff, Int.reduceToNat, Nat.reducePow, Int.reduceSub, Int.reduceAdd, Int.reduceMul, true_and, and_true, true_or, or_true, decide_true, and_self, if_true, if_false, Bool.false_eq_true, Bool.true_eq_false, reduceCtorEq, not_false_eq_true, not_true_eq_false, reduceIte, p_dictT, dixQ_t, p_sortT, p_ninT, p_dictP, p_tupP, p_dn, p_getT, ok_dput, dputQ_o, ok_dsd, dsdQ_o, frzQ_t, frzQ_k, sM_d, sM_k, ok_dcomp, ditQ_d, ok_disp, dspQ_d, ok_kput, kputQ_o, p_dictK, p_ninK, p_getK, ok_parT, s_law_1_6, p_sl01T, p_sl10T]
      refine ⟨line_le (by omega), ?_⟩
      simp only [ok_asg, ok_par, ok_ownS, ok_newc, newQ_l, ok_cset, csetQ0, ok_app, appQ_o, ok_ins, insQ_o, ok_frz, frzQ_o, frzQ_v, ok_iteS, ok_for, ok_whil, ok_ret, ok_retN, ok_expr, ok_brk, ok_cont, ok_pass, ok_var, ok_own, ok_k, ok_glob, ok_gdk, gdkQ_s, ok_callK, kwQ_s, arF, Option.bind_some, Option.map_some, ok_dct, ok_dix, dixQ_k, tst_callK, ok_lset, lsetQ_o, p_rep, ok_prim, ok_and, ok_or, ok_not, ok_iteE, ok_chain, ok_call, ok_cidx, cidQ0, ok_comp, ok_esnil, ok_escons, ok_t0, ok_t1, ok_seq, seqQQ_l, seqQQ_t, seqQQ_s, ok_rng, ok_rng2, ok_zip, zipQ_l, zipQ_t, ok_enum, enumQ_l, p_sorted, eqD_pair, rngQ_i, ok_tand, ok_tor, ok_tnot, tst_var, tst_own, tst_k, tst_prim, tst_ite, tst_chain, tst_call, tst_cidx, ok_bind, ok_ok, ok_no, ok_guard, Res.bind_ok, eqD_int, eqD_bool, eqD_str, eqD_nil, eqD_none, konV, setAll, seqQ_nx, seqQ_rt, seqQ_bk, seqQ_ct, ok_cons, ok_nil, p_add, p_addL, p_addT, p_addS, p_sub, p_mul, p_fdiv, p_mod, p_pow, p_neg, p_eq, p_ne, p_lt, p_le, p_gt, p_ge, p_in, p_notin, p_isN, p_notN, p_isB, p_notB, p_idxL, p_idxT, p_lst0, p_lst1, p_lst2, p_lst3, p_lst4, p_lst5, p_lst6, p_lst7, p_tup0, p_tup1, p_tup2, p_tup3, p_tup4, p_tup5, p_lenL, p_lenT, p_listL, p_listT, p_tupleL, p_tupleT, p_abs, p_max2, p_min2, p_max4, p_intI, p_intB, p_isi, p_rev, p_revT, ok_popS, popQ_o, t_b, t_i, t_n, a_n, a_t, a_l, sM_t, sM_f, sA_0, sA_1, wE_0, wE_1, List.map_cons, List.map_nil, List.set_cons_zero, List.set_cons_succ, List.getElem?_cons_zero, List.getElem?_cons_succ, Nat.reduceAdd, at0, at1, at2, at3, at4, at5, at6, ix0, ix1, ix2, List.length_cons, List.length_nil, List.nil_append, decide_eq_true_eq, onFin_rt, onFin_nx, Bool.not_eq_true', decide_eq_false_iff_not, Int.reducePow, Int.reduceNeg, Int.reduceLT, Int.reduceLE, Nat.reduceLeDiff, Int.reduceToNat, Nat.reducePow, Int.reduceSub, Int.reduceAdd, Int.reduceMul, true_and, and_true, true_or, or_true, decide_true, and_self, if_true, if_false, Bool.false_eq_true, Bool.true_eq_false, reduceCtorEq, not_false_eq_true, not_true_eq_false, reduceIte, p_dictT, dixQ_t, p_sortT, p_ninT, p_dictP, p_tupP, p_dn, p_getT, ok_dput, dputQ_o, ok_dsd, dsdQ_o, frzQ_t, frzQ_k, sM_d, sM_k, ok_dcomp, ditQ_d, ok_disp, dspQ_d, ok_kput, kputQ_o, p_dictK, p_ninK, p_getK, ok_parT, List.length_append]
      refine ⟨line_le (by first | omega | (simp only [List.length_cons, List.length_nil]; omega)), ?_⟩
      rw [ecut]
      have em : PyData.tuple ((pl.take a.toNat).map rwD ++ rwD rm :: (pl.drop (a.toNat + 1)).map rwD) = .tuple ((pl.take a.toNat ++ rm :: pl.drop (a.toNat + 1)).map rwD) := by
        rw [List.map_append, List.map_cons]
      rw [em]
      simp only [ok_asg, ok_par, ok_ownS, ok_newc, newQ_l, ok_cset, csetQ0, ok_app, appQ_o, ok_ins, insQ_o, ok_frz, frzQ_o, frzQ_v, ok_iteS, ok_for, ok_whil, ok_ret, ok_retN, ok_expr, ok_brk, ok_cont, ok_pass, ok_var, ok_own, ok_k, ok_glob, ok_gdk, gdkQ_s, ok_callK, kwQ_s, arF, Option.bind_some, Option.map_some, ok_dct, ok_dix, dixQ_k, tst_callK, ok_lset, lsetQ_o, p_rep, ok_prim, ok_and, ok_or, ok_not, ok_iteE, ok_chain, ok_call, ok_cidx, cidQ0, ok_comp, ok_esnil, ok_escons, ok_t0, ok_t1, ok_seq, seqQQ_l, seqQQ_t, seqQQ_s, ok_rng, ok_rng2, ok_zip, zipQ_l, zipQ_t, ok_enum, enumQ_l, p_sorted, eqD_pair, rngQ_i, ok_tand, ok_tor, ok_tnot, tst_var, tst_own, tst_k, tst_prim, tst_ite, tst_chain, tst_call, tst_cidx, ok_bind, ok_ok, ok_no, ok_guard, Res.bind_ok, eqD_int, eqD_bool, eqD_str, eqD_nil, eqD_none, konV, setAll, seqQ_nx, seqQ_rt, seqQ_bk, seqQ_ct, ok_cons, ok_nil, p_add, p_addL, p_addT, p_addS, p_sub, p_mul, p_fdiv, p_mod, p_pow, p_neg, p_eq, p_ne, p_lt, p_le, p_gt, p_ge, p_in, p_notin, p_isN, p_notN, p_isB, p_notB, p_idxL, p_idxT, p_lst0, p_lst1, p_lst2, p_lst3, p_lst4, p_lst5, p_lst6, p_lst7, p_tup0, p_tup1, p_tup2, p_tup3, p_tup4, p_tup5, p_lenL, p_lenT, p_listL, p_listT, p_tupleL, p_tupleT, p_abs, p_max2, p_min2, p_max4, p_intI, p_intB, p_isi, p_rev, p_revT, ok_popS, popQ_o, t_b, t_i, t_n, a_n, a_t, a_l, sM_t, sM_f, sA_0, sA_1, wE_0, wE_1, List.map_cons, List.map_nil, List.set_cons_zero, List.set_cons_succ, List.getElem?_cons_zero, List.getElem?_cons_succ, Nat.reduceAdd, at0, at1, at2, at3, at4, at5, at6, ix0, ix1, ix2, List.length_cons, List.length_nil, List.nil_append, decide_eq_true_eq, onFin_rt, onFin_nx, Bool.not_eq_true', decide_eq_false_iff_not, Int.reducePow, Int.reduceNeg, Int.reduceLT, Int.reduceLE, Nat.reduceLeDiff, Int.reduceToNat, Nat.reducePow, Int.reduceSub, Int.reduceAdd, Int.reduceMul, true_and, and_true, true_or, or_true, decide_true, and_self, if_true, if_false, Bool.false_eq_true, Bool.true_eq_false, reduceCtorEq, not_false_eq_true, not_true_eq_false, reduceIte, p_dictT, dixQ_t, p_sortT, p_ninT, p_dictP, p_tupP, p_dn, p_getT, ok_dput, dputQ_o, ok_dsd, dsdQ_o, frzQ_t, frzQ_k, sM_d, sM_k, ok_dcomp, ditQ_d, ok_disp, dspQ_d, ok_kput, kputQ_o, p_dictK, p_ninK, p_getK, ok_parT, s_law_1_7]
      refine draw_ok ht (by omega) (by omega) fun d cs4 d0 d1 h4 => ?_
      simp only [ok_asg, ok_par, ok_ownS, ok_newc, newQ_l, ok_cset, csetQ0, ok_app, appQ_o, ok_ins, insQ_o, ok_frz, frzQ_o, frzQ_v, ok_iteS, ok_for, ok_whil, ok_ret, ok_retN, ok_expr, ok_brk, ok_cont, ok_pass, ok_var, ok_own, ok_k, ok_glob, ok_gdk, gdkQ_s, ok_callK, kwQ_s, arF, Option.bind_some, Option.map_some, ok_dct, ok_dix, dixQ_k, tst_callK, ok_lset, lsetQ_o, p_rep, ok_prim, ok_and, ok_or, ok_not, ok_iteE, ok_chain, ok_call, ok_cidx, cidQ0, ok_comp, ok_esnil, ok_escons, ok_t0, ok_t1, ok_seq, seqQQ_l, seqQQ_t, seqQQ_s, ok_rng, ok_rng2, ok_zip, zipQ_l, zipQ_t, ok_enum, enumQ_l, p_sorted, eqD_pair, rngQ_i, ok_tand, ok_tor, ok_tnot, tst_var, tst_own, tst_k, tst_prim, tst_ite, tst_chain, tst_call, tst_cidx, ok_bind, ok_ok, ok_no, ok_guard, Res.bind_ok, eqD_int, eqD_bool, eqD_str, eqD_nil, eqD_none, konV, setAll, seqQ_nx, seqQ_rt, seqQ_bk, seqQ_ct, ok_cons, ok_nil, p_add, p_addL, p_addT, p_addS, p_sub, p_mul, p_fdiv, p_mod, p_pow, p_neg, p_eq, p_ne, p_lt, p_le, p_gt, p_ge, p_in, p_notin, p_isN, p_notN, p_isB, p_notB, p_idxL, p_idxT, p_lst0, p_lst1, p_lst2, p_lst3, p_lst4, p_lst5, p_lst6, p_lst7, p_tup0, p_tup1, p_tup2, p_tup3, p_tup4, p_tup5, p_lenL, p_lenT, p_listL, p_listT, p_tupleL, p_tupleT, p_abs, p_max2, p_min2, p_max4, p_intI, p_intB, p_isi, p_rev, p_revT, ok_popS, popQ_o, t_b, t_i, t_n, a_n, a_t, a_l, sM_t, sM_f, sA_0, sA_1, wE_0, wE_1, List.map_cons, List.map_nil, List.set_cons_zero, List.set_cons_succ, List.getElem?_cons_zero, List.getElem?_cons_succ, Nat.reduceAdd, at0, at1, at2, at3, at4, at5, at6, ix0, ix1, ix2, List.length_cons, List.length_nil, List.nil_append, decide_eq_true_eq, onFin_rt, onFin_nx, Bool.not_eq_true', decide_eq_false_iff_not, Int.reducePow, Int.reduceNeg, Int.reduceLT, Int.reduceLE, Nat.reduceLeDiff, Int.reduceToNat, Nat.reducePow, Int.reduceSub, Int.reduceAdd, Int.reduceMul, true_and, and_true, true_or, or_true, decide_true, and_self, if_true, if_false, Bool.false_eq_true, Bool.true_eq_false, reduceCtorEq, not_false_eq_true, not_true_eq_false, reduceIte, p_dictT, dixQ_t, p_sortT, p_ninT, p_dictP, p_tupP, p_dn, p_getT, ok_dput, dputQ_o, ok_dsd, dsdQ_o, frzQ_t, frzQ_k, sM_d, sM_k, ok_dcomp, ditQ_d, ok_disp, dspQ_d, ok_kput, kputQ_o, p_dictK, p_ninK, p_getK, ok_parT]
      have hts : ∃ t : Int, (if r.tk + 1 + d < 20 then r.tk + 1 + d else 20) = t ∧ r.tk ≤ t ∧ t ≤ 20 := by
        by_cases c : r.tk + 1 + d < 20
        · exact ⟨_, if_pos c, by omega, by omega⟩
        · exact ⟨_, if_neg c, by omega, by omega⟩
      obtain ⟨t, et, t1, t2⟩ := hts
      have et2 : PyData.tuple [.str r.nm, .int (if r.tk + 1 + d < 20 then r.tk + 1 + d else 20), .tuple (r.nx.map .str)] = rwD ⟨r.nm, t, r.nx⟩ := by rw [et]; rfl
      rw [et2]
      simp only [ok_asg, ok_par, ok_ownS, ok_newc, newQ_l, ok_cset, csetQ0, ok_app, appQ_o, ok_ins, insQ_o, ok_frz, frzQ_o, frzQ_v, ok_iteS, ok_for, ok_whil, ok_ret, ok_retN, ok_expr, ok_brk, ok_cont, ok_pass, ok_var, ok_own, ok_k, ok_glob, ok_gdk, gdkQ_s, ok_callK, kwQ_s, arF, Option.bind_some, Option.map_some, ok_dct, ok_dix, dixQ_k, tst_callK, ok_lset, lsetQ_o, p_rep, ok_prim, ok_and, ok_or, ok_not, ok_iteE, ok_chain, ok_call, ok_cidx, cidQ0, ok_comp, ok_esnil, ok_escons, ok_t0, ok_t1, ok_seq, seqQQ_l, seqQQ_t, seqQQ_s, ok_rng, ok_rng2, ok_zip, zipQ_l, zipQ_t, ok_enum, enumQ_l, p_sorted, eqD_pair, rngQ_i, ok_tand, ok_tor, ok_tnot, tst_var, tst_own, tst_k, tst_prim, tst_ite, tst_chain, tst_call, tst_cidx, ok_bind, ok_ok, ok_no, ok_guard, Res.bind_ok, eqD_int, eqD_bool, eqD_str, eqD_nil, eqD_none, konV, setAll, seqQ_nx, seqQ_rt, seqQ_bk, seqQ_ct, ok_cons, ok_nil, p_add, p_addL, p_addT, p_addS, p_sub, p_mul, p_fdiv, p_mod, p_pow, p_neg, p_eq, p_ne, p_lt, p_le, p_gt, p_ge, p_in, p_notin, p_isN, p_notN, p_isB, p_notB, p_idxL, p_idxT, p_lst0, p_lst1, p_lst2, p_lst3, p_lst4, p_lst5, p_lst6, p_lst7, p_tup0, p_tup1, p_tup2, p_tup3, p_tup4, p_tup5, p_lenL, p_lenT, p_listL, p_listT, p_tupleL, p_tupleT, p_abs, p_max2, p_min2, p_max4, p_intI, p_intB, p_isi, p_rev, p_revT, ok_popS, popQ_o, t_b, t_i, t_n, a_n, a_t, a_l, sM_t, sM_f, sA_0, sA_1, wE_0, wE_1, List.map_cons, List.map_nil, List.set_cons_zero, List.set_cons_succ, List.getElem?_cons_zero, List.getElem?_cons_succ, Nat.reduceAdd, at0, at1, at2, at3, at4, at5, at6, ix0, ix1, ix2, List.length_cons, List.length_nil, List.nil_append, decide_eq_true_eq, onFin_rt, onFin_nx, Bool.not_eq_true', decide_eq_false_iff_not, Int.reducePow, Int.reduceNeg, Int.reduceLT, Int.reduceLE, Nat.reduceLeDiff, Int.reduceToNat, Nat.reducePow, Int.reduceSub, Int.reduceAdd, Int.reduceMul, true_and, and_true, true_or, or_true, decide_true, and_self, if_true, if_false, Bool.false_eq_true, Bool.true_eq_false, reduceCtorEq, not_false_eq_true, not_true_eq_false, reduceIte, p_dictT, dixQ_t, p_sortT, p_ninT, p_dictP, p_tupP, p_dn, p_getT, ok_dput, dputQ_o, ok_dsd, dsdQ_o, frzQ_t, frzQ_k, sM_d, sM_k, ok_dcomp, ditQ_d, ok_disp, dspQ_d, ok_kput, kputQ_o, p_dictK, p_ninK, p_getK, ok_parT, s_law_1_8, p_sl01T, p_sl10T]
      refine ⟨line_le (by omega), ?_⟩
      simp only [ok_asg, ok_par, ok_ownS, ok_newc, newQ_l, ok_cset, csetQ0, ok_app, appQ_o, ok_ins, insQ_o, ok_frz, frzQ_o, frzQ_v, ok_iteS, ok_for, ok_whil, ok_ret, ok_retN, ok_expr, ok_brk, ok_cont, ok_pass, ok_var, ok_own, ok_k, ok_glob, ok_gdk, gdkQ_s, ok_callK, kwQ_s, arF, Option.bind_some, Option.map_some, ok_dct, ok_dix, dixQ_k, tst_callK, ok_lset, lsetQ_o, p_rep, ok_prim, ok_and, ok_or, ok_not, ok_iteE, ok_chain, ok_call, ok_cidx, cidQ0, ok_comp, ok_esnil, ok_escons, ok_t0, ok_t1, ok_seq, seqQQ_l, seqQQ_t, seqQQ_s, ok_rng, ok_rng2, ok_zip, zipQ_l, zipQ_t, ok_enum, enumQ_l, p_sorted, eqD_pair, rngQ_i, ok_tand, ok_tor, ok_tnot, tst_var, tst_own, tst_k, tst_prim, tst_ite, tst_chain, tst_call, tst_cidx, ok_bind, ok_ok, ok_no, ok_guard, Res.bind_ok, eqD_int, eqD_bool, eqD_str, eqD_nil, eqD_none, konV, setAll, seqQ_nx, seqQ_rt, seqQ_bk, seqQ_ct, ok_cons, ok_nil, p_add, p_addL, p_addT, p_addS, p_sub, p_mul, p_fdiv, p_mod, p_pow, p_neg, p_eq, p_ne, p_lt, p_le, p_gt, p_ge, p_in, p_notin, p_isN, p_notN, p_isB, p_notB, p_idxL, p_idxT, p_lst0, p_lst1, p_lst2, p_lst3, p_lst4, p_lst5, p_lst6, p_lst7, p_tup0, p_tup1, p_tup2, p_tup3, p_tup4, p_tup5, p_lenL, p_lenT, p_listL, p_listT, p_tupleL, p_tupleT, p_abs, p_max2, p_min2, p_max4, p_intI, p_intB, p_isi, p_rev, p_revT, ok_popS, popQ_o, t_b, t_i, t_n, a_n, a_t, a_l, sM_t, sM_f, sA_0, sA_1, wE_0, wE_1, List.map_cons, List.map_nil, List.set_cons_zero, List.set_cons_succ, List.getElem?_cons_zero, List.getElem?_cons_succ, Nat.reduceAdd, at0, at1, at2, at3, at4, at5, at6, ix0, ix1, ix2, List.length_cons, List.length_nil, List.nil_append, decide_eq_true_eq, onFin_rt, onFin_nx, Bool.not_eq_true', decide_eq_false_iff_not, Int.reducePow, Int.reduceNeg, Int.reduceLT, Int.reduceLE, Nat.reduceLeDiff, Int.reduceToNat, Nat.reducePow, Int.reduceSub, Int.reduceAdd, Int.reduceMul, true_and, and_true, true_or, or_true, decide_true, and_self, if_true, if_false, Bool.false_eq_true, Bool.true_eq_false, reduceCtorEq, not_false_eq_true, not_true_eq_false, reduceIte, p_dictT, dixQ_t, p_sortT, p_ninT, p_dictP, p_tupP, p_dn, p_getT, ok_dput, dputQ_o, ok_dsd, dsdQ_o, frzQ_t, frzQ_k, sM_d, sM_k, ok_dcomp, ditQ_d, ok_disp, dspQ_d, ok_kput, kputQ_o, p_dictK, p_ninK, p_getK, ok_parT, List.length_append]
      refine ⟨line_le (by first | omega | (simp only [List.length_cons, List.length_nil]; omega)), ?_⟩
      rw [ecut]
      have es : PyData.tuple ((pl.take a.toNat).map rwD ++ rwD ⟨r.nm, t, r.nx⟩ :: (pl.drop (a.toNat + 1)).map rwD) = .tuple ((pl.take a.toNat ++ ⟨r.nm, t, r.nx⟩ :: pl.drop (a.toNat + 1)).map rwD) := by
        rw [List.map_append, List.map_cons]
      rw [es]
      simp only [ok_asg, ok_par, ok_ownS, ok_newc, newQ_l, ok_cset, csetQ0, ok_app, appQ_o, ok_ins, insQ_o, ok_frz, frzQ_o, frzQ_v, ok_iteS, ok_for, ok_whil, ok_ret, ok_retN, ok_expr, ok_brk, ok_cont, ok_pass, ok_var, ok_own, ok_k, ok_glob, ok_gdk, gdkQ_s, ok_callK, kwQ_s, arF, Option.bind_some, Option.map_some, ok_dct, ok_dix, dixQ_k, tst_callK, ok_lset, lsetQ_o, p_rep, ok_prim, ok_and, ok_or, ok_not, ok_iteE, ok_chain, ok_call, ok_cidx, cidQ0, ok_comp, ok_esnil, ok_escons, ok_t0, ok_t1, ok_seq, seqQQ_l, seqQQ_t, seqQQ_s, ok_rng, ok_rng2, ok_zip, zipQ_l, zipQ_t, ok_enum, enumQ_l, p_sorted, eqD_pair, rngQ_i, ok_tand, ok_tor, ok_tnot, tst_var, tst_own, tst_k, tst_prim, tst_ite, tst_chain, tst_call, tst_cidx, ok_bind, ok_ok, ok_no, ok_guard, Res.bind_ok, eqD_int, eqD_bool, eqD_str, eqD_nil, eqD_none, konV, setAll, seqQ_nx, seqQ_rt, seqQ_bk, seqQ_ct, ok_cons, ok_nil, p_add, p_addL, p_addT, p_addS, p_sub, p_mul, p_fdiv, p_mod, p_pow, p_neg, p_eq, p_ne, p_lt, p_le, p_gt, p_ge, p_in, p_notin, p_isN, p_notN, p_isB, p_notB, p_idxL, p_idxT, p_lst0, p_lst1, p_lst2, p_lst3, p_lst4, p_lst5, p_lst6, p_lst7, p_tup0, p_tup1, p_tup2, p_tup3, p_tup4, p_tup5, p_lenL, p_lenT, p_listL, p_listT, p_tupleL, p_tupleT, p_abs, p_max2, p_min2, p_max4, p_intI, p_intB, p_isi, p_rev, p_revT, ok_popS, popQ_o, t_b, t_i, t_n, a_n, a_t, a_l, sM_t, sM_f, sA_0, sA_1, wE_0, wE_1, List.map_cons, List.map_nil, List.set_cons_zero, List.set_cons_succ, List.getElem?_cons_zero, List.getElem?_cons_succ, Nat.reduceAdd, at0, at1, at2, at3, at4, at5, at6, ix0, ix1, ix2, List.length_cons, List.length_nil, List.nil_append, decide_eq_true_eq, onFin_rt, onFin_nx, Bool.not_eq_true', decide_eq_false_iff_not, Int.reducePow, Int.reduceNeg, Int.reduceLT, Int.reduceLE, Nat.reduceLeDiff, Int.reduceToNat, Nat.reducePow, Int.reduceSub, Int.reduceAdd, Int.reduceMul, true_and, and_true, true_or, or_true, decide_true, and_self, if_true, if_false, Bool.false_eq_true, Bool.true_eq_false, reduceCtorEq, not_false_eq_true, not_true_eq_false, reduceIte, p_dictT, dixQ_t, p_sortT, p_ninT, p_dictP, p_tupP, p_dn, p_getT, ok_dput, dputQ_o, ok_dsd, dsdQ_o, frzQ_t, frzQ_k, sM_d, sM_k, ok_dcomp, ditQ_d, ok_disp, dspQ_d, ok_kput, kputQ_o, p_dictK, p_ninK, p_getK, ok_parT, s_law_1_9, List.length_map]
      refine draw_ok h4 (by omega) (by omega) fun e cs5 e0 e1 h5 => ?_
      simp only [ok_asg, ok_par, ok_ownS, ok_newc, newQ_l, ok_cset, csetQ0, ok_app, appQ_o, ok_ins, insQ_o, ok_frz, frzQ_o, frzQ_v, ok_iteS, ok_for, ok_whil, ok_ret, ok_retN, ok_expr, ok_brk, ok_cont, ok_pass, ok_var, ok_own, ok_k, ok_glob, ok_gdk, gdkQ_s, ok_callK, kwQ_s, arF, Option.bind_some, Option.map_some, ok_dct, ok_dix, dixQ_k, tst_callK, ok_lset, lsetQ_o, p_rep, ok_prim, ok_and, ok_or, ok_not, ok_iteE, ok_chain, ok_call, ok_cidx, cidQ0, ok_comp, ok_esnil, ok_escons, ok_t0, ok_t1, ok_seq, seqQQ_l, seqQQ_t, seqQQ_s, ok_rng, ok_rng2, ok_zip, zipQ_l, zipQ_t, ok_enum, enumQ_l, p_sorted, eqD_pair, rngQ_i, ok_tand, ok_tor, ok_tnot, tst_var, tst_own, tst_k, tst_prim, tst_ite, tst_chain, tst_call, tst_cidx, ok_bind, ok_ok, ok_no, ok_guard, Res.bind_ok, eqD_int, eqD_bool, eqD_str, eqD_nil, eqD_none, konV, setAll, seqQ_nx, seqQ_rt, seqQ_bk, seqQ_ct, ok_cons, ok_nil, p_add, p_addL, p_addT, p_addS, p_sub, p_mul, p_fdiv, p_mod, p_pow, p_neg, p_eq, p_ne, p_lt, p_le, p_gt, p_ge, p_in, p_notin, p_isN, p_notN, p_isB, p_notB, p_idxL, p_idxT, p_lst0, p_lst1, p_lst2, p_lst3, p_lst4, p_lst5, p_lst6, p_lst7, p_tup0, p_tup1, p_tup2, p_tup3, p_tup4, p_tup5, p_lenL, p_lenT, p_listL, p_listT, p_tupleL, p_tupleT, p_abs, p_max2, p_min2, p_max4, p_intI, p_intB, p_isi, p_rev, p_revT, ok_popS, popQ_o, t_b, t_i, t_n, a_n, a_t, a_l, sM_t, sM_f, sA_0, sA_1, wE_0, wE_1, List.map_cons, List.map_nil, List.set_cons_zero, List.set_cons_succ, List.getElem?_cons_zero, List.getElem?_cons_succ, Nat.reduceAdd, at0, at1, at2, at3, at4, at5, at6, ix0, ix1, ix2, List.length_cons, List.length_nil, List.nil_append, decide_eq_true_eq, onFin_rt, onFin_nx, Bool.not_eq_true', decide_eq_false_iff_not, Int.reducePow, Int.reduceNeg, Int.reduceLT, Int.reduceLE, Nat.reduceLeDiff, Int.reduceToNat, Nat.reducePow, Int.reduceSub, Int.reduceAdd, Int.reduceMul, true_and, and_true, true_or, or_true, decide_true, and_self, if_true, if_false, Bool.false_eq_true, Bool.true_eq_false, reduceCtorEq, not_false_eq_true, not_true_eq_false, reduceIte, p_dictT, dixQ_t, p_sortT, p_ninT, p_dictP, p_tupP, p_dn, p_getT, ok_dput, dputQ_o, ok_dsd, dsdQ_o, frzQ_t, frzQ_k, sM_d, sM_k, ok_dcomp, ditQ_d, ok_disp, dspQ_d, ok_kput, kputQ_o, p_dictK, p_ninK, p_getK, ok_parT]
      refine ok_at e0 (by rw [List.length_map]; omega) fun y hy => ?_
      rw [List.getElem?_map] at hy
      obtain ⟨u0, hu0, rfl⟩ := Option.map_eq_some_iff.mp hy
      have hu := hmem u0 (List.mem_of_getElem? hu0)
      try simp only [ok_asg, ok_par, ok_ownS, ok_newc, newQ_l, ok_cset, csetQ0, ok_app, appQ_o, ok_ins, insQ_o, ok_frz, frzQ_o, frzQ_v, ok_iteS, ok_for, ok_whil, ok_ret, ok_retN, ok_expr, ok_brk, ok_cont, ok_pass, ok_var, ok_own, ok_k, ok_glob, ok_gdk, gdkQ_s, ok_callK, kwQ_s, arF, Option.bind_some, Option.map_some, ok_dct, ok_dix, dixQ_k, tst_callK, ok_lset, lsetQ_o, p_rep, ok_prim, ok_and, ok_or, ok_not, ok_iteE, ok_chain, ok_call, ok_cidx, cidQ0, ok_comp, ok_esnil, ok_escons, ok_t0, ok_t1, ok_seq, seqQQ_l, seqQQ_t, seqQQ_s, ok_rng, ok_rng2, ok_zip, zipQ_l, zipQ_t, ok_enum, enumQ_l, p_sorted, eqD_pair, rngQ_i, ok_tand, ok_tor, ok_tnot, tst_var, tst_own, tst_k, tst_prim, tst_ite, tst_chain, tst_call, tst_cidx, ok_bind, ok_ok, ok_no, ok_guard, Res.bind_ok, eqD_int, eqD_bool, eqD_str, eqD_nil, eqD_none, konV, setAll, seqQ_nx, seqQ_rt, seqQ_bk, seqQ_ct, ok_cons, ok_nil, p_add, p_addL, p_addT, p_addS, p_sub, p_mul, p_fdiv, p_mod, p_pow, p_neg, p_eq, p_ne, p_lt, p_le, p_gt, p_ge, p_in, p_notin, p_isN, p_notN, p_isB, p_notB, p_idxL, p_idxT, p_lst0, p_lst1, p_lst2, p_lst3, p_lst4, p_lst5, p_lst6, p_lst7, p_tup0, p_tup1, p_tup2, p_tup3, p_tup4, p_tup5, p_lenL, p_lenT, p_listL, p_listT, p_tupleL, p_tupleT, p_abs, p_max2, p_min2, p_max4, p_intI, p_intB, p_isi, p_rev, p_revT, ok_popS, popQ_o, t_b, t_i, t_n, a_n, a_t, a_l, sM_t, sM_f, sA_0, sA_1, wE_0, wE_1, List.map_cons, List.map_nil, List.set_cons_zero, List.set_cons_succ, List.getElem?_cons_zero, List.getElem?_cons_succ, Nat.reduceAdd, at0, at1, at2, at3, at4, at5, at6, ix0, ix1, ix2, List.length_cons, List.length_nil, List.nil_append, decide_eq_true_eq, onFin_rt, onFin_nx, Bool.not_eq_true', decide_eq_false_iff_not, Int.reducePow, Int.reduceNeg, Int.reduceLT, Int.reduceLE, Nat.reduceLeDiff, Int.reduceToNat, Nat.reducePow, Int.reduceSub, Int.reduceAdd, Int.reduceMul, true_and, and_true, true_or, or_true, decide_true, and_self, if_true, if_false, Bool.false_eq_true, Bool.true_eq_false, reduceCtorEq, not_false_eq_true, not_true_eq_false, reduceIte, p_dictT, dixQ_t, p_sortT, p_ninT, p_dictP, p_tupP, p_dn, p_getT, ok_dput, dputQ_o, ok_dsd, dsdQ_o, frzQ_t, frzQ_k, sM_d, sM_k, ok_dcomp, ditQ_d, ok_disp, dspQ_d, ok_kput, kputQ_o, p_dictK, p_ninK, p_getK, ok_parT]
      rw [← ok_cons]
      have P : Pls pl (pl.take a.toNat ++ rm :: pl.drop (a.toNat + 1)) (pl.take a.toNat ++ ⟨r.nm, t, r.nx⟩ :: pl.drop (a.toNat + 1)) := by
        have gg := g
        rw [hsp] at gg
        have := pls_of (rs := ⟨r.nm, t, r.nx⟩) gg m1 m2 m3 (by rw [← hsp]; exact m4) m5 rfl rfl ⟨t1, t2⟩
        rwa [← hsp] at this
      exact rest_ok (n := n + 1) hW P hu fun s15 s16 s17 s18 s19 => k _ _ _ _ _ _ _ _ _ _ _ _ _ _ _ _ _ _ _ h5
    have fin0 := fun cs ht => fin r cs ht rfl rfl hnx.1 hnx.2 (fun y hy => hy)
    rw [erw] at fin0
    simp only [ok_asg, ok_par, ok_ownS, ok_newc, newQ_l, ok_cset, csetQ0, ok_app, appQ_o, ok_ins, insQ_o, ok_frz, frzQ_o, frzQ_v, ok_iteS, ok_for, ok_whil, ok_ret, ok_retN, ok_expr, ok_brk, ok_cont, ok_pass, ok_var, ok_own, ok_k, ok_glob, ok_gdk, gdkQ_s, ok_callK, kwQ_s, arF, Option.bind_some, Option.map_some, ok_dct, ok_dix, dixQ_k, tst_callK, ok_lset, lsetQ_o, p_rep, ok_prim, ok_and, ok_or, ok_not, ok_iteE, ok_chain, ok_call, ok_cidx, cidQ0, ok_comp, ok_esnil, ok_escons, ok_t0, ok_t1, ok_seq, seqQQ_l, seqQQ_t, seqQQ_s, ok_rng, ok_rng2, ok_zip, zipQ_l, zipQ_t, ok_enum, enumQ_l, p_sorted, eqD_pair, rngQ_i, ok_tand, ok_tor, ok_tnot, tst_var, tst_own, tst_k, tst_prim, tst_ite, tst_chain, tst_call, tst_cidx, ok_bind, ok_ok, ok_no, ok_guard, Res.bind_ok, eqD_int, eqD_bool, eqD_str, eqD_nil, eqD_none, konV, setAll, seqQ_nx, seqQ_rt, seqQ_bk, seqQ_ct, ok_cons, ok_nil, p_add, p_addL, p_addT, p_addS, p_sub, p_mul, p_fdiv, p_mod, p_pow, p_neg, p_eq, p_ne, p_lt, p_le, p_gt, p_ge, p_in, p_notin, p_isN, p_notN, p_isB, p_notB, p_idxL, p_idxT, p_lst0, p_lst1, p_lst2, p_lst3, p_lst4, p_lst5, p_lst6, p_lst7, p_tup0, p_tup1, p_tup2, p_tup3, p_tup4, p_tup5, p_lenL, p_lenT, p_listL, p_listT, p_tupleL, p_tupleT, p_abs, p_max2, p_min2, p_max4, p_intI, p_intB, p_isi, p_rev, p_revT, ok_popS, popQ_o, t_b, t_i, t_n, a_n, a_t, a_l, sM_t, sM_f, sA_0, sA_1, wE_0, wE_1, List.map_cons, List.map_nil, List.set_cons_zero, List.set_cons_succ, List.getElem?_cons_zero, List.getElem?_cons_succ, Nat.reduceAdd, at0, at1, at2, at3, at4, at5, at6, ix0, ix1, ix2, List.length_cons, List.length_nil, List.nil_append, decide_eq_true_eq, onFin_rt, onFin_nx, Bool.not_eq_true', decide_eq_false_iff_not, Int.reducePow, Int.reduceNeg, Int.reduceLT, Int.reduceLE, Nat.reduceLeDiff, Int.reduceToNat, Nat.reducePow, Int.reduceSub, Int.reduceAdd, Int.reduceMul, true_and, and_true, true_or, or_true, decide_true, and_self, if_true, if_false, Bool.false_eq_true, Bool.true_eq_false, reduceCtorEq, not_false_eq_true, not_true_eq_false, reduceIte, p_dictT, dixQ_t, p_sortT, p_ninT, p_dictP, p_tupP, p_dn, p_getT, ok_dput, dputQ_o, ok_dsd, dsdQ_o, frzQ_t, frzQ_k, sM_d, sM_k, ok_dcomp, ditQ_d, ok_disp, dspQ_d, ok_kput, kputQ_o, p_dictK, p_ninK, p_getK, ok_parT, s_law_1_5, List.length_map]
    by_cases hl : r.nx.length = 1
    · obtain ⟨y, hy⟩ : ∃ y, r.nx = [y] := by
        cases hq : r.nx with
        | nil => rw [hq] at hl; cases hl
        | cons y t => cases t with
          | nil => exact ⟨y, rfl⟩
          | cons _ _ => rw [hq] at hl; simp at hl
      have hym := hnx.2 y (by rw [hy]; simp)
      rw [hy] at fin0 ⊢
      simp only [ok_asg, ok_par, ok_ownS, ok_newc, newQ_l, ok_cset, csetQ0, ok_app, appQ_o, ok_ins, insQ_o, ok_frz, frzQ_o, frzQ_v, ok_iteS, ok_for, ok_whil, ok_ret, ok_retN, ok_expr, ok_brk, ok_cont, ok_pass, ok_var, ok_own, ok_k, ok_glob, ok_gdk, gdkQ_s, ok_callK, kwQ_s, arF, Option.bind_some, Option.map_some, ok_dct, ok_dix, dixQ_k, tst_callK, ok_lset, lsetQ_o, p_rep, ok_prim, ok_and, ok_or, ok_not, ok_iteE, ok_chain, ok_call, ok_cidx, cidQ0, ok_comp, ok_esnil, ok_escons, ok_t0, ok_t1, ok_seq, seqQQ_l, seqQQ_t, seqQQ_s, ok_rng, ok_rng2, ok_zip, zipQ_l, zipQ_t, ok_enum, enumQ_l, p_sorted, eqD_pair, rngQ_i, ok_tand, ok_tor, ok_tnot, tst_var, tst_own, tst_k, tst_prim, tst_ite, tst_chain, tst_call, tst_cidx, ok_bind, ok_ok, ok_no, ok_guard, Res.bind_ok, eqD_int, eqD_bool, eqD_str, eqD_nil, eqD_none, konV, setAll, seqQ_nx, seqQ_rt, seqQ_bk, seqQ_ct, ok_cons, ok_nil, p_add, p_addL, p_addT, p_addS, p_sub, p_mul, p_fdiv, p_mod, p_pow, p_neg, p_eq, p_ne, p_lt, p_le, p_gt, p_ge, p_in, p_notin, p_isN, p_notN, p_isB, p_notB, p_idxL, p_idxT, p_lst0, p_lst1, p_lst2, p_lst3, p_lst4, p_lst5, p_lst6, p_lst7, p_tup0, p_tup1, p_tup2, p_tup3, p_tup4, p_tup5, p_lenL, p_lenT, p_listL, p_listT, p_tupleL, p_tupleT, p_abs, p_max2, p_min2, p_max4, p_intI, p_intB, p_isi, p_rev, p_revT, ok_popS, popQ_o, t_b, t_i, t_n, a_n, a_t, a_l, sM_t, sM_f, sA_0, sA_1, wE_0, wE_1, List.map_cons, List.map_nil, List.set_cons_zero, List.set_cons_succ, List.getElem?_cons_zero, List.getElem?_cons_succ, Nat.reduceAdd, at0, at1, at2, at3, at4, at5, at6, ix0, ix1, ix2, List.length_cons, List.length_nil, List.nil_append, decide_eq_true_eq, onFin_rt, onFin_nx, Bool.not_eq_true', decide_eq_false_iff_not, Int.reducePow, Int.reduceNeg, Int.reduceLT, Int.reduceLE, Nat.reduceLeDiff, Int.reduceToNat, Nat.reducePow, Int.reduceSub, Int.reduceAdd, Int.reduceMul, true_and, and_true, true_or, or_true, decide_true, and_self, if_true, if_false, Bool.false_eq_true, Bool.true_eq_false, reduceCtorEq, not_false_eq_true, not_true_eq_false, reduceIte, p_dictT, dixQ_t, p_sortT, p_ninT, p_dictP, p_tupP, p_dn, p_getT, ok_dput, dputQ_o, ok_dsd, dsdQ_o, frzQ_t, frzQ_k, sM_d, sM_k, ok_dcomp, ditQ_d, ok_disp, dspQ_d, ok_kput, kputQ_o, p_dictK, p_ninK, p_getK, ok_parT]
      by_cases hoy : oth = y
      · subst hoy
        rw [if_pos (show ((1 : Nat) : Int) = 1 from rfl), if_neg fun q => q rfl]
        unfold b_law_1_5e
        simp only [ok_asg, ok_par, ok_ownS, ok_newc, newQ_l, ok_cset, csetQ0, ok_app, appQ_o, ok_ins, insQ_o, ok_frz, frzQ_o, frzQ_v, ok_iteS, ok_for, ok_whil, ok_ret, ok_retN, ok_expr, ok_brk, ok_cont, ok_pass, ok_var, ok_own, ok_k, ok_glob, ok_gdk, gdkQ_s, ok_callK, kwQ_s, arF, Option.bind_some, Option.map_some, ok_dct, ok_dix, dixQ_k, tst_callK, ok_lset, lsetQ_o, p_rep, ok_prim, ok_and, ok_or, ok_not, ok_iteE, ok_chain, ok_call, ok_cidx, cidQ0, ok_comp, ok_esnil, ok_escons, ok_t0, ok_t1, ok_seq, seqQQ_l, seqQQ_t, seqQQ_s, ok_rng, ok_rng2, ok_zip, zipQ_l, zipQ_t, ok_enum, enumQ_l, p_sorted, eqD_pair, rngQ_i, ok_tand, ok_tor, ok_tnot, tst_var, tst_own, tst_k, tst_prim, tst_ite, tst_chain, tst_call, tst_cidx, ok_bind, ok_ok, ok_no, ok_guard, Res.bind_ok, eqD_int, eqD_bool, eqD_str, eqD_nil, eqD_none, konV, setAll, seqQ_nx, seqQ_rt, seqQ_bk, seqQ_ct, ok_cons, ok_nil, p_add, p_addL, p_addT, p_addS, p_sub, p_mul, p_fdiv, p_mod, p_pow, p_neg, p_eq, p_ne, p_lt, p_le, p_gt, p_ge, p_in, p_notin, p_isN, p_notN, p_isB, p_notB, p_idxL, p_idxT, p_lst0, p_lst1, p_lst2, p_lst3, p_lst4, p_lst5, p_lst6, p_lst7, p_tup0, p_tup1, p_tup2, p_tup3, p_tup4, p_tup5, p_lenL, p_lenT, p_listL, p_listT, p_tupleL, p_tupleT, p_abs, p_max2, p_min2, p_max4, p_intI, p_intB, p_isi, p_rev, p_revT, ok_popS, popQ_o, t_b, t_i, t_n, a_n, a_t, a_l, sM_t, sM_f, sA_0, sA_1, wE_0, wE_1, List.map_cons, List.map_nil, List.set_cons_zero, List.set_cons_succ, List.getElem?_cons_zero, List.getElem?_cons_succ, Nat.reduceAdd, at0, at1, at2, at3, at4, at5, at6, ix0, ix1, ix2, List.length_cons, List.length_nil, List.nil_append, decide_eq_true_eq, onFin_rt, onFin_nx, Bool.not_eq_true', decide_eq_false_iff_not, Int.reducePow, Int.reduceNeg, Int.reduceLT, Int.reduceLE, Nat.reduceLeDiff, Int.reduceToNat, Nat.reducePow, Int.reduceSub, Int.reduceAdd, Int.reduceMul, true_and, and_true, true_or, or_true, decide_true, and_self, if_true, if_false, Bool.false_eq_true, Bool.true_eq_false, reduceCtorEq, not_false_eq_true, not_true_eq_false, reduceIte, p_dictT, dixQ_t, p_sortT, p_ninT, p_dictP, p_tupP, p_dn, p_getT, ok_dput, dputQ_o, ok_dsd, dsdQ_o, frzQ_t, frzQ_k, sM_d, sM_k, ok_dcomp, ditQ_d, ok_disp, dspQ_d, ok_kput, kputQ_o, p_dictK, p_ninK, p_getK, ok_parT]
        rw [← ok_cons]
        exact fin0 _ h3
      · rw [if_pos (show ((1 : Nat) : Int) = 1 from rfl), if_pos hoy]
        unfold b_law_1_5t
        simp only [ok_asg, ok_par, ok_ownS, ok_newc, newQ_l, ok_cset, csetQ0, ok_app, appQ_o, ok_ins, insQ_o, ok_frz, frzQ_o, frzQ_v, ok_iteS, ok_for, ok_whil, ok_ret, ok_retN, ok_expr, ok_brk, ok_cont, ok_pass, ok_var, ok_own, ok_k, ok_glob, ok_gdk, gdkQ_s, ok_callK, kwQ_s, arF, Option.bind_some, Option.map_some, ok_dct, ok_dix, dixQ_k, tst_callK, ok_lset, lsetQ_o, p_rep, ok_prim, ok_and, ok_or, ok_not, ok_iteE, ok_chain, ok_call, ok_cidx, cidQ0, ok_comp, ok_esnil, ok_escons, ok_t0, ok_t1, ok_seq, seqQQ_l, seqQQ_t, seqQQ_s, ok_rng, ok_rng2, ok_zip, zipQ_l, zipQ_t, ok_enum, enumQ_l, p_sorted, eqD_pair, rngQ_i, ok_tand, ok_tor, ok_tnot, tst_var, tst_own, tst_k, tst_prim, tst_ite, tst_chain, tst_call, tst_cidx, ok_bind, ok_ok, ok_no, ok_guard, Res.bind_ok, eqD_int, eqD_bool, eqD_str, eqD_nil, eqD_none, konV, setAll, seqQ_nx, seqQ_rt, seqQ_bk, seqQ_ct, ok_cons, ok_nil, p_add, p_addL, p_addT, p_addS, p_sub, p_mul, p_fdiv, p_mod, p_pow, p_neg, p_eq, p_ne, p_lt, p_le, p_gt, p_ge, p_in, p_notin, p_isN, p_notN, p_isB, p_notB, p_idxL, p_idxT, p_lst0, p_lst1, p_lst2, p_lst3, p_lst4, p_lst5, p_lst6, p_lst7, p_tup0, p_tup1, p_tup2, p_tup3, p_tup4, p_tup5, p_lenL, p_lenT, p_listL, p_listT, p_tupleL, p_tupleT, p_abs, p_max2, p_min2, p_max4, p_intI, p_intB, p_isi, p_rev, p_revT, ok_popS, popQ_o, t_b, t_i, t_n, a_n, a_t, a_l, sM_t, sM_f, sA_0, sA_1, wE_0, wE_1, List.map_cons, List.map_nil, List.set_cons_zero, List.set_cons_succ, List.getElem?_cons_zero, List.getElem?_cons_succ, Nat.reduceAdd, at0, at1, at2, at3, at4, at5, at6, ix0, ix1, ix2, List.length_cons, List.length_nil, List.nil_append, decide_eq_true_eq, onFin_rt, onFin_nx, Bool.not_eq_true', decide_eq_false_iff_not, Int.reducePow, Int.reduceNeg, Int.reduceLT, Int.reduceLE, Nat.reduceLeDiff, Int.reduceToNat, Nat.reducePow, Int.reduceSub, Int.reduceAdd, Int.reduceMul, true_and, and_true, true_or, or_true, decide_true, and_self, if_true, if_false, Bool.false_eq_true, Bool.true_eq_false, reduceCtorEq, not_false_eq_true, not_true_eq_false, reduceIte, p_dictT, dixQ_t, p_sortT, p_ninT, p_dictP, p_tupP, p_dn, p_getT, ok_dput, dputQ_o, ok_dsd, dsdQ_o, frzQ_t, frzQ_k, sM_d, sM_k, ok_dcomp, ditQ_d, ok_disp, dspQ_d, ok_kput, kputQ_o, p_dictK, p_ninK, p_getK, ok_parT, s_law_1_5t_0]
        refine ⟨line_le (by omega), line_le (by omega), ?_⟩
        refine draw_ok h3 (by omega) (by omega) fun c cs4 c0 c1 h4 => ?_
        have hx : ∃ rm : Rw, rm.nm = r.nm ∧ rm.tk = r.tk ∧ rm.nx.length ≤ 2 ∧ (∀ z ∈ rm.nx, z ∈ pl.map (·.nm)) ∧ (∀ z ∈ [y], z ∈ rm.nx) ∧ atD [PyData.tuple ([PyData.str y] ++ [PyData.str oth]), PyData.tuple ([PyData.str oth] ++ [PyData.str y])] c = .ok (.d (.tuple (rm.nx.map .str))) := by
          have hc : c = 0 ∨ c = 1 := by omega
          rcases hc with rfl | rfl
          · refine ⟨⟨r.nm, r.tk, [y, oth]⟩, rfl, rfl, by simp, fun z hz => ?_, fun z hz => by simp at hz; simp [hz], at0⟩
            simp only [List.mem_cons, List.not_mem_nil, or_false] at hz
            rcases hz with rfl | rfl
            · exact hym
            · exact hoth
          · refine ⟨⟨r.nm, r.tk, [oth, y]⟩, rfl, rfl, by simp, fun z hz => ?_, fun z hz => by simp at hz; simp [hz], at1⟩
            simp only [List.mem_cons, List.not_mem_nil, or_false] at hz
            rcases hz with rfl | rfl
            · exact hoth
            · exact hym
        obtain ⟨rm, e1, e2, e3, e4, e5, e6⟩ := hx
        simp only [ok_asg, ok_par, ok_ownS, ok_newc, newQ_l, ok_cset, csetQ0, ok_app, appQ_o, ok_ins, insQ_o, ok_frz, frzQ_o, frzQ_v, ok_iteS, ok_for, ok_whil, ok_ret, ok_retN, ok_expr, ok_brk, ok_cont, ok_pass, ok_var, ok_own, ok_k, ok_glob, ok_gdk, gdkQ_s, ok_callK, kwQ_s, arF, Option.bind_some, Option.map_some, ok_dct, ok_dix, dixQ_k, tst_callK, ok_lset, lsetQ_o, p_rep, ok_prim, ok_and, ok_or, ok_not, ok_iteE, ok_chain, ok_call, ok_cidx, cidQ0, ok_comp, ok_esnil, ok_escons, ok_t0, ok_t1, ok_seq, seqQQ_l, seqQQ_t, seqQQ_s, ok_rng, ok_rng2, ok_zip, zipQ_l, zipQ_t, ok_enum, enumQ_l, p_sorted, eqD_pair, rngQ_i, ok_tand, ok_tor, ok_tnot, tst_var, tst_own, tst_k, tst_prim, tst_ite, tst_chain, tst_call, tst_cidx, ok_bind, ok_ok, ok_no, ok_guard, Res.bind_ok, eqD_int, eqD_bool, eqD_str, eqD_nil, eqD_none, konV, setAll, seqQ_nx, seqQ_rt, seqQ_bk, seqQ_ct, ok_cons, ok_nil, p_add, p_addL, p_addT, p_addS, p_sub, p_mul, p_fdiv, p_mod, p_pow, p_neg, p_eq, p_ne, p_lt, p_le, p_gt, p_ge, p_in, p_notin, p_isN, p_notN, p_isB, p_notB, p_idxL, p_idxT, p_lst0, p_lst1, p_lst2, p_lst3, p_lst4, p_lst5, p_lst6, p_lst7, p_tup0, p_tup1, p_tup2, p_tup3, p_tup4, p_tup5, p_lenL, p_lenT, p_listL, p_listT, p_tupleL, p_tupleT, p_abs, p_max2, p_min2, p_max4, p_intI, p_intB, p_isi, p_rev, p_revT, ok_popS, popQ_o, t_b, t_i, t_n, a_n, a_t, a_l, sM_t, sM_f, sA_0, sA_1, wE_0, wE_1, List.map_cons, List.map_nil, List.set_cons_zero, List.set_cons_succ, List.getElem?_cons_zero, List.getElem?_cons_succ, Nat.reduceAdd, at0, at1, at2, at3, at4, at5, at6, ix0, ix1, ix2, List.length_cons, List.length_nil, List.nil_append, decide_eq_true_eq, onFin_rt, onFin_nx, Bool.not_eq_true', decide_eq_false_iff_not, Int.reducePow, Int.reduceNeg, Int.reduceLT, Int.reduceLE, Nat.reduceLeDiff, Int.reduceToNat, Nat.reducePow, Int.reduceSub, Int.reduceAdd, Int.reduceMul, true_and, and_true, true_or, or_true, decide_true, and_self, if_true, if_false, Bool.false_eq_true, Bool.true_eq_false, reduceCtorEq, not_false_eq_true, not_true_eq_false, reduceIte, p_dictT, dixQ_t, p_sortT, p_ninT, p_dictP, p_tupP, p_dn, p_getT, ok_dput, dputQ_o, ok_dsd, dsdQ_o, frzQ_t, frzQ_k, sM_d, sM_k, ok_dcomp, ditQ_d, ok_disp, dspQ_d, ok_kput, kputQ_o, p_dictK, p_ninK, p_getK, ok_parT, e6]
        rw [← ok_cons]
        have hf := fin rm _ h4 e1 e2 e3 e4 (by rw [hy]; exact e5)
        have erm : rwD rm = .tuple [.str r.nm, .int r.tk, .tuple (rm.nx.map .str)] := by unfold rwD; rw [e1, e2]
        rw [erm, hy] at hf
        exact hf
    · rw [if_neg (show ¬ ((r.nx.length : Int) = 1) by omega)]
      unfold b_law_1_5e
      simp only [ok_asg, ok_par, ok_ownS, ok_newc, newQ_l, ok_cset, csetQ0, ok_app, appQ_o, ok_ins, insQ_o, ok_frz, frzQ_o, frzQ_v, ok_iteS, ok_for, ok_whil, ok_ret, ok_retN, ok_expr, ok_brk, ok_cont, ok_pass, ok_var, ok_own, ok_k, ok_glob, ok_gdk, gdkQ_s, ok_callK, kwQ_s, arF, Option.bind_some, Option.map_some, ok_dct, ok_dix, dixQ_k, tst_callK, ok_lset, lsetQ_o, p_rep, ok_prim, ok_and, ok_or, ok_not, ok_iteE, ok_chain, ok_call, ok_cidx, cidQ0, ok_comp, ok_esnil, ok_escons, ok_t0, ok_t1, ok_seq, seqQQ_l, seqQQ_t, seqQQ_s, ok_rng, ok_rng2, ok_zip, zipQ_l, zipQ_t, ok_enum, enumQ_l, p_sorted, eqD_pair, rngQ_i, ok_tand, ok_tor, ok_tnot, tst_var, tst_own, tst_k, tst_prim, tst_ite, tst_chain, tst_call, tst_cidx, ok_bind, ok_ok, ok_no, ok_guard, Res.bind_ok, eqD_int, eqD_bool, eqD_str, eqD_nil, eqD_none, konV, setAll, seqQ_nx, seqQ_rt, seqQ_bk, seqQ_ct, ok_cons, ok_nil, p_add, p_addL, p_addT, p_addS, p_sub, p_mul, p_fdiv, p_mod, p_pow, p_neg, p_eq, p_ne, p_lt, p_le, p_gt, p_ge, p_in, p_notin, p_isN, p_notN, p_isB, p_notB, p_idxL, p_idxT, p_lst0, p_lst1, p_lst2, p_lst3, p_lst4, p_lst5, p_lst6, p_lst7, p_tup0, p_tup1, p_tup2, p_tup3, p_tup4, p_tup5, p_lenL, p_lenT, p_listL, p_listT, p_tupleL, p_tupleT, p_abs, p_max2, p_min2, p_max4, p_intI, p_intB, p_isi, p_rev, p_revT, ok_popS, popQ_o, t_b, t_i, t_n, a_n, a_t, a_l, sM_t, sM_f, sA_0, sA_1, wE_0, wE_1, List.map_cons, List.map_nil, List.set_cons_zero, List.set_cons_succ, List.getElem?_cons_zero, List.getElem?_cons_succ, Nat.reduceAdd, at0, at1, at2, at3, at4, at5, at6, ix0, ix1, ix2, List.length_cons, List.length_nil, List.nil_append, decide_eq_true_eq, onFin_rt, onFin_nx, Bool.not_eq_true', decide_eq_false_iff_not, Int.reducePow, Int.reduceNeg, Int.reduceLT, Int.reduceLE, Nat.reduceLeDiff, Int.reduceToNat, Nat.reducePow, Int.reduceSub, Int.reduceAdd, Int.reduceMul, true_and, and_true, true_or, or_true, decide_true, and_self, if_true, if_false, Bool.false_eq_true, Bool.true_eq_false, reduceCtorEq, not_false_eq_true, not_true_eq_false, reduceIte, p_dictT, dixQ_t, p_sortT, p_ninT, p_dictP, p_tupP, p_dn, p_getT, ok_dput, dputQ_o, ok_dsd, dsdQ_o, frzQ_t, frzQ_k, sM_d, sM_k, ok_dcomp, ditQ_d, ok_disp, dspQ_d, ok_kput, kputQ_o, p_dictK, p_ninK, p_getK, ok_parT]
      rw [← ok_cons]
      exact fin0 _ h3
theorem plain : ∀ ns : List Int, ns.length ≤ 63 → ∃ cs, R.run Ds gl 2000 4 i_law [.d (.list (ns.map .int))] [] = .ok (.d (.bool true), cs) := fun ns hl => by
  suffices h : Ok (R.run Ds gl 2000 4 i_law [.d (.list (ns.map .int))] []) (fun r => r.1 = .d (.bool true)) by
    obtain ⟨⟨a, cs⟩, e, rfl⟩ := h.ex
    exact ⟨cs, e⟩
  rw [u_law, ok_fin]
  unfold b_law
  rw [ok_cons]
  simp only [ok_asg, ok_par, ok_ownS, ok_newc, newQ_l, ok_cset, csetQ0, ok_app, appQ_o, ok_ins, insQ_o, ok_frz, frzQ_o, frzQ_v, ok_iteS, ok_for, ok_whil, ok_ret, ok_retN, ok_expr, ok_brk, ok_cont, ok_pass, ok_var, ok_own, ok_k, ok_glob, ok_gdk, gdkQ_s, ok_callK, kwQ_s, arF, Option.bind_some, Option.map_some, ok_dct, ok_dix, dixQ_k, tst_callK, ok_lset, lsetQ_o, p_rep, ok_prim, ok_and, ok_or, ok_not, ok_iteE, ok_chain, ok_call, ok_cidx, cidQ0, ok_comp, ok_esnil, ok_escons, ok_t0, ok_t1, ok_seq, seqQQ_l, seqQQ_t, seqQQ_s, ok_rng, ok_rng2, ok_zip, zipQ_l, zipQ_t, ok_enum, enumQ_l, p_sorted, eqD_pair, rngQ_i, ok_tand, ok_tor, ok_tnot, tst_var, tst_own, tst_k, tst_prim, tst_ite, tst_chain, tst_call, tst_cidx, ok_bind, ok_ok, ok_no, ok_guard, Res.bind_ok, eqD_int, eqD_bool, eqD_str, eqD_nil, eqD_none, konV, setAll, seqQ_nx, seqQ_rt, seqQ_bk, seqQ_ct, ok_cons, ok_nil, p_add, p_addL, p_addT, p_addS, p_sub, p_mul, p_fdiv, p_mod, p_pow, p_neg, p_eq, p_ne, p_lt, p_le, p_gt, p_ge, p_in, p_notin, p_isN, p_notN, p_isB, p_notB, p_idxL, p_idxT, p_lst0, p_lst1, p_lst2, p_lst3, p_lst4, p_lst5, p_lst6, p_lst7, p_tup0, p_tup1, p_tup2, p_tup3, p_tup4, p_tup5, p_lenL, p_lenT, p_listL, p_listT, p_tupleL, p_tupleT, p_abs, p_max2, p_min2, p_max4, p_intI, p_intB, p_isi, p_rev, p_revT, ok_popS, popQ_o, t_b, t_i, t_n, a_n, a_t, a_l, sM_t, sM_f, sA_0, sA_1, wE_0, wE_1, List.map_cons, List.map_nil, List.set_cons_zero, List.set_cons_succ, List.getElem?_cons_zero, List.getElem?_cons_succ, Nat.reduceAdd, at0, at1, at2, at3, at4, at5, at6, ix0, ix1, ix2, List.length_cons, List.length_nil, List.nil_append, decide_eq_true_eq, onFin_rt, onFin_nx, Bool.not_eq_true', decide_eq_false_iff_not, Int.reducePow, Int.reduceNeg, Int.reduceLT, Int.reduceLE, Nat.reduceLeDiff, Int.reduceToNat, Nat.reducePow, Int.reduceSub, Int.reduceAdd, Int.reduceMul, true_and, and_true, true_or, or_true, decide_true, and_self, if_true, if_false, Bool.false_eq_true, Bool.true_eq_false, reduceCtorEq, not_false_eq_true, not_true_eq_false, reduceIte, p_dictT, dixQ_t, p_sortT, p_ninT, p_dictP, p_tupP, p_dn, p_getT, ok_dput, dputQ_o, ok_dsd, dsdQ_o, frzQ_t, frzQ_k, sM_d, sM_k, ok_dcomp, ditQ_d, ok_disp, dspQ_d, ok_kput, kputQ_o, p_dictK, p_ninK, p_getK, ok_parT, s_law_0]
  simp only [ok_asg, ok_par, ok_ownS, ok_newc, newQ_l, ok_cset, csetQ0, ok_app, appQ_o, ok_ins, insQ_o, ok_frz, frzQ_o, frzQ_v, ok_iteS, ok_for, ok_whil, ok_ret, ok_retN, ok_expr, ok_brk, ok_cont, ok_pass, ok_var, ok_own, ok_k, ok_glob, ok_gdk, gdkQ_s, ok_callK, kwQ_s, arF, Option.bind_some, Option.map_some, ok_dct, ok_dix, dixQ_k, tst_callK, ok_lset, lsetQ_o, p_rep, ok_prim, ok_and, ok_or, ok_not, ok_iteE, ok_chain, ok_call, ok_cidx, cidQ0, ok_comp, ok_esnil, ok_escons, ok_t0, ok_t1, ok_seq, seqQQ_l, seqQQ_t, seqQQ_s, ok_rng, ok_rng2, ok_zip, zipQ_l, zipQ_t, ok_enum, enumQ_l, p_sorted, eqD_pair, rngQ_i, ok_tand, ok_tor, ok_tnot, tst_var, tst_own, tst_k, tst_prim, tst_ite, tst_chain, tst_call, tst_cidx, ok_bind, ok_ok, ok_no, ok_guard, Res.bind_ok, eqD_int, eqD_bool, eqD_str, eqD_nil, eqD_none, konV, setAll, seqQ_nx, seqQ_rt, seqQ_bk, seqQ_ct, ok_cons, ok_nil, p_add, p_addL, p_addT, p_addS, p_sub, p_mul, p_fdiv, p_mod, p_pow, p_neg, p_eq, p_ne, p_lt, p_le, p_gt, p_ge, p_in, p_notin, p_isN, p_notN, p_isB, p_notB, p_idxL, p_idxT, p_lst0, p_lst1, p_lst2, p_lst3, p_lst4, p_lst5, p_lst6, p_lst7, p_tup0, p_tup1, p_tup2, p_tup3, p_tup4, p_tup5, p_lenL, p_lenT, p_listL, p_listT, p_tupleL, p_tupleT, p_abs, p_max2, p_min2, p_max4, p_intI, p_intB, p_isi, p_rev, p_revT, ok_popS, popQ_o, t_b, t_i, t_n, a_n, a_t, a_l, sM_t, sM_f, sA_0, sA_1, wE_0, wE_1, List.map_cons, List.map_nil, List.set_cons_zero, List.set_cons_succ, List.getElem?_cons_zero, List.getElem?_cons_succ, Nat.reduceAdd, at0, at1, at2, at3, at4, at5, at6, ix0, ix1, ix2, List.length_cons, List.length_nil, List.nil_append, decide_eq_true_eq, onFin_rt, onFin_nx, Bool.not_eq_true', decide_eq_false_iff_not, Int.reducePow, Int.reduceNeg, Int.reduceLT, Int.reduceLE, Nat.reduceLeDiff, Int.reduceToNat, Nat.reducePow, Int.reduceSub, Int.reduceAdd, Int.reduceMul, true_and, and_true, true_or, or_true, decide_true, and_self, if_true, if_false, Bool.false_eq_true, Bool.true_eq_false, reduceCtorEq, not_false_eq_true, not_true_eq_false, reduceIte, p_dictT, dixQ_t, p_sortT, p_ninT, p_dictP, p_tupP, p_dn, p_getT, ok_dput, dputQ_o, ok_dsd, dsdQ_o, frzQ_t, frzQ_k, sM_d, sM_k, ok_dcomp, ditQ_d, ok_disp, dspQ_d, ok_kput, kputQ_o, p_dictK, p_ninK, p_getK, ok_parT, s_law_1, Int.sub_zero]
  refine ⟨by decide, ?_⟩
  refine ok_loopL (fun i env cs' => ∃ (s2 s3 s4 s5 s6 s7 s8 s9 s10 s11 s12 s13 s14 s15 s16 s17 s18 s19 s20 : Sl), env = [.v (.d (.list (ns.map .int))), .v (.r 0), s2, s3, s4, s5, s6, s7, s8, s9, s10, s11, s12, s13, s14, s15, s16, s17, s18, s19, s20] ∧ Tape cs') _ 0 _ _ ⟨_, _, _, _, _, _, _, _, _, _, _, _, _, _, _, _, _, _, _, rfl, ⟨ns, 0, 0, rfl⟩⟩ ?_ ?_
  · rintro i x env cs' hx ⟨s2, s3, s4, s5, s6, s7, s8, s9, s10, s11, s12, s13, s14, s15, s16, s17, s18, s19, s20, rfl, ht⟩
    rw [ok_lstep]
    simp only [ok_asg, ok_par, ok_ownS, ok_newc, newQ_l, ok_cset, csetQ0, ok_app, appQ_o, ok_ins, insQ_o, ok_frz, frzQ_o, frzQ_v, ok_iteS, ok_for, ok_whil, ok_ret, ok_retN, ok_expr, ok_brk, ok_cont, ok_pass, ok_var, ok_own, ok_k, ok_glob, ok_gdk, gdkQ_s, ok_callK, kwQ_s, arF, Option.bind_some, Option.map_some, ok_dct, ok_dix, dixQ_k, tst_callK, ok_lset, lsetQ_o, p_rep, ok_prim, ok_and, ok_or, ok_not, ok_iteE, ok_chain, ok_call, ok_cidx, cidQ0, ok_comp, ok_esnil, ok_escons, ok_t0, ok_t1, ok_seq, seqQQ_l, seqQQ_t, seqQQ_s, ok_rng, ok_rng2, ok_zip, zipQ_l, zipQ_t, ok_enum, enumQ_l, p_sorted, eqD_pair, rngQ_i, ok_tand, ok_tor, ok_tnot, tst_var, tst_own, tst_k, tst_prim, tst_ite, tst_chain, tst_call, tst_cidx, ok_bind, ok_ok, ok_no, ok_guard, Res.bind_ok, eqD_int, eqD_bool, eqD_str, eqD_nil, eqD_none, konV, setAll, seqQ_nx, seqQ_rt, seqQ_bk, seqQ_ct, ok_cons, ok_nil, p_add, p_addL, p_addT, p_addS, p_sub, p_mul, p_fdiv, p_mod, p_pow, p_neg, p_eq, p_ne, p_lt, p_le, p_gt, p_ge, p_in, p_notin, p_isN, p_notN, p_isB, p_notB, p_idxL, p_idxT, p_lst0, p_lst1, p_lst2, p_lst3, p_lst4, p_lst5, p_lst6, p_lst7, p_tup0, p_tup1, p_tup2, p_tup3, p_tup4, p_tup5, p_lenL, p_lenT, p_listL, p_listT, p_tupleL, p_tupleT, p_abs, p_max2, p_min2, p_max4, p_intI, p_intB, p_isi, p_rev, p_revT, ok_popS, popQ_o, t_b, t_i, t_n, a_n, a_t, a_l, sM_t, sM_f, sA_0, sA_1, wE_0, wE_1, List.map_cons, List.map_nil, List.set_cons_zero, List.set_cons_succ, List.getElem?_cons_zero, List.getElem?_cons_succ, Nat.reduceAdd, at0, at1, at2, at3, at4, at5, at6, ix0, ix1, ix2, List.length_cons, List.length_nil, List.nil_append, decide_eq_true_eq, onFin_rt, onFin_nx, Bool.not_eq_true', decide_eq_false_iff_not, Int.reducePow, Int.reduceNeg, Int.reduceLT, Int.reduceLE, Nat.reduceLeDiff, Int.reduceToNat, Nat.reducePow, Int.reduceSub, Int.reduceAdd, Int.reduceMul, true_and, and_true, true_or, or_true, decide_true, and_self, if_true, if_false, Bool.false_eq_true, Bool.true_eq_false, reduceCtorEq, not_false_eq_true, not_true_eq_false, reduceIte, p_dictT, dixQ_t, p_sortT, p_ninT, p_dictP, p_tupP, p_dn, p_getT, ok_dput, dputQ_o, ok_dsd, dsdQ_o, frzQ_t, frzQ_k, sM_d, sM_k, ok_dcomp, ditQ_d, ok_disp, dspQ_d, ok_kput, kputQ_o, p_dictK, p_ninK, p_getK, ok_parT]
    refine turn_ok (n := 0) (by omega) ht fun s3 s4 s5 s6 s7 s8 s9 s10 s11 s12 s13 s14 s15 s16 s17 s18 s19 s20 cs h => ?_
    exact ⟨_, _, _, _, _, _, _, _, _, _, _, _, _, _, _, _, _, _, _, rfl, h⟩
  · rintro env cs' ⟨s2, s3, s4, s5, s6, s7, s8, s9, s10, s11, s12, s13, s14, s15, s16, s17, s18, s19, s20, rfl, ht⟩
    simp only [ok_asg, ok_par, ok_ownS, ok_newc, newQ_l, ok_cset, csetQ0, ok_app, appQ_o, ok_ins, insQ_o, ok_frz, frzQ_o, frzQ_v, ok_iteS, ok_for, ok_whil, ok_ret, ok_retN, ok_expr, ok_brk, ok_cont, ok_pass, ok_var, ok_own, ok_k, ok_glob, ok_gdk, gdkQ_s, ok_callK, kwQ_s, arF, Option.bind_some, Option.map_some, ok_dct, ok_dix, dixQ_k, tst_callK, ok_lset, lsetQ_o, p_rep, ok_prim, ok_and, ok_or, ok_not, ok_iteE, ok_chain, ok_call, ok_cidx, cidQ0, ok_comp, ok_esnil, ok_escons, ok_t0, ok_t1, ok_seq, seqQQ_l, seqQQ_t, seqQQ_s, ok_rng, ok_rng2, ok_zip, zipQ_l, zipQ_t, ok_enum, enumQ_l, p_sorted, eqD_pair, rngQ_i, ok_tand, ok_tor, ok_tnot, tst_var, tst_own, tst_k, tst_prim, tst_ite, tst_chain, tst_call, tst_cidx, ok_bind, ok_ok, ok_no, ok_guard, Res.bind_ok, eqD_int, eqD_bool, eqD_str, eqD_nil, eqD_none, konV, setAll, seqQ_nx, seqQ_rt, seqQ_bk, seqQ_ct, ok_cons, ok_nil, p_add, p_addL, p_addT, p_addS, p_sub, p_mul, p_fdiv, p_mod, p_pow, p_neg, p_eq, p_ne, p_lt, p_le, p_gt, p_ge, p_in, p_notin, p_isN, p_notN, p_isB, p_notB, p_idxL, p_idxT, p_lst0, p_lst1, p_lst2, p_lst3, p_lst4, p_lst5, p_lst6, p_lst7, p_tup0, p_tup1, p_tup2, p_tup3, p_tup4, p_tup5, p_lenL, p_lenT, p_listL, p_listT, p_tupleL, p_tupleT, p_abs, p_max2, p_min2, p_max4, p_intI, p_intB, p_isi, p_rev, p_revT, ok_popS, popQ_o, t_b, t_i, t_n, a_n, a_t, a_l, sM_t, sM_f, sA_0, sA_1, wE_0, wE_1, List.map_cons, List.map_nil, List.set_cons_zero, List.set_cons_succ, List.getElem?_cons_zero, List.getElem?_cons_succ, Nat.reduceAdd, at0, at1, at2, at3, at4, at5, at6, ix0, ix1, ix2, List.length_cons, List.length_nil, List.nil_append, decide_eq_true_eq, onFin_rt, onFin_nx, Bool.not_eq_true', decide_eq_false_iff_not, Int.reducePow, Int.reduceNeg, Int.reduceLT, Int.reduceLE, Nat.reduceLeDiff, Int.reduceToNat, Nat.reducePow, Int.reduceSub, Int.reduceAdd, Int.reduceMul, true_and, and_true, true_or, or_true, decide_true, and_self, if_true, if_false, Bool.false_eq_true, Bool.true_eq_false, reduceCtorEq, not_false_eq_true, not_true_eq_false, reduceIte, p_dictT, dixQ_t, p_sortT, p_ninT, p_dictP, p_tupP, p_dn, p_getT, ok_dput, dputQ_o, ok_dsd, dsdQ_o, frzQ_t, frzQ_k, sM_d, sM_k, ok_dcomp, ditQ_d, ok_disp, dspQ_d, ok_kput, kputQ_o, p_dictK, p_ninK, p_getK, ok_parT]
    simp only [ok_asg, ok_par, ok_ownS, ok_newc, newQ_l, ok_cset, csetQ0, ok_app, appQ_o, ok_ins, insQ_o, ok_frz, frzQ_o, frzQ_v, ok_iteS, ok_for, ok_whil, ok_ret, ok_retN, ok_expr, ok_brk, ok_cont, ok_pass, ok_var, ok_own, ok_k, ok_glob, ok_gdk, gdkQ_s, ok_callK, kwQ_s, arF, Option.bind_some, Option.map_some, ok_dct, ok_dix, dixQ_k, tst_callK, ok_lset, lsetQ_o, p_rep, ok_prim, ok_and, ok_or, ok_not, ok_iteE, ok_chain, ok_call, ok_cidx, cidQ0, ok_comp, ok_esnil, ok_escons, ok_t0, ok_t1, ok_seq, seqQQ_l, seqQQ_t, seqQQ_s, ok_rng, ok_rng2, ok_zip, zipQ_l, zipQ_t, ok_enum, enumQ_l, p_sorted, eqD_pair, rngQ_i, ok_tand, ok_tor, ok_tnot, tst_var, tst_own, tst_k, tst_prim, tst_ite, tst_chain, tst_call, tst_cidx, ok_bind, ok_ok, ok_no, ok_guard, Res.bind_ok, eqD_int, eqD_bool, eqD_str, eqD_nil, eqD_none, konV, setAll, seqQ_nx, seqQ_rt, seqQ_bk, seqQ_ct, ok_cons, ok_nil, p_add, p_addL, p_addT, p_addS, p_sub, p_mul, p_fdiv, p_mod, p_pow, p_neg, p_eq, p_ne, p_lt, p_le, p_gt, p_ge, p_in, p_notin, p_isN, p_notN, p_isB, p_notB, p_idxL, p_idxT, p_lst0, p_lst1, p_lst2, p_lst3, p_lst4, p_lst5, p_lst6, p_lst7, p_tup0, p_tup1, p_tup2, p_tup3, p_tup4, p_tup5, p_lenL, p_lenT, p_listL, p_listT, p_tupleL, p_tupleT, p_abs, p_max2, p_min2, p_max4, p_intI, p_intB, p_isi, p_rev, p_revT, ok_popS, popQ_o, t_b, t_i, t_n, a_n, a_t, a_l, sM_t, sM_f, sA_0, sA_1, wE_0, wE_1, List.map_cons, List.map_nil, List.set_cons_zero, List.set_cons_succ, List.getElem?_cons_zero, List.getElem?_cons_succ, Nat.reduceAdd, at0, at1, at2, at3, at4, at5, at6, ix0, ix1, ix2, List.length_cons, List.length_nil, List.nil_append, decide_eq_true_eq, onFin_rt, onFin_nx, Bool.not_eq_true', decide_eq_false_iff_not, Int.reducePow, Int.reduceNeg, Int.reduceLT, Int.reduceLE, Nat.reduceLeDiff, Int.reduceToNat, Nat.reducePow, Int.reduceSub, Int.reduceAdd, Int.reduceMul, true_and, and_true, true_or, or_true, decide_true, and_self, if_true, if_false, Bool.false_eq_true, Bool.true_eq_false, reduceCtorEq, not_false_eq_true, not_true_eq_false, reduceIte, p_dictT, dixQ_t, p_sortT, p_ninT, p_dictP, p_tupP, p_dn, p_getT, ok_dput, dputQ_o, ok_dsd, dsdQ_o, frzQ_t, frzQ_k, sM_d, sM_k, ok_dcomp, ditQ_d, ok_disp, dspQ_d, ok_kput, kputQ_o, p_dictK, p_ninK, p_getK, ok_parT, s_law_2]

end K15
namespace K15
open PySem R L2
theorem whole_mk {K : PySem.W.Frag} {w : World} {h : Heap} {mg : Str → Option Value} (X : K.In h) (G : h.Ns mainGlobals mg) {kV0 : Value} {q0 : Addr} {od0 : Option Addr} {an0 : Option Addr} {sl0 : Array (Option Value)} {oc0 : Value} {dc0 : Value} {pm0 : Value} {cd0 : Value} {ct0 : Value} {kV1 : Value} {q1 : Addr} {od1 : Option Addr} {an1 : Option Addr} {sl1 : Array (Option Value)} {oc1 : Value} {dc1 : Value} {pm1 : Value} {cd1 : Value} {ct1 : Value} {kV2 : Value} {q2 : Addr} {od2 : Option Addr} {an2 : Option Addr} {sl2 : Array (Option Value)} {oc2 : Value} {dc2 : Value} {pm2 : Value} {cd2 : Value} {ct2 : Value} {kV3 : Value} {q3 : Addr} {od3 : Option Addr} {an3 : Option Addr} {sl3 : Array (Option Value)} {oc3 : Value} {dc3 : Value} {pm3 : Value} {cd3 : Value} {ct3 : Value} {kV4 : Value} {q4 : Addr} {od4 : Option Addr} {an4 : Option Addr} {sl4 : Array (Option Value)} {oc4 : Value} {dc4 : Value} {pm4 : Value} {cd4 : Value} {ct4 : Value} {kV5 : Value} {q5 : Addr} {od5 : Option Addr} {an5 : Option Addr} {sl5 : Array (Option Value)} {oc5 : Value} {dc5 : Value} {pm5 : Value} {cd5 : Value} {ct5 : Value} {kV6 : Value} {q6 : Addr} {od6 : Option Addr} {an6 : Option Addr} {sl6 : Array (Option Value)} {oc6 : Value} {dc6 : Value} {pm6 : Value} {cd6 : Value} {ct6 : Value} {kV7 : Value} {q7 : Addr} {od7 : Option Addr} {an7 : Option Addr} {sl7 : Array (Option Value)} {oc7 : Value} {dc7 : Value} {pm7 : Value} {cd7 : Value} {ct7 : Value}
    (a0 : PySem.W.nsIn K mainGlobals "table_of" = some (some (.ref q0)))
    (l0 : K.lookup q0 = some ⟨oc0, od0, .func (PySem.W.fnOf "table_of" "table_of" (defArgs (top 1)) (defBody (top 1)) (defScope (top 1)) .none kV0 dc0 pm0 an0 cd0 ct0), sl0⟩)
    (c0 : PySem.W.codeIn K cd0 "table_of" = true)
    (k0 : PySem.W.keepIn K (.ref q0) = true)
    (a1 : PySem.W.nsIn K mainGlobals "way" = some (some (.ref q1)))
    (l1 : K.lookup q1 = some ⟨oc1, od1, .func (PySem.W.fnOf "way" "way" (defArgs (top 2)) (defBody (top 2)) (defScope (top 2)) .none kV1 dc1 pm1 an1 cd1 ct1), sl1⟩)
    (c1 : PySem.W.codeIn K cd1 "way" = true)
    (k1 : PySem.W.keepIn K (.ref q1) = true)
    (a2 : PySem.W.nsIn K mainGlobals "reached" = some (some (.ref q2)))
    (l2 : K.lookup q2 = some ⟨oc2, od2, .func (PySem.W.fnOf "reached" "reached" (defArgs (top 3)) (defBody (top 3)) (defScope (top 3)) .none kV2 dc2 pm2 an2 cd2 ct2), sl2⟩)
    (c2 : PySem.W.codeIn K cd2 "reached" = true)
    (k2 : PySem.W.keepIn K (.ref q2) = true)
    (a3 : PySem.W.nsIn K mainGlobals "_law_draw" = some (some (.ref q3)))
    (l3 : K.lookup q3 = some ⟨oc3, od3, .func (PySem.W.fnOf "_law_draw" "_law_draw" (defArgs (top 5)) (defBody (top 5)) (defScope (top 5)) .none kV3 dc3 pm3 an3 cd3 ct3), sl3⟩)
    (c3 : PySem.W.codeIn K cd3 "_law_draw" = true)
    (k3 : PySem.W.keepIn K (.ref q3) = true)
    (a4 : PySem.W.nsIn K mainGlobals "_law_any_order" = some (some (.ref q4)))
    (l4 : K.lookup q4 = some ⟨oc4, od4, .func (PySem.W.fnOf "_law_any_order" "_law_any_order" (defArgs (top 6)) (defBody (top 6)) (defScope (top 6)) .none kV4 dc4 pm4 an4 cd4 ct4), sl4⟩)
    (c4 : PySem.W.codeIn K cd4 "_law_any_order" = true)
    (k4 : PySem.W.keepIn K (.ref q4) = true)
    (a5 : PySem.W.nsIn K mainGlobals "_law_plan" = some (some (.ref q5)))
    (l5 : K.lookup q5 = some ⟨oc5, od5, .func (PySem.W.fnOf "_law_plan" "_law_plan" (defArgs (top 7)) (defBody (top 7)) (defScope (top 7)) .none kV5 dc5 pm5 an5 cd5 ct5), sl5⟩)
    (c5 : PySem.W.codeIn K cd5 "_law_plan" = true)
    (k5 : PySem.W.keepIn K (.ref q5) = true)
    (a6 : PySem.W.nsIn K mainGlobals "_law_blocks" = some (some (.ref q6)))
    (l6 : K.lookup q6 = some ⟨oc6, od6, .func (PySem.W.fnOf "_law_blocks" "_law_blocks" (defArgs (top 8)) (defBody (top 8)) (defScope (top 8)) .none kV6 dc6 pm6 an6 cd6 ct6), sl6⟩)
    (c6 : PySem.W.codeIn K cd6 "_law_blocks" = true)
    (k6 : PySem.W.keepIn K (.ref q6) = true)
    (a7 : PySem.W.nsIn K mainGlobals "law" = some (some (.ref q7)))
    (l7 : K.lookup q7 = some ⟨oc7, od7, .func (PySem.W.fnOf "law" "law" (defArgs (top 9)) (defBody (top 9)) (defScope (top 9)) .none kV7 dc7 pm7 an7 cd7 ct7), sl7⟩)
    (c7 : PySem.W.codeIn K cd7 "law" = true)
    (k7 : PySem.W.keepIn K (.ref q7) = true)
    (z0 : PySem.W.nsIn K mainGlobals "dict" = some none)
    (z1 : PySem.W.nsIn K mainGlobals "len" = some none)
    (z2 : PySem.W.nsIn K mainGlobals "list" = some none)
    (z3 : PySem.W.nsIn K mainGlobals "min" = some none)
    (z4 : PySem.W.nsIn K mainGlobals "range" = some none)
    (z5 : PySem.W.nsIn K mainGlobals "set" = some none)
    (z6 : PySem.W.nsIn K mainGlobals "sorted" = some none)
    (z7 : PySem.W.nsIn K mainGlobals "sum" = some none)
    (z8 : PySem.W.nsIn K mainGlobals "tuple" = some none)
    (z9 : PySem.W.nsIn K mainGlobals "zip" = some none)
    : Whole K w mg fs bi gls gl ∧ ∀ fa, mg "law" = some (.ref fa) → ∃ fd : FuncData, FnAt K mg f_law fa fd ∧ ∀ (s : Shared) (u : Value), BindsTo s fd ⟨[u], []⟩ [("script", u)] := by
  refine ⟨⟨⟨fun x hx => ?_, fun i x y hi hv => ?_, fun i x kvs hi hv => ?_⟩, fun i F hi => ?_⟩, fun fa hfa => ?_⟩
  · unfold bi at hx
    simp only [List.mem_cons, List.not_mem_nil, or_false] at hx
    rcases hx with rfl | rfl | rfl | rfl | rfl | rfl | rfl | rfl | rfl | rfl
    · exact PySem.W.mg_none_of X G z0
    · exact PySem.W.mg_none_of X G z1
    · exact PySem.W.mg_none_of X G z2
    · exact PySem.W.mg_none_of X G z3
    · exact PySem.W.mg_none_of X G z4
    · exact PySem.W.mg_none_of X G z5
    · exact PySem.W.mg_none_of X G z6
    · exact PySem.W.mg_none_of X G z7
    · exact PySem.W.mg_none_of X G z8
    · exact PySem.W.mg_none_of X G z9
  · unfold gls at hi
    simp at hi
  · unfold gls at hi
    simp at hi
  · match i, hi with
    | 0, hi =>
      cases hi
      exact ⟨q0, _, fnAt_of f_table_of X G a0 l0 c0 k0, fun _ => .all fun us hl => match us, hl with | [_], _ => rfl, fun fo hfo => by cases hfo⟩
    | 1, hi =>
      cases hi
      exact ⟨q1, _, fnAt_of f_way X G a1 l1 c1 k1, fun _ => .all fun us hl => match us, hl with | [_, _, _], _ => rfl, fun fo hfo => by cases hfo⟩
    | 2, hi =>
      cases hi
      exact ⟨q2, _, fnAt_of f_reached X G a2 l2 c2 k2, fun _ => .all fun us hl => match us, hl with | [_, _], _ => rfl, fun fo hfo => by cases hfo⟩
    | 3, hi =>
      cases hi
      exact ⟨q3, _, fnAt_of f__law_draw X G a3 l3 c3 k3, fun _ => .all fun us hl => match us, hl with | [_, _], _ => rfl, fun fo hfo => by cases hfo⟩
    | 4, hi =>
      cases hi
      exact ⟨q4, _, fnAt_of f__law_any_order X G a4 l4 c4 k4, fun _ => .all fun us hl => match us, hl with | [_, _], _ => rfl, fun fo hfo => by cases hfo⟩
    | 5, hi =>
      cases hi
      exact ⟨q5, _, fnAt_of f__law_plan X G a5 l5 c5 k5, fun _ => .all fun us hl => match us, hl with | [_, _], _ => rfl, fun fo hfo => by cases hfo⟩
    | 6, hi =>
      cases hi
      exact ⟨q6, _, fnAt_of f__law_blocks X G a6 l6 c6 k6, fun _ => .all fun us hl => match us, hl with | [_], _ => rfl, fun fo hfo => by cases hfo⟩
    | 7, hi =>
      cases hi
      exact ⟨q7, _, fnAt_of f_law X G a7 l7 c7 k7, fun _ => .all fun us hl => match us, hl with | [_], _ => rfl, fun fo hfo => by cases hfo⟩
    | _ + 8, hi => cases hi
  · have e := hfa.symm.trans (PySem.W.mg_of X G a7)
    cases e
    exact ⟨_, fnAt_of f_law X G a7 l7 c7 k7, fun s u => .of_eq rfl⟩
theorem kws_lt : ∀ fo ∈ gl.kw, fo.f < fs.length := by decide
end K15
open PySem PySem.W PyProof.Rows in
set_option maxRecDepth 100000 in
set_option maxHeartbeats 0 in
theorem PySem.Challenge.cw_tablerail_k15_whole_more_points_no_longe_holds : PySem.Challenge.rw_tablerail_k15_whole_more_points_no_longe.Holds := by
  w_on; o_law; k_head; (case hw => w_witness2)
  k_fill
  refine R.law_walk (l := PySem.Challenge.rw_tablerail_k15_whole_more_points_no_longe) (W := 2000) (n := 4) (fs := K15.fs) (bi := K15.bi) (gls := K15.gls) (gl := K15.gl) (i := K15.i_law) (FL := K15.f_law) (x := "script") rfl rfl ⟨rfl, by decide, by decide⟩ (fun w h Y => PySem.W.kIn_of Y) rfl rfl rfl rfl K15.kws_lt K15.fs_ok ?F K15.plain
  case F =>
    intro w mg h KX G
    refine' K15.whole_mk KX G ?a0 ?l0 ?c0 ?k0 ?a1 ?l1 ?c1 ?k1 ?a2 ?l2 ?c2 ?k2 ?a3 ?l3 ?c3 ?k3 ?a4 ?l4 ?c4 ?k4 ?a5 ?l5 ?c5 ?k5 ?a6 ?l6 ?c6 ?k6 ?a7 ?l7 ?c7 ?k7 ?z0 ?z1 ?z2 ?z3 ?z4 ?z5 ?z6 ?z7 ?z8 ?z9
    (case a0 => k_is)
    (case l0 => k_is)
    (case c0 => k_is)
    (case k0 => k_is)
    (case a1 => k_is)
    (case l1 => k_is)
    (case c1 => k_is)
    (case k1 => k_is)
    (case a2 => k_is)
    (case l2 => k_is)
    (case c2 => k_is)
    (case k2 => k_is)
    (case a3 => k_is)
    (case l3 => k_is)
    (case c3 => k_is)
    (case k3 => k_is)
    (case a4 => k_is)
    (case l4 => k_is)
    (case c4 => k_is)
    (case k4 => k_is)
    (case a5 => k_is)
    (case l5 => k_is)
    (case c5 => k_is)
    (case k5 => k_is)
    (case a6 => k_is)
    (case l6 => k_is)
    (case c6 => k_is)
    (case k6 => k_is)
    (case a7 => k_is)
    (case l7 => k_is)
    (case c7 => k_is)
    (case k7 => k_is)
    (case z0 => k_is)
    (case z1 => k_is)
    (case z2 => k_is)
    (case z3 => k_is)
    (case z4 => k_is)
    (case z5 => k_is)
    (case z6 => k_is)
    (case z7 => k_is)
    (case z8 => k_is)
    (case z9 => k_is)
