import PyProof.Rows.All
import PyProof.P3Statements
import Wide.All
import OpenK.AllK
import Wide.FinOn
import HandS.ForMost
import HandS.Style
import HandS.TupAny
import HandS.TupMul
import HandS.Deep
import HandS.Conv
import HandS.Walk
import HandS.IsInst
import KE.DataMinMax
import KE.KDictDisplayH
import HandS.Zip
import KE.GoesEnum
import PySem.Challenge.RW_indentsteps_k17_whole_mirrored_and_repea
set_option Elab.async false
set_option linter.all false
set_option maxRecDepth 100000
namespace Z
open PySem
abbrev D := PyData
abbrev SZ : Nat := 16777216

inductive Sl where
  | any | sh (d : D) | ow (d : D)
abbrev En := List Sl
def SlLe : Sl → Sl → Prop
  | _, .any => True
  | .sh a, .sh b => a = b
  | .ow a, .ow b => a = b
  | .ow a, .sh b => a = b
  | _, _ => False
def EnLe : En → En → Prop
  | [], [] => True
  | s :: e, t :: f => SlLe s t ∧ EnLe e f
  | _, _ => False
def gS : En → Nat → (D → Prop) → Prop
  | s :: _, 0, Q => match s with | .sh d => Q d | _ => False
  | _ :: e, n + 1, Q => gS e n Q
  | [], _, _ => False
def gO : En → Nat → (D → Prop) → Prop
  | s :: _, 0, Q => match s with | .ow d => Q d | _ => False
  | _ :: e, n + 1, Q => gO e n Q
  | [], _, _ => False
def clr (e : En) : List Nat → En
  | [] => e
  | i :: is => (clr e is).set i .any

inductive BOp where | add | sub | mul | fdiv | mod | pow
inductive COp where | eq | ne | lt | le | gt | ge | is | isn | inn | nin
inductive Bl where | len | max | min | sum | all | list | tuple | int | bool
inductive Ty where | int | bool | str | list | tuple
inductive Mt where | index | get

def isTy : Ty → D → Bool
  | .int, .int _ => true
  | .int, .bool _ => true
  | .bool, .bool _ => true
  | .str, .str _ => true
  | .list, .list _ => true
  | .tuple, .tuple _ => true
  | _, _ => false
def Shp (d : D) : Prop := d.canLay0 = true ∧ d.depth ≤ 64
/-- keys: tuples of ints and texts -/
def keyAtom : D → Bool
  | .int _ => true
  | .str _ => true
  | _ => false
def isKey : D → Bool
  | .tuple xs => xs.all keyAtom
  | _ => false
def dGet (kvs : List (D × D)) (k : D) : Option D := (kvs.find? fun p => PyData.eqv p.1 k).map (·.2)
def dHas (kvs : List (D × D)) (k : D) : Bool := kvs.any fun p => PyData.eqv p.1 k
def dPut (kvs : List (D × D)) (k v : D) : List (D × D) :=
  if dHas kvs k = true then kvs.map (fun p => if PyData.eqv p.1 k = true then (p.1, v) else p) else kvs ++ [(k, v)]
def sIx (n d : Nat) : Option Int → Nat
  | none => d
  | some v => if v < 0 then (v + (n : Int)).toNat else min v.toNat n
def cut {α : Type} (xs : List α) (lo hi : Option Int) : List α := (xs.drop (sIx xs.length 0 lo)).take (sIx xs.length xs.length hi - sIx xs.length 0 lo)
def ixN (n : Nat) (i : Int) : Option Nat := if 0 ≤ i then (if i < n then some i.toNat else none) else if -(n : Int) ≤ i then some (i + n).toNat else none
def atI {α : Type} (xs : List α) (i : Int) : Option α := (ixN xs.length i).bind fun j => xs[j]?
def maxL : List Int → Int
  | [] => 0
  | x :: xs => xs.foldl max x
def minL : List Int → Int
  | [] => 0
  | x :: xs => xs.foldl min x
def idxOf (ns : List Int) (i : Int) : Nat := ns.findIdx (· == i)

def bopW : BOp → D → D → (D → Prop) → Prop
  | .add, .int i, .int j, Q => Q (.int (i + j))
  | .add, .tuple xs, .tuple ys, Q => xs.length + ys.length ≤ SZ ∧ Q (.tuple (xs ++ ys))
  | .add, .list xs, .list ys, Q => xs.length + ys.length ≤ SZ ∧ Q (.list (xs ++ ys))
  | .sub, .int i, .int j, Q => Q (.int (i - j))
  | .mul, .int i, .int j, Q => ((-(2 ^ 64) < i ∧ i < 2 ^ 64) ∨ (-(2 ^ 64) < j ∧ j < 2 ^ 64)) ∧ Q (.int (i * j))
  | .mul, .tuple xs, .int n, Q => (-1000 ≤ n ∧ n ≤ 1000 ∧ xs.length ≤ 1000) ∧ Q (.tuple (List.replicate n.toNat xs).flatten)
  | .mul, .list xs, .int n, Q => (-1000 ≤ n ∧ n ≤ 1000 ∧ xs.length ≤ 1000) ∧ Q (.list (List.replicate n.toNat xs).flatten)
  | .fdiv, .int i, .int j, Q => (0 < j ∧ j < 1073741824) ∧ Q (.int (i / j))
  | .mod, .int i, .int j, Q => 0 < j ∧ Q (.int (i % j))
  | .pow, .int i, .int j, Q => (0 ≤ j ∧ j ≤ 1000 ∧ i.natAbs < 2 ^ 64) ∧ Q (.int (i ^ j.toNat))
  | _, _, _, _ => False
def isNone : D → Bool
  | .none => true
  | _ => false
def isW : D → D → (Bool → Prop) → Prop
  | a, .none, Q => Q (isNone a)
  | .bool a, .bool b, Q => Q (a == b)
  | _, _, _ => False
def inW : D → D → (Bool → Prop) → Prop
  | k, .dict kvs, Q => isKey k = true ∧ Q (dHas kvs k)
  | a, .tuple xs, Q => (Shp a ∧ Shp (.tuple xs)) ∧ Q (xs.any fun x => PyData.eqv x a)
  | a, .list xs, Q => (Shp a ∧ Shp (.list xs)) ∧ Q (xs.any fun x => PyData.eqv x a)
  | _, _, _ => False
def eqW : D → D → (Bool → Prop) → Prop
  | .dict kvs, .dict [], Q => Q kvs.isEmpty
  | a, b, Q => (Shp a ∧ Shp b) ∧ Q (PyData.eqv a b)
def copW : COp → D → D → (Bool → Prop) → Prop
  | .eq, a, b, Q => eqW a b Q
  | .ne, a, b, Q => eqW a b fun c => Q (!c)
  | .lt, .int i, .int j, Q => Q (decide (i < j))
  | .le, .int i, .int j, Q => Q (decide (i ≤ j))
  | .gt, .int i, .int j, Q => Q (decide (j < i))
  | .ge, .int i, .int j, Q => Q (decide (j ≤ i))
  | .is, a, b, Q => isW a b Q
  | .isn, a, b, Q => isW a b fun c => Q (!c)
  | .inn, a, b, Q => inW a b Q
  | .nin, a, b, Q => inW a b fun c => Q (!c)
  | _, _, _, _ => False
def idxW : D → D → (D → Prop) → Prop
  | .list xs, .int i, Q => ∃ d, atI xs i = some d ∧ Q d
  | .tuple xs, .int i, Q => ∃ d, atI xs i = some d ∧ Q d
  | .dict kvs, k, Q => isKey k = true ∧ ∃ d, dGet kvs k = some d ∧ Q d
  | _, _, _ => False
def slcW : D → Option Int → Option Int → (D → Prop) → Prop
  | .list xs, lo, hi, Q => Q (.list (cut xs lo hi))
  | .tuple xs, lo, hi, Q => Q (.tuple (cut xs lo hi))
  | _, _, _, _ => False
def revW : D → (D → Prop) → Prop
  | .list xs, Q => Q (.list xs.reverse)
  | .tuple xs, Q => Q (.tuple xs.reverse)
  | _, _ => False
def intsW (ds : List D) (Q : List Int → Prop) : Prop := ∃ ns : List Int, ds = ns.map PyData.int ∧ Q ns
def bltW : Bl → List D → (D → Prop) → Prop
  | .len, [.list xs], Q => Q (.int xs.length)
  | .len, [.tuple xs], Q => Q (.int xs.length)
  | .max, [.int i, .int j], Q => Q (.int (max i j))
  | .max, [.list ds], Q => intsW ds fun ns => ns ≠ [] ∧ Q (.int (maxL ns))
  | .max, [.tuple ds], Q => intsW ds fun ns => ns ≠ [] ∧ Q (.int (maxL ns))
  | .min, [.int i, .int j], Q => Q (.int (min i j))
  | .min, [.list ds], Q => intsW ds fun ns => ns ≠ [] ∧ Q (.int (minL ns))
  | .sum, [.list ds], Q => intsW ds fun ns => Q (.int ns.sum)
  | .all, [.list ds], Q => ∃ bs : List Bool, ds = bs.map PyData.bool ∧ Q (.bool (bs.all id))
  | .list, [.list xs], Q => Q (.list xs)
  | .list, [.tuple xs], Q => Q (.list xs)
  | .tuple, [.list xs], Q => Q (.tuple xs)
  | .tuple, [.tuple xs], Q => Q (.tuple xs)
  | .int, [.int i], Q => Q (.int i)
  | .int, [.bool b], Q => Q (.int (if b then 1 else 0))
  | .bool, [.int i], Q => Q (.bool (i != 0))
  | .bool, [.bool b], Q => Q (.bool b)
  | _, _, _ => False
def mtW : Mt → D → List D → (D → Prop) → Prop
  | .index, .list ds, [.int i], Q => intsW ds fun ns => i ∈ ns ∧ Q (.int (idxOf ns i))
  | .get, .dict kvs, [k, x], Q => isKey k = true ∧ Q ((dGet kvs k).getD x)
  | _, _, _, _ => False

mutual
inductive Tg where
  | nm (i : Nat)
  | tp (l : Tgs)
inductive Tgs where
  | nil
  | cons (t : Tg) (l : Tgs)
end
mutual
def bindT : Tg → D → En → (En → Prop) → Prop
  | .nm i, d, e, Q => Q (e.set i (.sh d))
  | .tp l, .tuple ds, e, Q => bindTs l ds e Q
  | .tp _, _, _, _ => False
def bindTs : Tgs → List D → En → (En → Prop) → Prop
  | .nil, [], e, Q => Q e
  | .cons t l, d :: ds, e, Q => bindT t d e fun e1 => bindTs l ds e1 Q
  | _, _, _, _ => False
end
mutual
inductive Ex where
  | var (i : Nat) | bor (i : Nat)
  | none | bool (b : Bool) | int (i : Int) | str (s : Str)
  | neg (a : Ex)
  | bin (op : BOp) (a b : Ex)
  | cmp (op : COp) (a b : Ex)
  | chain (o1 o2 : COp) (a b c : Ex)
  | and (a b : Ex) | or (a b : Ex) | not (a : Ex) | ite (c a b : Ex)
  | idx (a b : Ex)
  | slcL (a lo : Ex) | slcH (a hi : Ex) | slcLH (a lo hi : Ex) | rev (a : Ex)
  | tup (es : Exs) | lst (es : Exs) | dic0 | dic1 (k v : Ex)
  | call (f : String) (es : Exs)
  | blt (b : Bl) (es : Exs)
  | lrng1 (a : Ex) | lrng2 (a b : Ex)
  | isi (a : Ex) (ts : List Ty)
  | mt (m : Mt) (a : Ex) (es : Exs)
  | lc (own : List Nat) (tg : Tg) (src : Src) (elt : Ex)
  | lcIf (own : List Nat) (tg : Tg) (src : Src) (cnd elt : Ex)
inductive Exs where
  | nil | cons (e : Ex) (es : Exs)
inductive Src where
  | val (a : Ex) | rng1 (a : Ex) | rng2 (a b : Ex) | zip2 (a b : Ex) | zip4 (a b c d : Ex) | enm (a : Ex) | enmZ (a b : Ex) | dkeys (i : Nat) | ditems (i : Nat)
end
def Exs.len : Exs → Nat
  | .nil => 0
  | .cons _ es => es.len + 1
def seqOf : D → (List D → Prop) → Prop
  | .list xs, Q => Q xs
  | .tuple xs, Q => Q xs
  | _, _ => False
def rngD (lo : Int) (n : Nat) : List D := (List.range n).map fun k => .int (lo + (k : Nat))
def zipD2 (xs ys : List D) : List D := (xs.zip ys).map fun p => .tuple [p.1, p.2]
def zipD4 (xs ys zs ws : List D) : List D := (xs.zip (ys.zip (zs.zip ws))).map fun p => .tuple [p.1, p.2.1, p.2.2.1, p.2.2.2]
def enumD (ds : List D) : List D := ds.zipIdx.map fun p => .tuple [.int (p.2 : Nat), p.1]
def dictOf : D → (List (D × D) → Prop) → Prop
  | .dict kvs, Q => Q kvs
  | _, _ => False
def isiW : D → (D → Prop) → Prop
  | .dict _, _ => False
  | d, Q => Q d
def recvB : Mt → D → Bool
  | .index, .list _ => true
  | .get, .dict _ => true
  | _, _ => false
def intOf : D → (Int → Prop) → Prop
  | .int i, Q => Q i
  | _, _ => False
def boolOf : D → (Bool → Prop) → Prop
  | .bool i, Q => Q i
  | _, _ => False
def small62 (i : Int) : Prop := -(2 ^ 62) ≤ i ∧ i < 2 ^ 62

abbrev FT := String → List D → (D → Prop) → Prop
mutual
def wpE (F : FT) : Ex → En → (D → Prop) → Prop
  | .var i, e, Q => gS e i Q
  | .bor i, e, Q => gO e i Q
  | .none, _, Q => Q .none
  | .bool b, _, Q => Q (.bool b)
  | .int i, _, Q => Q (.int i)
  | .str s, _, Q => Q (.str s)
  | .neg a, e, Q => wpE F a e fun d => intOf d fun i => Q (.int (-i))
  | .bin op a b, e, Q => wpE F a e fun x => wpE F b e fun y => bopW op x y Q
  | .cmp op a b, e, Q => wpE F a e fun x => wpE F b e fun y => copW op x y fun c => Q (.bool c)
  | .chain o1 o2 a b c, e, Q => wpE F a e fun x => wpE F b e fun y => copW o1 x y fun k => if k = true then wpE F c e fun z => copW o2 y z fun c => Q (.bool c) else Q (.bool false)
  | .and a b, e, Q => wpE F a e fun x => boolOf x fun k => if k = true then wpE F b e fun y => boolOf y fun k => Q (.bool k) else Q (.bool false)
  | .or a b, e, Q => wpE F a e fun x => boolOf x fun k => if k = true then Q (.bool true) else wpE F b e fun y => boolOf y fun k => Q (.bool k)
  | .not a, e, Q => wpE F a e fun x => boolOf x fun k => Q (.bool (!k))
  | .ite c a b, e, Q => wpE F c e fun x => boolOf x fun k => if k = true then wpE F a e Q else wpE F b e Q
  | .idx a b, e, Q => wpE F a e fun x => wpE F b e fun y => idxW x y Q
  | .slcL a lo, e, Q => wpE F a e fun x => wpE F lo e fun y => intOf y fun i => slcW x (some i) .none Q
  | .slcH a hi, e, Q => wpE F a e fun x => wpE F hi e fun y => intOf y fun i => slcW x .none (some i) Q
  | .slcLH a lo hi, e, Q => wpE F a e fun x => wpE F lo e fun y => intOf y fun i => wpE F hi e fun z => intOf z fun j => slcW x (some i) (some j) Q
  | .rev a, e, Q => wpE F a e fun x => revW x Q
  | .tup es, e, Q => wpEs F es e fun ds => Q (.tuple ds)
  | .lst es, e, Q => wpEs F es e fun ds => Q (.list ds)
  | .dic0, _, Q => Q (.dict [])
  | .dic1 k v, e, Q => wpE F k e fun x => wpE F v e fun y => isKey x = true ∧ Q (.dict [(x, y)])
  | .call f es, e, Q => wpEs F es e fun ds => F f ds Q
  | .blt b es, e, Q => wpEs F es e fun ds => bltW b ds Q
  | .lrng1 a, e, Q => wpE F a e fun x => intOf x fun i => (small62 i ∧ i.toNat ≤ SZ) ∧ Q (.list (rngD 0 i.toNat))
  | .lrng2 a b, e, Q => wpE F a e fun x => intOf x fun i => wpE F b e fun y => intOf y fun j => (small62 i ∧ small62 j ∧ (j - i).toNat ≤ SZ) ∧ Q (.list (rngD i (j - i).toNat))
  | .isi a ts, e, Q => wpE F a e fun x => isiW x fun x => Q (.bool (ts.any fun t => isTy t x))
  | .mt m a es, e, Q => wpE F a e fun x => recvB m x = true ∧ wpEs F es e fun ds => mtW m x ds Q
  | .lc own tg src elt, e, Q => wpS F src e fun ds => ∃ f : D → D, (∀ d ∈ ds, bindT tg d (clr e own) fun e1 => wpE F elt e1 fun y => y = f d) ∧ ds.length ≤ SZ ∧ Q (.list (ds.map f))
  | .lcIf own tg src cnd elt, e, Q => wpS F src e fun ds => ∃ f : D → Option D, (∀ d ∈ ds, bindT tg d (clr e own) fun e1 => wpE F cnd e1 fun c => boolOf c fun k => if k = true then wpE F elt e1 fun y => f d = some y else f d = Option.none) ∧ ds.length ≤ SZ ∧ Q (.list (ds.filterMap f))
def wpEs (F : FT) : Exs → En → (List D → Prop) → Prop
  | .nil, _, Q => Q []
  | .cons a es, e, Q => wpE F a e fun d => wpEs F es e fun ds => Q (d :: ds)
def wpS (F : FT) : Src → En → (List D → Prop) → Prop
  | .val a, e, Q => wpE F a e fun x => seqOf x Q
  | .rng1 a, e, Q => wpE F a e fun x => intOf x fun i => small62 i ∧ Q (rngD 0 i.toNat)
  | .rng2 a b, e, Q => wpE F a e fun x => wpE F b e fun y => intOf x fun i => intOf y fun j => (small62 i ∧ small62 j) ∧ Q (rngD i (j - i).toNat)
  | .zip2 a b, e, Q => wpE F a e fun x => wpE F b e fun y => seqOf x fun xs => seqOf y fun ys => Q (zipD2 xs ys)
  | .zip4 a b c d, e, Q => wpE F a e fun x => wpE F b e fun y => wpE F c e fun z => wpE F d e fun w => seqOf x fun xs => seqOf y fun ys => seqOf z fun zs => seqOf w fun ws => Q (zipD4 xs ys zs ws)
  | .enm a, e, Q => wpE F a e fun x => seqOf x fun xs => Q (enumD xs)
  | .enmZ a b, e, Q => wpE F a e fun x => wpE F b e fun y => seqOf x fun xs => seqOf y fun ys => Q (enumD (zipD2 xs ys))
  | .dkeys i, e, Q => gS e i fun x => dictOf x fun kvs => Q (kvs.map (·.1))
  | .ditems i, e, Q => gS e i fun x => dictOf x fun kvs => Q (kvs.map fun p => .tuple [p.1, p.2])
end

inductive St where
  | skip
  | seq (s t : St)
  | asg (i : Nat) (e : Ex)
  | asgO (i : Nat) (e : Ex)
  | unp (tg : Tg) (e : Ex)
  | par2 (i : Nat) (o : Bool) (a : Ex) (j : Nat) (b : Ex)
  | par3 (i : Nat) (o : Bool) (a : Ex) (j : Nat) (b : Ex) (k : Nat) (c : Ex)
  | setI (i : Nat) (k v : Ex)
  | app (i : Nat) (e : Ex)
  | aug (i : Nat) (e : Ex)
  | ite (c : Ex) (a b : St)
  | forS (tg : Tg) (src : Src) (body : St)
  | whl (c : Ex) (body : St)
  | ret (e : Ex)
  | retF (e : Ex)
  | frz (i : Nat)
structure Po where
  nx : En → Prop
  rt : D → Prop
def isLD : D → Bool
  | .list _ => true
  | .dict _ => true
  | _ => false
def mk (o : Bool) (d : D) : Sl := if o then .ow d else .sh d
def setW : D → D → D → (D → Prop) → Prop
  | .list xs, .int i, v, Q => ∃ j, ixN xs.length i = some j ∧ Q (.list (xs.set j v))
  | .dict kvs, k, v, Q => (isKey k = true ∧ kvs.length < SZ) ∧ Q (.dict (dPut kvs k v))
  | _, _, _, _ => False
def lstOf : D → (List D → Prop) → Prop
  | .list xs, Q => Q xs
  | _, _ => False
def wpB (F : FT) : St → En → Po → Prop
  | .skip, e, P => P.nx e
  | .seq s t, e, P => wpB F s e ⟨fun e1 => wpB F t e1 P, P.rt⟩
  | .asg i a, e, P => wpE F a e fun d => P.nx (e.set i (.sh d))
  | .asgO i a, e, P => wpE F a e fun d => isLD d = true ∧ P.nx (e.set i (.ow d))
  | .unp tg a, e, P => wpE F a e fun d => bindT tg d e P.nx
  | .par2 i o a j b, e, P => wpE F a e fun x => wpE F b e fun y => (o = true → isLD x = true) ∧ P.nx ((e.set i (mk o x)).set j (.sh y))
  | .par3 i o a j b k c, e, P => wpE F a e fun x => wpE F b e fun y => wpE F c e fun z => (o = true → isLD x = true) ∧ P.nx (((e.set i (mk o x)).set j (.sh y)).set k (.sh z))
  | .setI i k v, e, P => wpE F v e fun x => gO e i fun o => wpE F k e fun y => setW o y x fun o' => P.nx (e.set i (.ow o'))
  | .app i a, e, P => gO e i fun o => lstOf o fun xs => wpE F a e fun x => xs.length < SZ ∧ P.nx (e.set i (.ow (.list (xs ++ [x]))))
  | .aug i a, e, P => gS e i fun x => intOf x fun m => wpE F a e fun y => intOf y fun n => P.nx (e.set i (.sh (.int (m + n))))
  | .ite c a b, e, P => wpE F c e fun x => boolOf x fun k => if k = true then wpB F a e P else wpB F b e P
  | .forS tg src body, e, P => wpS F src e fun ds => ∃ W : Nat → En → Prop, (∃ e0, EnLe e e0 ∧ W 0 e0) ∧
      (∀ i d e1, ds[i]? = some d → W i e1 → bindT tg d e1 fun e2 => wpB F body e2 ⟨fun e3 => ∃ e4, EnLe e3 e4 ∧ W (i + 1) e4, P.rt⟩) ∧ ∀ e1, W ds.length e1 → P.nx e1
  | .whl c body, e, P => ∃ W : Nat → En → Prop, (∃ m e0, EnLe e e0 ∧ W m e0) ∧
      ∀ m e1, W m e1 → wpE F c e1 fun x => boolOf x fun k => if k = true then wpB F body e1 ⟨fun e3 => ∃ m' e4, m' < m ∧ EnLe e3 e4 ∧ W m' e4, P.rt⟩ else P.nx e1
  | .ret a, e, P => wpE F a e P.rt
  | .retF a, e, P => wpE F a e fun d => isLD d = true ∧ P.rt d
  | .frz i, e, P => gO e i fun d => P.nx (e.set i (.sh d))
structure Fn where
  name : String
  ps : List String
  ns : List String
  body : St
  fresh : Bool
def ent (n : Nat) (ds : List D) : En := ds.map .sh ++ List.replicate (n - ds.length) .any
/-- functions by levels -/
def FW (T : List Fn) : Nat → FT
  | 0 => fun _ _ _ => False
  | k + 1 => fun f ds Q => match T.find? (fun x => x.name == f) with
    | some x => ds.length = x.ps.length ∧ wpB (FW T k) x.body (ent x.ns.length ds) ⟨fun _ => Q .none, Q⟩
    | Option.none => False
end Z

namespace Z
open PySem
-- is_integer(value, low, high) slots [(0, 'value'), (1, 'low'), (2, 'high')]
def b_is_integer : St :=
    (.seq (.ret (.and (.isi (.var 0) [.int]) (.and (.not (.isi (.var 0) [.bool])) (.chain .le .le (.var 1) (.var 0) (.var 2)))))
    .skip)
def f_is_integer : Fn := ⟨"is_integer", ["value", "low", "high"], ["value", "low", "high"], b_is_integer, false⟩
-- is_text(value) slots [(0, 'value'), (1, 'one')]
def b_is_text : St :=
    (.seq (.ret (.and (.isi (.var 0) [.tuple]) (.and (.chain .le .le (.int 1) (.blt .len (.cons (.var 0) .nil)) (.int 20)) (.blt .all (.cons (.lc [1] (.nm 1) (.val (.var 0)) (.call "is_integer" (.cons (.var 1) (.cons (.int 0) (.cons (.int 20) .nil))))) .nil)))))
    .skip)
def f_is_text : Fn := ⟨"is_text", ["value"], ["value", "one"], b_is_text, false⟩
-- is_wish(value) slots [(0, 'value'), (1, 'one')]
def b_is_wish : St :=
    (.seq (.ite (.or (.not (.isi (.var 0) [.tuple])) (.not (.chain .le .le (.int 1) (.blt .len (.cons (.var 0) .nil)) (.int 20)))) (.seq (.ret (.bool false))
    .skip) .skip)
    (.seq (.ret (.blt .all (.cons (.lc [1] (.nm 1) (.val (.var 0)) (.or (.cmp .is (.var 1) .none) (.call "is_integer" (.cons (.var 1) (.cons (.int 0) (.cons (.int 20) .nil)))))) .nil)))
    .skip))
def f_is_wish : Fn := ⟨"is_wish", ["value"], ["value", "one"], b_is_wish, false⟩
-- is_command(length, value) slots [(0, 'length'), (1, 'value')]
def b_is_command : St :=
    (.seq (.ite (.or (.not (.isi (.var 1) [.tuple])) (.or (.cmp .ne (.blt .len (.cons (.var 1) .nil)) (.int 3)) (.not (.isi (.idx (.var 1) (.int 0)) [.str])))) (.seq (.ret (.bool false))
    .skip) .skip)
    (.seq (.ite (.or (.cmp .nin (.idx (.var 1) (.int 0)) (.tup (.cons (.str "in") (.cons (.str "out") .nil)))) (.not (.call "is_integer" (.cons (.idx (.var 1) (.int 1)) (.cons (.int 0) (.cons (.bin .sub (.var 0) (.int 1)) .nil)))))) (.seq (.ret (.bool false))
    .skip) .skip)
    (.seq (.ret (.call "is_integer" (.cons (.idx (.var 1) (.int 2)) (.cons (.bin .add (.idx (.var 1) (.int 1)) (.int 1)) (.cons (.var 0) .nil)))))
    .skip)))
def f_is_command : Fn := ⟨"is_command", ["length", "value"], ["length", "value"], b_is_command, false⟩
-- is_script(length, value) slots [(0, 'length'), (1, 'value'), (2, 'one')]
def b_is_script : St :=
    (.seq (.ret (.and (.isi (.var 1) [.tuple]) (.and (.cmp .le (.blt .len (.cons (.var 1) .nil)) (.int 60)) (.blt .all (.cons (.lc [2] (.nm 2) (.val (.var 1)) (.call "is_command" (.cons (.var 0) (.cons (.var 2) .nil)))) .nil)))))
    .skip)
def f_is_script : Fn := ⟨"is_script", ["length", "value"], ["length", "value", "one"], b_is_script, false⟩
-- _law_cell(script, index) slots [(0, 'script'), (1, 'index')]
def b_law_cell : St :=
    (.seq (.ite (.cmp .lt (.var 1) (.blt .len (.cons (.var 0) .nil))) (.seq (.ret (.idx (.var 0) (.var 1)))
    .skip) .skip)
    (.seq (.ite (.cmp .eq (.blt .len (.cons (.var 0) .nil)) (.int 0)) (.seq (.ret (.bin .add (.bin .mul (.int 7919) (.var 1)) (.int 101)))
    .skip) .skip)
    (.seq (.ret (.bin .add (.bin .mod (.idx (.var 0) (.bin .mod (.var 1) (.blt .len (.cons (.var 0) .nil)))) (.int 1000003)) (.bin .mul (.int 7919) (.var 1))))
    .skip)))
def f_law_cell : Fn := ⟨"_law_cell", ["script", "index"], ["script", "index"], b_law_cell, false⟩
-- _law_digits(script, index, count, base) slots [(0, 'script'), (1, 'index'), (2, 'count'), (3, 'base'), (4, 'primes'), (5, 'cell'), (6, 'rest'), (7, 'digits'), (8, 'k'), (9, 'mixed')]
def b_law_digits : St :=
    (.seq (.asg 4 (.tup (.cons (.int 2147483647) (.cons (.int 2147483629) (.cons (.int 2147483587) (.cons (.int 2147483579) (.cons (.int 2147483563) (.cons (.int 2147483549) (.cons (.int 2147483543) (.cons (.int 2147483497) .nil))))))))))
    (.seq (.asg 5 (.call "_law_cell" (.cons (.var 0) (.cons (.var 1) .nil))))
    (.seq (.asg 6 (.ite (.cmp .ge (.var 5) (.bin .pow (.int 10) (.int 18))) (.var 5) (.int 0)))
    (.seq (.asgO 7 (.lst .nil))
    (.seq (.forS (.nm 8) (.rng1 (.var 2)) (.seq (.asg 9 (.bin .mul (.bin .mod (.var 5) (.idx (.var 4) (.bin .mod (.var 8) (.int 8)))) (.bin .add (.int 48271) (.bin .mul (.bin .mul (.int 2) (.var 8)) (.var 8)))))
    (.seq (.asg 9 (.bin .add (.bin .add (.var 9) (.bin .mul (.bin .mul (.int 7919) (.bin .add (.var 8) (.int 1))) (.bin .add (.var 8) (.int 1)))) (.bin .mul (.int 104729) (.var 1))))
    (.seq (.asg 9 (.bin .mod (.var 9) (.idx (.var 4) (.bin .mod (.bin .add (.bin .mul (.int 3) (.var 8)) (.var 1)) (.int 8)))))
    (.seq (.asg 9 (.bin .mod (.bin .mul (.bin .mul (.var 9) (.var 9)) (.var 9)) (.idx (.var 4) (.bin .mod (.bin .add (.var 8) (.int 5)) (.int 8)))))
    (.seq (.ite (.cmp .gt (.var 6) (.int 0)) (.seq (.asg 9 (.var 6))
    .skip) .skip)
    (.seq (.app 7 (.bin .mod (.var 9) (.var 3)))
    (.seq (.asg 6 (.bin .fdiv (.var 6) (.var 3)))
    .skip))))))))
    (.seq (.frz 7)
    (.seq (.ret (.var 7))
    .skip)))))))
def f_law_digits : Fn := ⟨"_law_digits", ["script", "index", "count", "base"], ["script", "index", "count", "base", "primes", "cell", "rest", "digits", "k", "mixed"], b_law_digits, false⟩
-- _law_is_integer(value, low, high) slots [(0, 'value'), (1, 'low'), (2, 'high')]
def b_law_is_integer : St :=
    (.seq (.ret (.and (.isi (.var 0) [.int]) (.and (.not (.isi (.var 0) [.bool])) (.chain .le .le (.var 1) (.var 0) (.var 2)))))
    .skip)
def f_law_is_integer : Fn := ⟨"_law_is_integer", ["value", "low", "high"], ["value", "low", "high"], b_law_is_integer, false⟩
-- _law_same_bool(result, expected) slots [(0, 'result'), (1, 'expected')]
def b_law_same_bool : St :=
    (.seq (.ret (.and (.isi (.var 0) [.bool]) (.cmp .eq (.var 0) (.var 1))))
    .skip)
def f_law_same_bool : Fn := ⟨"_law_same_bool", ["result", "expected"], ["result", "expected"], b_law_same_bool, false⟩
-- _law_paths(value) slots [(0, 'value'), (1, 'paths'), (2, 'index'), (3, 'part'), (4, 'path')]
def b_law_paths : St :=
    (.seq (.asg 1 (.lst (.cons (.tup .nil) .nil)))
    (.seq (.ite (.isi (.var 0) [.list, .tuple]) (.seq (.forS (.tp (.cons (.nm 2) (.cons (.nm 3) .nil))) (.enm (.var 0)) (.seq (.asg 1 (.bin .add (.var 1) (.lc [4] (.nm 4) (.val (.call "_law_paths" (.cons (.var 3) .nil))) (.bin .add (.tup (.cons (.var 2) .nil)) (.var 4)))))
    .skip))
    .skip) .skip)
    (.seq (.ret (.var 1))
    .skip)))
def f_law_paths : Fn := ⟨"_law_paths", ["value"], ["value", "paths", "index", "part", "path"], b_law_paths, false⟩
-- _law_other_value(value, digits) slots [(0, 'value'), (1, 'digits'), (2, 'options')]
def b_law_other_value : St :=
    (.seq (.asg 2 (.lst (.cons .none (.cons (.bool true) (.cons (.bool false) (.cons (.int 7) (.cons (.bin .sub (.int 0) (.int 1)) (.cons (.bin .pow (.int 10) (.int 39)) (.cons (.str "0") (.cons (.str "") (.cons (.tup .nil) (.cons (.lst .nil) (.cons (.tup (.cons (.var 0) .nil)) (.cons (.lst (.cons (.var 0) .nil)) (.cons (.tup (.cons (.int 0) .nil)) (.cons (.tup (.cons (.int 1) (.cons (.int 0) .nil))) (.cons (.int 1) (.cons (.int 0) .nil))))))))))))))))))
    (.seq (.ite (.and (.isi (.var 0) [.int]) (.not (.isi (.var 0) [.bool]))) (.seq (.asg 2 (.bin .add (.lst (.cons (.bin .add (.var 0) (.int 1)) (.cons (.bin .sub (.var 0) (.int 1)) (.cons (.blt .bool (.cons (.var 0) .nil)) (.cons (.bin .add (.var 0) (.int 1)) (.cons (.bin .sub (.var 0) (.int 1)) (.cons (.blt .bool (.cons (.var 0) .nil)) .nil))))))) (.var 2)))
    .skip) .skip)
    (.seq (.ite (.isi (.var 0) [.list, .tuple]) (.seq (.asg 2 (.bin .add (.lst (.cons (.blt .list (.cons (.var 0) .nil)) (.cons (.blt .tuple (.cons (.var 0) .nil)) (.cons (.blt .tuple (.cons (.rev (.var 0)) .nil)) (.cons (.blt .list (.cons (.var 0) .nil)) .nil))))) (.var 2)))
    .skip) .skip)
    (.seq (.ret (.idx (.var 2) (.bin .mod (.idx (.var 1) (.int 1)) (.blt .len (.cons (.var 2) .nil)))))
    .skip))))
def f_law_other_value : Fn := ⟨"_law_other_value", ["value", "digits"], ["value", "digits", "options"], b_law_other_value, false⟩
-- _law_moved_item(items, index, digits) slots [(0, 'items'), (1, 'index'), (2, 'digits'), (3, 'target'), (4, 'rest')]
def b_law_moved_item : St :=
    (.seq (.asg 3 (.bin .mod (.idx (.var 2) (.int 2)) (.blt .len (.cons (.var 0) .nil))))
    (.seq (.ite (.cmp .eq (.bin .mod (.idx (.var 2) (.int 0)) (.int 3)) (.int 0)) (.seq (.ret (.bin .add (.slcH (.var 0) (.var 1)) (.slcL (.var 0) (.bin .add (.var 1) (.int 1)))))
    .skip) .skip)
    (.seq (.ite (.cmp .eq (.bin .mod (.idx (.var 2) (.int 0)) (.int 3)) (.int 1)) (.seq (.ret (.bin .add (.bin .add (.slcH (.var 0) (.var 3)) (.lst (.cons (.idx (.var 0) (.var 1)) .nil))) (.slcL (.var 0) (.var 3))))
    .skip) .skip)
    (.seq (.asg 4 (.bin .add (.slcH (.var 0) (.var 1)) (.slcL (.var 0) (.bin .add (.var 1) (.int 1)))))
    (.seq (.ret (.bin .add (.bin .add (.slcH (.var 4) (.var 3)) (.lst (.cons (.idx (.var 0) (.var 1)) .nil))) (.slcL (.var 4) (.var 3))))
    .skip)))))
def f_law_moved_item : Fn := ⟨"_law_moved_item", ["items", "index", "digits"], ["items", "index", "digits", "target", "rest"], b_law_moved_item, false⟩
-- _law_change_at(value, path, digits) slots [(0, 'value'), (1, 'path'), (2, 'digits'), (3, 'items')]
def b_law_change_at : St :=
    (.seq (.ite (.cmp .eq (.var 1) (.tup .nil)) (.seq (.ret (.call "_law_other_value" (.cons (.var 0) (.cons (.var 2) .nil))))
    .skip) .skip)
    (.seq (.asgO 3 (.blt .list (.cons (.var 0) .nil)))
    (.seq (.ite (.and (.cmp .eq (.blt .len (.cons (.var 1) .nil)) (.int 1)) (.cmp .eq (.bin .mod (.idx (.var 2) (.int 3)) (.int 2)) (.int 0))) (.seq (.frz 3)
    (.seq (.asg 3 (.call "_law_moved_item" (.cons (.var 3) (.cons (.idx (.var 1) (.int 0)) (.cons (.var 2) .nil)))))
    .skip)) (.seq (.setI 3 (.idx (.var 1) (.int 0)) (.call "_law_change_at" (.cons (.idx (.bor 3) (.idx (.var 1) (.int 0))) (.cons (.slcL (.var 1) (.int 1)) (.cons (.var 2) .nil)))))
    (.seq (.frz 3)
    .skip)))
    (.seq (.ret (.ite (.isi (.var 0) [.list]) (.var 3) (.blt .tuple (.cons (.var 3) .nil))))
    .skip))))
def f_law_change_at : Fn := ⟨"_law_change_at", ["value", "path", "digits"], ["value", "path", "digits", "items"], b_law_change_at, false⟩
-- _law_mutated(value, digits) slots [(0, 'value'), (1, 'digits'), (2, 'paths')]
def b_law_mutated : St :=
    (.seq (.asg 2 (.call "_law_paths" (.cons (.var 0) .nil)))
    (.seq (.ret (.call "_law_change_at" (.cons (.var 0) (.cons (.idx (.var 2) (.bin .mod (.idx (.var 1) (.int 4)) (.blt .len (.cons (.var 2) .nil)))) (.cons (.var 1) .nil)))))
    .skip))
def f_law_mutated : Fn := ⟨"_law_mutated", ["value", "digits"], ["value", "digits", "paths"], b_law_mutated, false⟩
-- _law_any_value(digits, depth) slots [(0, 'digits'), (1, 'depth'), (2, 'choice'), (3, 'number'), (4, 'parts'), (5, 'k')]
def b_law_any_value : St :=
    (.seq (.asg 2 (.bin .mod (.idx (.var 0) (.var 1)) (.int 12)))
    (.seq (.asg 3 (.idx (.lst (.cons (.bin .sub (.bin .mod (.idx (.var 0) (.bin .add (.var 1) (.int 1))) (.int 12)) (.int 2)) (.cons (.bin .sub (.int 0) (.bin .pow (.int 10) (.int 39))) (.cons (.bin .pow (.int 10) (.int 39)) .nil)))) (.bin .mod (.idx (.var 0) (.bin .add (.var 1) (.int 2))) (.int 3))))
    (.seq (.ite (.or (.cmp .lt (.var 2) (.int 4)) (.cmp .gt (.var 1) (.int 3))) (.seq (.ret (.var 3))
    .skip) .skip)
    (.seq (.ite (.cmp .lt (.var 2) (.int 7)) (.seq (.ret (.idx (.lst (.cons (.bool true) (.cons (.bool false) (.cons .none .nil)))) (.bin .sub (.var 2) (.int 4))))
    .skip) .skip)
    (.seq (.ite (.cmp .lt (.var 2) (.int 9)) (.seq (.ret (.idx (.lst (.cons (.str "") (.cons (.str "0") (.cons (.str "a") (.cons (.str "ax") (.cons (.str "3") (.cons (.str "none") (.cons (.str "A") (.cons (.str "~") .nil))))))))) (.bin .mod (.idx (.var 0) (.bin .add (.var 1) (.int 3))) (.int 8))))
    .skip) .skip)
    (.seq (.asg 4 (.lc [5] (.nm 5) (.rng1 (.bin .mod (.idx (.var 0) (.bin .add (.var 1) (.int 4))) (.int 4))) (.call "_law_any_value" (.cons (.bin .add (.slcL (.var 0) (.var 5)) (.slcH (.var 0) (.var 5))) (.cons (.bin .add (.var 1) (.int 1)) .nil)))))
    (.seq (.ret (.ite (.cmp .eq (.var 2) (.int 9)) (.var 4) (.blt .tuple (.cons (.var 4) .nil))))
    .skip)))))))
def f_law_any_value : Fn := ⟨"_law_any_value", ["digits", "depth"], ["digits", "depth", "choice", "number", "parts", "k"], b_law_any_value, false⟩
-- _law_text(digits, size, top) slots [(0, 'digits'), (1, 'size'), (2, 'top'), (3, 'text'), (4, 'digit'), (5, 'depth')]
def b_law_text : St :=
    (.seq (.asg 3 (.tup .nil))
    (.seq (.forS (.nm 4) (.val (.slcLH (.var 0) (.int 2) (.bin .add (.int 3) (.bin .mod (.idx (.var 0) (.int 0)) (.var 1))))) (.seq (.ite (.and (.cmp .ne (.var 3) (.tup .nil)) (.cmp .eq (.bin .mod (.bin .fdiv (.var 4) (.int 21)) (.int 3)) (.int 0))) (.seq (.asg 5 (.idx (.var 3) (.neg (.int 1))))
    .skip) (.seq (.ite (.and (.cmp .eq (.bin .mod (.bin .fdiv (.var 4) (.int 21)) (.int 3)) (.int 1)) (.cmp .eq (.bin .mod (.idx (.var 0) (.int 1)) (.int 2)) (.int 0))) (.seq (.asg 5 (.int 0))
    .skip) (.seq (.asg 5 (.bin .mod (.var 4) (.bin .add (.var 2) (.int 1))))
    .skip))
    .skip))
    (.seq (.asg 3 (.bin .add (.var 3) (.tup (.cons (.var 5) .nil))))
    .skip)))
    (.seq (.ret (.var 3))
    .skip)))
def f_law_text : Fn := ⟨"_law_text", ["digits", "size", "top"], ["digits", "size", "top", "text", "digit", "depth"], b_law_text, false⟩
-- _law_command(digits, length) slots [(0, 'digits'), (1, 'length'), (2, 'start')]
def b_law_command : St :=
    (.seq (.asg 2 (.bin .mod (.idx (.var 0) (.int 1)) (.var 1)))
    (.seq (.ret (.tup (.cons (.idx (.lst (.cons (.str "in") (.cons (.str "out") .nil))) (.bin .mod (.idx (.var 0) (.int 0)) (.int 2))) (.cons (.var 2) (.cons (.bin .add (.bin .add (.var 2) (.int 1)) (.bin .mod (.idx (.var 0) (.int 2)) (.bin .sub (.var 1) (.var 2)))) .nil)))))
    .skip))
def f_law_command : Fn := ⟨"_law_command", ["digits", "length"], ["digits", "length", "start"], b_law_command, false⟩
-- _law_script(digits, length, size) slots [(0, 'digits'), (1, 'length'), (2, 'size'), (3, 'k')]
def b_law_script : St :=
    (.seq (.ret (.blt .tuple (.cons (.lc [3] (.nm 3) (.rng1 (.bin .mod (.idx (.var 0) (.int 0)) (.bin .add (.var 2) (.int 1)))) (.call "_law_command" (.cons (.slcLH (.var 0) (.bin .add (.int 1) (.bin .mul (.int 3) (.var 3))) (.bin .add (.int 4) (.bin .mul (.int 3) (.var 3)))) (.cons (.var 1) .nil)))) .nil)))
    .skip)
def f_law_script : Fn := ⟨"_law_script", ["digits", "length", "size"], ["digits", "length", "size", "k"], b_law_script, false⟩
-- _law_is_text(value, free) slots [(0, 'value'), (1, 'free'), (2, 'one')]
def b_law_is_text : St :=
    (.seq (.ite (.or (.not (.isi (.var 0) [.tuple])) (.or (.cmp .lt (.blt .len (.cons (.var 0) .nil)) (.int 1)) (.cmp .gt (.blt .len (.cons (.var 0) .nil)) (.int 20)))) (.seq (.ret (.bool false))
    .skip) .skip)
    (.seq (.forS (.nm 2) (.val (.var 0)) (.seq (.ite (.and (.not (.call "_law_is_integer" (.cons (.var 2) (.cons (.int 0) (.cons (.int 20) .nil))))) (.not (.and (.var 1) (.cmp .is (.var 2) .none)))) (.seq (.ret (.bool false))
    .skip) .skip)
    .skip))
    (.seq (.ret (.bool true))
    .skip)))
def f_law_is_text : Fn := ⟨"_law_is_text", ["value", "free"], ["value", "free", "one"], b_law_is_text, false⟩
-- _law_is_script(length, value) slots [(0, 'length'), (1, 'value'), (2, 'one')]
def b_law_is_script : St :=
    (.seq (.ite (.or (.not (.isi (.var 1) [.tuple])) (.cmp .gt (.blt .len (.cons (.var 1) .nil)) (.int 60))) (.seq (.ret (.bool false))
    .skip) .skip)
    (.seq (.forS (.nm 2) (.val (.var 1)) (.seq (.ite (.or (.not (.isi (.var 2) [.tuple])) (.or (.cmp .ne (.blt .len (.cons (.var 2) .nil)) (.int 3)) (.or (.not (.isi (.idx (.var 2) (.int 0)) [.str])) (.cmp .nin (.idx (.var 2) (.int 0)) (.tup (.cons (.str "in") (.cons (.str "out") .nil))))))) (.seq (.ret (.bool false))
    .skip) .skip)
    (.seq (.ite (.or (.not (.call "_law_is_integer" (.cons (.idx (.var 2) (.int 1)) (.cons (.int 0) (.cons (.var 0) .nil))))) (.or (.not (.call "_law_is_integer" (.cons (.idx (.var 2) (.int 2)) (.cons (.int 0) (.cons (.var 0) .nil))))) (.cmp .ge (.idx (.var 2) (.int 1)) (.idx (.var 2) (.int 2))))) (.seq (.ret (.bool false))
    .skip) .skip)
    .skip)))
    (.seq (.ret (.bool true))
    .skip)))
def f_law_is_script : Fn := ⟨"_law_is_script", ["length", "value"], ["length", "value", "one"], b_law_is_script, false⟩
-- changed(depth, name) slots [(0, 'depth'), (1, 'name')]
def b_changed : St :=
    (.seq (.ret (.ite (.cmp .eq (.var 1) (.str "in")) (.bin .add (.var 0) (.int 1)) (.blt .max (.cons (.int 0) (.cons (.bin .sub (.var 0) (.int 1)) .nil)))))
    .skip)
def f_changed : Fn := ⟨"changed", ["depth", "name"], ["depth", "name"], b_changed, false⟩
-- after(text, command) slots [(0, 'text'), (1, 'command'), (2, 'name'), (3, 'start'), (4, 'end'), (5, 'depth')]
def b_after : St :=
    (.seq (.unp (.tp (.cons (.nm 2) (.cons (.nm 3) (.cons (.nm 4) .nil)))) (.var 1))
    (.seq (.ret (.bin .add (.bin .add (.slcH (.var 0) (.var 3)) (.blt .tuple (.cons (.lc [5] (.nm 5) (.val (.slcLH (.var 0) (.var 3) (.var 4))) (.call "changed" (.cons (.var 5) (.cons (.var 2) .nil)))) .nil))) (.slcL (.var 0) (.var 4))))
    .skip))
def f_after : Fn := ⟨"after", ["text", "command"], ["text", "command", "name", "start", "end", "depth"], b_after, false⟩
-- apply(text, script) slots [(0, 'text'), (1, 'script'), (2, 'command')]
def b_apply : St :=
    (.seq (.forS (.nm 2) (.val (.var 1)) (.seq (.asg 0 (.call "after" (.cons (.var 0) (.cons (.var 2) .nil))))
    .skip))
    (.seq (.ret (.var 0))
    .skip))
def f_apply : Fn := ⟨"apply", ["text", "script"], ["text", "script", "command"], b_apply, false⟩
-- idle(text, script) slots [(0, 'text'), (1, 'script'), (2, 'result'), (3, 'index'), (4, 'command')]
def b_idle : St :=
    (.seq (.asgO 2 (.lst .nil))
    (.seq (.forS (.tp (.cons (.nm 3) (.cons (.nm 4) .nil))) (.enm (.var 1)) (.seq (.ite (.cmp .eq (.call "after" (.cons (.var 0) (.cons (.var 4) .nil))) (.var 0)) (.seq (.app 2 (.var 3))
    .skip) .skip)
    (.seq (.asg 0 (.call "after" (.cons (.var 0) (.cons (.var 4) .nil))))
    .skip)))
    (.seq (.retF (.bor 2))
    .skip)))
def f_idle : Fn := ⟨"idle", ["text", "script"], ["text", "script", "result", "index", "command"], b_idle, true⟩
-- _law_changed(text, command) slots [(0, 'text'), (1, 'command'), (2, 'name'), (3, 'start'), (4, 'end'), (5, 'depths'), (6, 'line')]
def b_law_changed : St :=
    (.seq (.unp (.tp (.cons (.nm 2) (.cons (.nm 3) (.cons (.nm 4) .nil)))) (.var 1))
    (.seq (.asgO 5 (.blt .list (.cons (.var 0) .nil)))
    (.seq (.forS (.nm 6) (.rng2 (.var 3) (.var 4)) (.seq (.ite (.cmp .eq (.var 2) (.str "in")) (.seq (.setI 5 (.var 6) (.bin .add (.idx (.bor 5) (.var 6)) (.int 1)))
    .skip) (.seq (.ite (.cmp .gt (.idx (.bor 5) (.var 6)) (.int 0)) (.seq (.setI 5 (.var 6) (.bin .sub (.idx (.bor 5) (.var 6)) (.int 1)))
    .skip) .skip)
    .skip))
    .skip))
    (.seq (.ret (.blt .tuple (.cons (.bor 5) .nil)))
    .skip))))
def f_law_changed : Fn := ⟨"_law_changed", ["text", "command"], ["text", "command", "name", "start", "end", "depths", "line"], b_law_changed, false⟩
-- rises(counts) slots [(0, 'counts'), (1, 'one'), (2, 'other')]
def b_rises : St :=
    (.seq (.ret (.blt .sum (.cons (.lc [1, 2] (.tp (.cons (.nm 1) (.cons (.nm 2) .nil))) (.zip2 (.bin .add (.tup (.cons (.int 0) .nil)) (.var 0)) (.var 0)) (.blt .max (.cons (.int 0) (.cons (.bin .sub (.var 2) (.var 1)) .nil)))) .nil)))
    .skip)
def f_rises : Fn := ⟨"rises", ["counts"], ["counts", "one", "other"], b_rises, false⟩
-- choices(depth, wished, limit) slots [(0, 'depth'), (1, 'wished'), (2, 'limit'), (3, 'result'), (4, 'outs'), (5, 'left')]
def b_choices : St :=
    (.seq (.asgO 3 (.lst .nil))
    (.seq (.forS (.nm 4) (.rng1 (.bin .add (.var 2) (.int 1))) (.seq (.asg 5 (.blt .max (.cons (.int 0) (.cons (.bin .sub (.var 0) (.var 4)) .nil))))
    (.seq (.ite (.cmp .le (.var 5) (.var 1)) (.seq (.app 3 (.tup (.cons (.var 4) (.cons (.bin .sub (.var 1) (.var 5)) .nil))))
    .skip) .skip)
    .skip)))
    (.seq (.frz 3)
    (.seq (.ret (.var 3))
    .skip))))
def f_choices : Fn := ⟨"choices", ["depth", "wished", "limit"], ["depth", "wished", "limit", "result", "outs", "left"], b_choices, false⟩
-- best_counts(text, wish) slots [(0, 'text'), (1, 'wish'), (2, 'limit'), (3, 'rows'), (4, 'depth'), (5, 'wished'), (6, 'found'), (7, 'last'), (8, 'cost'), (9, 'outs'), (10, 'ins'), (11, 'pair'), (12, 'total'), (13, 'costs'), (14, 'best')]
def b_best_counts : St :=
    (.seq (.asg 2 (.blt .max (.cons (.var 0) .nil)))
    (.seq (.asg 3 (.dic1 (.tup (.cons (.int 0) (.cons (.int 0) .nil))) (.tup (.cons (.int 0) (.cons (.tup .nil) (.cons (.tup .nil) .nil))))))
    (.seq (.forS (.tp (.cons (.nm 4) (.cons (.nm 5) .nil))) (.zip2 (.var 0) (.var 1)) (.seq (.asgO 6 .dic0)
    (.seq (.forS (.nm 7) (.dkeys 3) (.seq (.unp (.tp (.cons (.nm 8) (.cons (.nm 9) (.cons (.nm 10) .nil)))) (.idx (.var 3) (.var 7)))
    (.seq (.forS (.nm 11) (.val (.ite (.cmp .is (.var 5) .none) (.lst (.cons (.var 7) .nil)) (.call "choices" (.cons (.var 4) (.cons (.var 5) (.cons (.var 2) .nil)))))) (.seq (.asg 12 (.bin .add (.bin .add (.var 8) (.blt .max (.cons (.int 0) (.cons (.bin .sub (.idx (.var 11) (.int 0)) (.idx (.var 7) (.int 0))) .nil)))) (.blt .max (.cons (.int 0) (.cons (.bin .sub (.idx (.var 11) (.int 1)) (.idx (.var 7) (.int 1))) .nil)))))
    (.seq (.ite (.or (.cmp .nin (.var 11) (.bor 6)) (.cmp .lt (.var 12) (.idx (.idx (.bor 6) (.var 11)) (.int 0)))) (.seq (.setI 6 (.var 11) (.tup (.cons (.var 12) (.cons (.bin .add (.var 9) (.tup (.cons (.idx (.var 11) (.int 0)) .nil))) (.cons (.bin .add (.var 10) (.tup (.cons (.idx (.var 11) (.int 1)) .nil))) .nil)))))
    .skip) .skip)
    .skip)))
    .skip)))
    (.seq (.frz 6)
    (.seq (.asg 3 (.var 6))
    .skip)))))
    (.seq (.asg 13 (.lc [11] (.nm 11) (.dkeys 3) (.idx (.idx (.var 3) (.var 11)) (.int 0))))
    (.seq (.asg 14 (.idx (.lc [11] (.nm 11) (.dkeys 3) (.idx (.var 3) (.var 11))) (.mt .index (.var 13) (.cons (.blt .min (.cons (.var 13) .nil)) .nil))))
    (.seq (.ret (.tup (.cons (.idx (.var 14) (.int 1)) (.cons (.idx (.var 14) (.int 2)) .nil))))
    .skip))))))
def f_best_counts : Fn := ⟨"best_counts", ["text", "wish"], ["text", "wish", "limit", "rows", "depth", "wished", "found", "last", "cost", "outs", "ins", "pair", "total", "costs", "best"], b_best_counts, false⟩
-- counts_cost(outs, ins) slots [(0, 'outs'), (1, 'ins')]
def b_counts_cost : St :=
    (.seq (.ret (.bin .add (.call "rises" (.cons (.var 0) .nil)) (.call "rises" (.cons (.var 1) .nil))))
    .skip)
def f_counts_cost : Fn := ⟨"counts_cost", ["outs", "ins"], ["outs", "ins"], b_counts_cost, false⟩
-- distance(text, wish) slots [(0, 'text'), (1, 'wish'), (2, 'outs'), (3, 'ins')]
def b_distance : St :=
    (.seq (.unp (.tp (.cons (.nm 2) (.cons (.nm 3) .nil))) (.call "best_counts" (.cons (.var 0) (.cons (.var 1) .nil))))
    (.seq (.ret (.call "counts_cost" (.cons (.var 2) (.cons (.var 3) .nil))))
    .skip))
def f_distance : Fn := ⟨"distance", ["text", "wish"], ["text", "wish", "outs", "ins"], b_distance, false⟩
-- _law_texts(length, top) slots [(0, 'length'), (1, 'top'), (2, 'texts'), (3, 'turn'), (4, 'longer'), (5, 'text'), (6, 'depth')]
def b_law_texts : St :=
    (.seq (.asg 2 (.lst (.cons (.tup .nil) .nil)))
    (.seq (.forS (.nm 3) (.rng1 (.var 0)) (.seq (.asg 4 (.lst .nil))
    (.seq (.forS (.nm 5) (.val (.var 2)) (.seq (.asg 4 (.bin .add (.var 4) (.lc [6] (.nm 6) (.rng1 (.bin .add (.var 1) (.int 1))) (.bin .add (.var 5) (.tup (.cons (.var 6) .nil))))))
    .skip))
    (.seq (.asg 2 (.var 4))
    .skip))))
    (.seq (.ret (.var 2))
    .skip)))
def f_law_texts : Fn := ⟨"_law_texts", ["length", "top"], ["length", "top", "texts", "turn", "longer", "text", "depth"], b_law_texts, false⟩
-- _law_commands(length) slots [(0, 'length'), (1, 'commands'), (2, 'name'), (3, 'start'), (4, 'end')]
def b_law_commands : St :=
    (.seq (.asg 1 (.lst .nil))
    (.seq (.forS (.nm 2) (.val (.tup (.cons (.str "in") (.cons (.str "out") .nil)))) (.seq (.forS (.nm 3) (.rng1 (.var 0)) (.seq (.asg 1 (.bin .add (.var 1) (.lc [4] (.nm 4) (.rng2 (.bin .add (.var 3) (.int 1)) (.bin .add (.var 0) (.int 1))) (.tup (.cons (.var 2) (.cons (.var 3) (.cons (.var 4) .nil)))))))
    .skip))
    .skip))
    (.seq (.ret (.var 1))
    .skip)))
def f_law_commands : Fn := ⟨"_law_commands", ["length"], ["length", "commands", "name", "start", "end"], b_law_commands, false⟩
-- _law_levels(text, top) slots [(0, 'text'), (1, 'top'), (2, 'found'), (3, 'front'), (4, 'count'), (5, 'reached'), (6, 'one'), (7, 'command'), (8, 'other')]
def b_law_levels : St :=
    (.seq (.par3 2 true (.dic1 (.var 0) (.int 0)) 3 (.lst (.cons (.var 0) .nil)) 4 (.int 0))
    (.seq (.whl (.cmp .ne (.var 3) (.lst .nil)) (.seq (.asg 4 (.bin .add (.var 4) (.int 1)))
    (.seq (.asgO 5 (.lst .nil))
    (.seq (.forS (.nm 6) (.val (.var 3)) (.seq (.forS (.nm 7) (.val (.call "_law_commands" (.cons (.blt .len (.cons (.var 0) .nil)) .nil))) (.seq (.asg 8 (.call "_law_changed" (.cons (.var 6) (.cons (.var 7) .nil))))
    (.seq (.ite (.and (.cmp .nin (.var 8) (.bor 2)) (.cmp .le (.blt .max (.cons (.var 8) .nil)) (.var 1))) (.seq (.setI 2 (.var 8) (.var 4))
    (.seq (.app 5 (.var 8))
    .skip)) .skip)
    .skip)))
    .skip))
    (.seq (.frz 5)
    (.seq (.asg 3 (.var 5))
    .skip))))))
    (.seq (.frz 2)
    (.seq (.ret (.var 2))
    .skip))))
def f_law_levels : Fn := ⟨"_law_levels", ["text", "top"], ["text", "top", "found", "front", "count", "reached", "one", "command", "other"], b_law_levels, false⟩
-- is_certificate(text, wish, value) slots [(0, 'text'), (1, 'wish'), (2, 'value'), (3, 'counts'), (4, 'count'), (5, 'depth'), (6, 'wished'), (7, 'outs'), (8, 'ins')]
def b_is_certificate : St :=
    (.seq (.ite (.or (.not (.isi (.var 2) [.tuple])) (.cmp .ne (.blt .len (.cons (.var 2) .nil)) (.int 2))) (.seq (.ret (.bool false))
    .skip) .skip)
    (.seq (.forS (.nm 3) (.val (.var 2)) (.seq (.ite (.or (.not (.isi (.var 3) [.tuple])) (.cmp .ne (.blt .len (.cons (.var 3) .nil)) (.blt .len (.cons (.var 0) .nil)))) (.seq (.ret (.bool false))
    .skip) .skip)
    (.seq (.ite (.not (.blt .all (.cons (.lc [4] (.nm 4) (.val (.var 3)) (.call "is_integer" (.cons (.var 4) (.cons (.int 0) (.cons (.int 1000) .nil))))) .nil))) (.seq (.ret (.bool false))
    .skip) .skip)
    .skip)))
    (.seq (.forS (.tp (.cons (.nm 5) (.cons (.nm 6) (.cons (.nm 7) (.cons (.nm 8) .nil))))) (.zip4 (.var 0) (.var 1) (.idx (.var 2) (.int 0)) (.idx (.var 2) (.int 1))) (.seq (.ite (.and (.cmp .isn (.var 6) .none) (.cmp .ne (.bin .add (.blt .max (.cons (.int 0) (.cons (.bin .sub (.var 5) (.var 7)) .nil))) (.var 8)) (.var 6))) (.seq (.ret (.bool false))
    .skip) .skip)
    .skip))
    (.seq (.ret (.bool true))
    .skip))))
def f_is_certificate : Fn := ⟨"is_certificate", ["text", "wish", "value"], ["text", "wish", "value", "counts", "count", "depth", "wished", "outs", "ins"], b_is_certificate, false⟩
-- _law_near(digits, text, top) slots [(0, 'digits'), (1, 'text'), (2, 'top'), (3, 'digit'), (4, 'k'), (5, 'depth')]
def b_law_near : St :=
    (.seq (.ite (.cmp .eq (.bin .mod (.idx (.var 0) (.int 0)) (.int 3)) (.int 0)) (.seq (.ret (.blt .tuple (.cons (.lc [3] (.nm 3) (.val (.slcLH (.var 0) (.int 1) (.bin .add (.int 1) (.blt .len (.cons (.var 1) .nil))))) (.bin .mod (.var 3) (.bin .add (.var 2) (.int 1)))) .nil)))
    .skip) .skip)
    (.seq (.forS (.nm 4) (.rng1 (.bin .mod (.idx (.var 0) (.int 1)) (.int 6))) (.seq (.asg 1 (.call "_law_changed" (.cons (.var 1) (.cons (.call "_law_command" (.cons (.slcLH (.var 0) (.bin .add (.int 2) (.bin .mul (.int 3) (.var 4))) (.bin .add (.int 5) (.bin .mul (.int 3) (.var 4)))) (.cons (.blt .len (.cons (.var 1) .nil)) .nil))) .nil))))
    .skip))
    (.seq (.ret (.blt .tuple (.cons (.lc [5] (.nm 5) (.val (.var 1)) (.blt .min (.cons (.var 2) (.cons (.var 5) .nil)))) .nil)))
    .skip)))
def f_law_near : Fn := ⟨"_law_near", ["digits", "text", "top"], ["digits", "text", "top", "digit", "k", "depth"], b_law_near, false⟩
-- _law_rises(counts) slots [(0, 'counts'), (1, 'total'), (2, 'last'), (3, 'count')]
def b_law_rises : St :=
    (.seq (.unp (.tp (.cons (.nm 1) (.cons (.nm 2) .nil))) (.tup (.cons (.int 0) (.cons (.int 0) .nil))))
    (.seq (.forS (.nm 3) (.val (.var 0)) (.seq (.asg 1 (.bin .add (.var 1) (.blt .max (.cons (.int 0) (.cons (.bin .sub (.var 3) (.var 2)) .nil)))))
    (.seq (.asg 2 (.var 3))
    .skip)))
    (.seq (.ret (.var 1))
    .skip)))
def f_law_rises : Fn := ⟨"_law_rises", ["counts"], ["counts", "total", "last", "count"], b_law_rises, false⟩
-- _law_least(text, wish) slots [(0, 'text'), (1, 'wish'), (2, 'lines'), (3, 'depth'), (4, 'wished'), (5, 'top'), (6, 'later'), (7, 'now'), (8, 'outs'), (9, 'ins'), (10, 'costs'), (11, 'pair')]
def b_law_least : St :=
    (.seq (.asg 2 (.lcIf [3, 4] (.tp (.cons (.nm 3) (.cons (.nm 4) .nil))) (.zip2 (.var 0) (.var 1)) (.cmp .isn (.var 4) .none) (.tup (.cons (.var 3) (.cons (.var 4) .nil)))))
    (.seq (.unp (.tp (.cons (.nm 5) (.cons (.nm 6) .nil))) (.tup (.cons (.blt .max (.cons (.bin .add (.tup (.cons (.int 0) .nil)) (.var 0)) .nil)) (.cons .dic0 .nil))))
    (.seq (.forS (.tp (.cons (.nm 3) (.cons (.nm 4) .nil))) (.val (.rev (.var 2))) (.seq (.asgO 7 .dic0)
    (.seq (.forS (.nm 8) (.rng1 (.bin .add (.var 5) (.int 1))) (.seq (.ite (.cmp .le (.blt .max (.cons (.int 0) (.cons (.bin .sub (.var 3) (.var 8)) .nil))) (.var 4)) (.seq (.asg 9 (.bin .sub (.var 4) (.blt .max (.cons (.int 0) (.cons (.bin .sub (.var 3) (.var 8)) .nil)))))
    (.seq (.asg 10 (.lc [11] (.nm 11) (.dkeys 6) (.bin .add (.bin .add (.idx (.var 6) (.var 11)) (.blt .max (.cons (.int 0) (.cons (.bin .sub (.idx (.var 11) (.int 0)) (.var 8)) .nil)))) (.blt .max (.cons (.int 0) (.cons (.bin .sub (.idx (.var 11) (.int 1)) (.var 9)) .nil))))))
    (.seq (.setI 7 (.tup (.cons (.var 8) (.cons (.var 9) .nil))) (.ite (.cmp .ne (.var 10) (.lst .nil)) (.blt .min (.cons (.var 10) .nil)) (.int 0)))
    .skip))) .skip)
    .skip))
    (.seq (.frz 7)
    (.seq (.asg 6 (.var 7))
    .skip)))))
    (.seq (.ret (.ite (.cmp .ne (.var 6) .dic0) (.blt .min (.cons (.lc [11] (.nm 11) (.dkeys 6) (.bin .add (.bin .add (.idx (.var 6) (.var 11)) (.idx (.var 11) (.int 0))) (.idx (.var 11) (.int 1)))) .nil)) (.int 0)))
    .skip))))
def f_law_least : Fn := ⟨"_law_least", ["text", "wish"], ["text", "wish", "lines", "depth", "wished", "top", "later", "now", "outs", "ins", "costs", "pair"], b_law_least, false⟩
-- _law_all_costs(text, wish) slots [(0, 'text'), (1, 'wish'), (2, 'rows'), (3, 'depth'), (4, 'wished'), (5, 'longer'), (6, 'outs'), (7, 'ins'), (8, 'out'), (9, 'left'), (10, 'numbers'), (11, 'number')]
def b_law_all_costs : St :=
    (.seq (.asg 2 (.lst (.cons (.tup (.cons (.tup .nil) (.cons (.tup .nil) .nil))) .nil)))
    (.seq (.forS (.tp (.cons (.nm 3) (.cons (.nm 4) .nil))) (.zip2 (.var 0) (.var 1)) (.seq (.asg 5 (.lst .nil))
    (.seq (.forS (.tp (.cons (.nm 6) (.cons (.nm 7) .nil))) (.dkeys 2) (.seq (.forS (.nm 8) (.rng1 (.int 4)) (.seq (.asg 9 (.blt .max (.cons (.int 0) (.cons (.bin .sub (.var 3) (.var 8)) .nil))))
    (.seq (.asg 10 (.ite (.cmp .is (.var 4) .none) (.lst (.cons (.int 0) (.cons (.int 1) (.cons (.int 2) (.cons (.int 3) .nil))))) (.bin .mul (.lst (.cons (.bin .sub (.var 4) (.var 9)) .nil)) (.blt .int (.cons (.cmp .le (.var 9) (.var 4)) .nil)))))
    (.seq (.asg 5 (.bin .add (.var 5) (.lc [11] (.nm 11) (.val (.var 10)) (.tup (.cons (.bin .add (.var 6) (.tup (.cons (.var 8) .nil))) (.cons (.bin .add (.var 7) (.tup (.cons (.var 11) .nil))) .nil))))))
    .skip))))
    .skip))
    (.seq (.asg 2 (.var 5))
    .skip))))
    (.seq (.ret (.lc [6, 7] (.tp (.cons (.nm 6) (.cons (.nm 7) .nil))) (.dkeys 2) (.bin .add (.call "_law_rises" (.cons (.var 6) .nil)) (.call "_law_rises" (.cons (.var 7) .nil)))))
    .skip)))
def f_law_all_costs : Fn := ⟨"_law_all_costs", ["text", "wish"], ["text", "wish", "rows", "depth", "wished", "longer", "outs", "ins", "out", "left", "numbers", "number"], b_law_all_costs, false⟩
-- _law_is_certificate(text, wish, value) slots [(0, 'text'), (1, 'wish'), (2, 'value'), (3, 'part'), (4, 'count'), (5, 'place'), (6, 'wished'), (7, 'depth')]
def b_law_is_certificate : St :=
    (.seq (.ite (.or (.not (.isi (.var 2) [.tuple])) (.cmp .ne (.blt .len (.cons (.var 2) .nil)) (.int 2))) (.seq (.ret (.bool false))
    .skip) .skip)
    (.seq (.forS (.nm 3) (.val (.var 2)) (.seq (.ite (.or (.not (.isi (.var 3) [.tuple])) (.cmp .ne (.blt .len (.cons (.var 3) .nil)) (.blt .len (.cons (.var 0) .nil)))) (.seq (.ret (.bool false))
    .skip) .skip)
    (.seq (.ite (.cmp .ne (.lcIf [4] (.nm 4) (.val (.var 3)) (.not (.call "_law_is_integer" (.cons (.var 4) (.cons (.int 0) (.cons (.int 1000) .nil))))) (.var 4)) (.lst .nil)) (.seq (.ret (.bool false))
    .skip) .skip)
    .skip)))
    (.seq (.forS (.tp (.cons (.nm 5) (.cons (.nm 6) .nil))) (.enm (.var 1)) (.seq (.asg 7 (.bin .sub (.idx (.var 0) (.var 5)) (.idx (.idx (.var 2) (.int 0)) (.var 5))))
    (.seq (.ite (.and (.cmp .isn (.var 6) .none) (.cmp .ne (.bin .add (.ite (.cmp .gt (.var 7) (.int 0)) (.var 7) (.int 0)) (.idx (.idx (.var 2) (.int 1)) (.var 5))) (.var 6))) (.seq (.ret (.bool false))
    .skip) .skip)
    .skip)))
    (.seq (.ret (.bool true))
    .skip))))
def f_law_is_certificate : Fn := ⟨"_law_is_certificate", ["text", "wish", "value"], ["text", "wish", "value", "part", "count", "place", "wished", "depth"], b_law_is_certificate, false⟩
-- intervals(counts) slots [(0, 'counts'), (1, 'result'), (2, 'level'), (3, 'start'), (4, 'index'), (5, 'count')]
def b_intervals : St :=
    (.seq (.asgO 1 (.lst .nil))
    (.seq (.forS (.nm 2) (.rng2 (.int 1) (.bin .add (.blt .max (.cons (.var 0) .nil)) (.int 1))) (.seq (.asg 3 .none)
    (.seq (.forS (.tp (.cons (.nm 4) (.cons (.nm 5) .nil))) (.enm (.bin .add (.var 0) (.tup (.cons (.int 0) .nil)))) (.seq (.ite (.and (.cmp .ge (.var 5) (.var 2)) (.cmp .is (.var 3) .none)) (.seq (.asg 3 (.var 4))
    .skip) .skip)
    (.seq (.ite (.and (.cmp .lt (.var 5) (.var 2)) (.cmp .isn (.var 3) .none)) (.seq (.app 1 (.tup (.cons (.var 3) (.cons (.var 4) .nil))))
    (.seq (.asg 3 .none)
    .skip)) .skip)
    .skip)))
    .skip)))
    (.seq (.frz 1)
    (.seq (.ret (.var 1))
    .skip))))
def f_intervals : Fn := ⟨"intervals", ["counts"], ["counts", "result", "level", "start", "index", "count"], b_intervals, false⟩
-- script_of(outs, ins) slots [(0, 'outs'), (1, 'ins'), (2, 'script'), (3, 'start'), (4, 'end')]
def b_script_of : St :=
    (.seq (.asg 2 (.lc [3, 4] (.tp (.cons (.nm 3) (.cons (.nm 4) .nil))) (.val (.call "intervals" (.cons (.var 0) .nil))) (.tup (.cons (.str "out") (.cons (.var 3) (.cons (.var 4) .nil))))))
    (.seq (.ret (.blt .tuple (.cons (.bin .add (.var 2) (.lc [3, 4] (.tp (.cons (.nm 3) (.cons (.nm 4) .nil))) (.val (.call "intervals" (.cons (.var 1) .nil))) (.tup (.cons (.str "in") (.cons (.var 3) (.cons (.var 4) .nil)))))) .nil)))
    .skip))
def f_script_of : Fn := ⟨"script_of", ["outs", "ins"], ["outs", "ins", "script", "start", "end"], b_script_of, false⟩
-- plan(text, wish) slots [(0, 'text'), (1, 'wish'), (2, 'outs'), (3, 'ins')]
def b_plan : St :=
    (.seq (.unp (.tp (.cons (.nm 2) (.cons (.nm 3) .nil))) (.call "best_counts" (.cons (.var 0) (.cons (.var 1) .nil))))
    (.seq (.ret (.call "script_of" (.cons (.var 2) (.cons (.var 3) .nil))))
    .skip))
def f_plan : Fn := ⟨"plan", ["text", "wish"], ["text", "wish", "outs", "ins"], b_plan, false⟩
-- _law_after(text, script) slots [(0, 'text'), (1, 'script'), (2, 'command')]
def b_law_after : St :=
    (.seq (.forS (.nm 2) (.val (.var 1)) (.seq (.asg 0 (.call "_law_changed" (.cons (.var 0) (.cons (.var 2) .nil))))
    .skip))
    (.seq (.ret (.var 0))
    .skip))
def f_law_after : Fn := ⟨"_law_after", ["text", "script"], ["text", "script", "command"], b_law_after, false⟩
-- _law_fits(text, wish) slots [(0, 'text'), (1, 'wish'), (2, 'depth'), (3, 'wished')]
def b_law_fits : St :=
    (.seq (.ite (.cmp .ne (.blt .len (.cons (.var 0) .nil)) (.blt .len (.cons (.var 1) .nil))) (.seq (.ret (.bool false))
    .skip) .skip)
    (.seq (.ret (.cmp .eq (.lcIf [2, 3] (.tp (.cons (.nm 2) (.cons (.nm 3) .nil))) (.zip2 (.var 0) (.var 1)) (.and (.cmp .isn (.var 3) .none) (.cmp .ne (.var 3) (.var 2))) (.int 1)) (.lst .nil)))
    .skip))
def f_law_fits : Fn := ⟨"_law_fits", ["text", "wish"], ["text", "wish", "depth", "wished"], b_law_fits, false⟩
-- _law_is_command(length, value) slots [(0, 'length'), (1, 'value')]
def b_law_is_command : St :=
    (.seq (.ite (.or (.not (.isi (.var 1) [.tuple])) (.or (.cmp .ne (.blt .len (.cons (.var 1) .nil)) (.int 3)) (.cmp .nin (.idx (.var 1) (.int 0)) (.tup (.cons (.str "in") (.cons (.str "out") .nil)))))) (.seq (.ret (.bool false))
    .skip) .skip)
    (.seq (.ret (.and (.call "_law_is_integer" (.cons (.idx (.var 1) (.int 1)) (.cons (.int 0) (.cons (.bin .sub (.var 0) (.int 1)) .nil)))) (.call "_law_is_integer" (.cons (.idx (.var 1) (.int 2)) (.cons (.bin .add (.idx (.var 1) (.int 1)) (.int 1)) (.cons (.var 0) .nil))))))
    .skip))
def f_law_is_command : Fn := ⟨"_law_is_command", ["length", "value"], ["length", "value"], b_law_is_command, false⟩
-- _law_fillings(wish, top) slots [(0, 'wish'), (1, 'top'), (2, 'texts'), (3, 'wished'), (4, 'longer'), (5, 'text'), (6, 'depth')]
def b_law_fillings : St :=
    (.seq (.asg 2 (.lst (.cons (.tup .nil) .nil)))
    (.seq (.forS (.nm 3) (.val (.var 0)) (.seq (.asg 4 (.lst .nil))
    (.seq (.forS (.nm 5) (.val (.var 2)) (.seq (.asg 4 (.bin .add (.var 4) (.lc [6] (.nm 6) (.val (.ite (.cmp .is (.var 3) .none) (.lrng1 (.bin .add (.var 1) (.int 1))) (.lst (.cons (.var 3) .nil)))) (.bin .add (.var 5) (.tup (.cons (.var 6) .nil))))))
    .skip))
    (.seq (.asg 2 (.var 4))
    .skip))))
    (.seq (.ret (.var 2))
    .skip)))
def f_law_fillings : Fn := ⟨"_law_fillings", ["wish", "top"], ["wish", "top", "texts", "wished", "longer", "text", "depth"], b_law_fillings, false⟩
-- effects(length, script) slots [(0, 'length'), (1, 'script'), (2, 'result'), (3, 'name'), (4, 'start'), (5, 'end'), (6, 'line'), (7, 'shift'), (8, 'floor')]
def b_effects : St :=
    (.seq (.asgO 2 (.bin .mul (.lst (.cons (.tup (.cons (.int 0) (.cons (.int 0) .nil))) .nil)) (.var 0)))
    (.seq (.forS (.tp (.cons (.nm 3) (.cons (.nm 4) (.cons (.nm 5) .nil)))) (.val (.var 1)) (.seq (.forS (.nm 6) (.rng2 (.var 4) (.var 5)) (.seq (.unp (.tp (.cons (.nm 7) (.cons (.nm 8) .nil))) (.idx (.bor 2) (.var 6)))
    (.seq (.setI 2 (.var 6) (.ite (.cmp .eq (.var 3) (.str "in")) (.tup (.cons (.bin .add (.var 7) (.int 1)) (.cons (.bin .add (.var 8) (.int 1)) .nil))) (.tup (.cons (.bin .sub (.var 7) (.int 1)) (.cons (.blt .max (.cons (.int 0) (.cons (.bin .sub (.var 8) (.int 1)) .nil))) .nil)))))
    .skip)))
    .skip))
    (.seq (.retF (.bor 2))
    .skip)))
def f_effects : Fn := ⟨"effects", ["length", "script"], ["length", "script", "result", "name", "start", "end", "line", "shift", "floor"], b_effects, true⟩
-- _law_pair(steps, line) slots [(0, 'steps'), (1, 'line'), (2, 'near'), (3, 'far'), (4, 'name'), (5, 'start'), (6, 'end')]
def b_law_pair : St :=
    (.seq (.unp (.tp (.cons (.nm 2) (.cons (.nm 3) .nil))) (.tup (.cons (.int 0) (.cons (.int 1000) .nil))))
    (.seq (.forS (.tp (.cons (.nm 4) (.cons (.nm 5) (.cons (.nm 6) .nil)))) (.val (.var 0)) (.seq (.ite (.chain .le .lt (.var 5) (.var 1) (.var 6)) (.seq (.asg 2 (.ite (.cmp .eq (.var 4) (.str "in")) (.bin .add (.var 2) (.int 1)) (.blt .max (.cons (.int 0) (.cons (.bin .sub (.var 2) (.int 1)) .nil)))))
    (.seq (.asg 3 (.ite (.cmp .eq (.var 4) (.str "in")) (.bin .add (.var 3) (.int 1)) (.bin .sub (.var 3) (.int 1))))
    .skip)) .skip)
    .skip))
    (.seq (.ret (.tup (.cons (.bin .sub (.var 3) (.int 1000)) (.cons (.var 2) .nil))))
    .skip)))
def f_law_pair : Fn := ⟨"_law_pair", ["steps", "line"], ["steps", "line", "near", "far", "name", "start", "end"], b_law_pair, false⟩
-- difference(length, first, second) slots [(0, 'length'), (1, 'first'), (2, 'second'), (3, 'line'), (4, 'pair'), (5, 'one'), (6, 'other'), (7, 'depth')]
def b_difference : St :=
    (.seq (.forS (.tp (.cons (.nm 3) (.cons (.nm 4) .nil))) (.enmZ (.call "effects" (.cons (.var 0) (.cons (.var 1) .nil))) (.call "effects" (.cons (.var 0) (.cons (.var 2) .nil)))) (.seq (.unp (.tp (.cons (.nm 5) (.cons (.nm 6) .nil))) (.var 4))
    (.seq (.ite (.cmp .ne (.var 5) (.var 6)) (.seq (.asg 7 (.int 0))
    (.seq (.whl (.cmp .eq (.blt .max (.cons (.bin .add (.var 7) (.idx (.var 5) (.int 0))) (.cons (.idx (.var 5) (.int 1)) .nil))) (.blt .max (.cons (.bin .add (.var 7) (.idx (.var 6) (.int 0))) (.cons (.idx (.var 6) (.int 1)) .nil)))) (.seq (.aug 7 (.int 1))
    .skip))
    (.seq (.ret (.tup (.cons (.var 3) (.cons (.var 7) .nil))))
    .skip))) .skip)
    .skip)))
    (.seq (.ret .none)
    .skip))
def f_difference : Fn := ⟨"difference", ["length", "first", "second"], ["length", "first", "second", "line", "pair", "one", "other", "depth"], b_difference, false⟩
-- equal(length, first, second) slots [(0, 'length'), (1, 'first'), (2, 'second')]
def b_equal : St :=
    (.seq (.ret (.cmp .eq (.call "effects" (.cons (.var 0) (.cons (.var 1) .nil))) (.call "effects" (.cons (.var 0) (.cons (.var 2) .nil)))))
    .skip)
def f_equal : Fn := ⟨"equal", ["length", "first", "second"], ["length", "first", "second"], b_equal, false⟩
-- _law_depth(steps, line, depth) slots [(0, 'steps'), (1, 'line'), (2, 'depth'), (3, 'name'), (4, 'start'), (5, 'end')]
def b_law_depth : St :=
    (.seq (.forS (.tp (.cons (.nm 3) (.cons (.nm 4) (.cons (.nm 5) .nil)))) (.val (.var 0)) (.seq (.ite (.chain .le .lt (.var 4) (.var 1) (.var 5)) (.seq (.asg 2 (.ite (.cmp .eq (.var 3) (.str "in")) (.bin .add (.var 2) (.int 1)) (.blt .max (.cons (.int 0) (.cons (.bin .sub (.var 2) (.int 1)) .nil)))))
    .skip) .skip)
    .skip))
    (.seq (.ret (.var 2))
    .skip))
def f_law_depth : Fn := ⟨"_law_depth", ["steps", "line", "depth"], ["steps", "line", "depth", "name", "start", "end"], b_law_depth, false⟩
-- _law_first(length, first, second) slots [(0, 'length'), (1, 'first'), (2, 'second'), (3, 'line'), (4, 'depth')]
def b_law_first : St :=
    (.seq (.forS (.nm 3) (.rng1 (.var 0)) (.seq (.forS (.nm 4) (.rng1 (.int 71)) (.seq (.ite (.cmp .ne (.call "_law_depth" (.cons (.var 1) (.cons (.var 3) (.cons (.var 4) .nil)))) (.call "_law_depth" (.cons (.var 2) (.cons (.var 3) (.cons (.var 4) .nil))))) (.seq (.ret (.tup (.cons (.var 3) (.cons (.var 4) .nil))))
    .skip) .skip)
    .skip))
    .skip))
    (.seq (.ret .none)
    .skip))
def f_law_first : Fn := ⟨"_law_first", ["length", "first", "second"], ["length", "first", "second", "line", "depth"], b_law_first, false⟩
-- commute(one, other) slots [(0, 'one'), (1, 'other')]
def b_commute : St :=
    (.seq (.ret (.or (.cmp .eq (.idx (.var 0) (.int 0)) (.idx (.var 1) (.int 0))) (.or (.cmp .le (.idx (.var 0) (.int 2)) (.idx (.var 1) (.int 1))) (.cmp .le (.idx (.var 1) (.int 2)) (.idx (.var 0) (.int 1))))))
    .skip)
def f_commute : Fn := ⟨"commute", ["one", "other"], ["one", "other"], b_commute, false⟩
-- needed_counts(length, script) slots [(0, 'length'), (1, 'script'), (2, 'pairs'), (3, 'shift'), (4, 'floor')]
def b_needed_counts : St :=
    (.seq (.asg 2 (.call "effects" (.cons (.var 0) (.cons (.var 1) .nil))))
    (.seq (.ret (.tup (.cons (.blt .tuple (.cons (.lc [3, 4] (.tp (.cons (.nm 3) (.cons (.nm 4) .nil))) (.val (.var 2)) (.bin .sub (.var 4) (.var 3))) .nil)) (.cons (.blt .tuple (.cons (.lc [3, 4] (.tp (.cons (.nm 3) (.cons (.nm 4) .nil))) (.val (.var 2)) (.var 4)) .nil)) .nil))))
    .skip))
def f_needed_counts : Fn := ⟨"needed_counts", ["length", "script"], ["length", "script", "pairs", "shift", "floor"], b_needed_counts, false⟩
-- fewest_equal(length, script) slots [(0, 'length'), (1, 'script'), (2, 'outs'), (3, 'ins')]
def b_fewest_equal : St :=
    (.seq (.unp (.tp (.cons (.nm 2) (.cons (.nm 3) .nil))) (.call "needed_counts" (.cons (.var 0) (.cons (.var 1) .nil))))
    (.seq (.ret (.call "counts_cost" (.cons (.var 2) (.cons (.var 3) .nil))))
    .skip))
def f_fewest_equal : Fn := ⟨"fewest_equal", ["length", "script"], ["length", "script", "outs", "ins"], b_fewest_equal, false⟩
-- shortest_equal(length, script) slots [(0, 'length'), (1, 'script'), (2, 'outs'), (3, 'ins')]
def b_shortest_equal : St :=
    (.seq (.unp (.tp (.cons (.nm 2) (.cons (.nm 3) .nil))) (.call "needed_counts" (.cons (.var 0) (.cons (.var 1) .nil))))
    (.seq (.ret (.call "script_of" (.cons (.var 2) (.cons (.var 3) .nil))))
    .skip))
def f_shortest_equal : Fn := ⟨"shortest_equal", ["length", "script"], ["length", "script", "outs", "ins"], b_shortest_equal, false⟩
-- _law_pairs(length, steps) slots [(0, 'length'), (1, 'steps'), (2, 'pairs'), (3, 'line'), (4, 'shift'), (5, 'floor'), (6, 'name'), (7, 'start'), (8, 'end')]
def b_law_pairs : St :=
    (.seq (.asgO 2 (.lst .nil))
    (.seq (.forS (.nm 3) (.rng1 (.var 0)) (.seq (.unp (.tp (.cons (.nm 4) (.cons (.nm 5) .nil))) (.tup (.cons (.int 0) (.cons (.int 0) .nil))))
    (.seq (.forS (.tp (.cons (.nm 6) (.cons (.nm 7) (.cons (.nm 8) .nil)))) (.val (.var 1)) (.seq (.ite (.chain .le .lt (.var 7) (.var 3) (.var 8)) (.seq (.asg 4 (.bin .add (.var 4) (.ite (.cmp .eq (.var 6) (.str "in")) (.int 1) (.bin .sub (.int 0) (.int 1)))))
    (.seq (.asg 5 (.ite (.cmp .eq (.var 6) (.str "in")) (.bin .add (.var 5) (.int 1)) (.blt .max (.cons (.int 0) (.cons (.bin .sub (.var 5) (.int 1)) .nil)))))
    .skip)) .skip)
    .skip))
    (.seq (.app 2 (.tup (.cons (.var 4) (.cons (.var 5) .nil))))
    .skip))))
    (.seq (.frz 2)
    (.seq (.ret (.var 2))
    .skip))))
def f_law_pairs : Fn := ⟨"_law_pairs", ["length", "steps"], ["length", "steps", "pairs", "line", "shift", "floor", "name", "start", "end"], b_law_pairs, false⟩
-- _law_fewest_for_two() slots [(0, 'found'), (1, 'front'), (2, 'count'), (3, 'longer'), (4, 'steps'), (5, 'one'), (6, 'pairs')]
def b_law_fewest_for_two : St :=
    (.seq (.par2 0 true (.dic1 (.tup (.cons (.tup (.cons (.int 0) (.cons (.int 0) .nil))) (.cons (.tup (.cons (.int 0) (.cons (.int 0) .nil))) .nil))) (.int 0)) 1 (.lst (.cons (.tup .nil) .nil)))
    (.seq (.forS (.nm 2) (.val (.tup (.cons (.int 1) (.cons (.int 2) (.cons (.int 3) .nil))))) (.seq (.asg 3 (.lst .nil))
    (.seq (.forS (.nm 4) (.val (.var 1)) (.seq (.asg 3 (.bin .add (.var 3) (.lc [5] (.nm 5) (.val (.call "_law_commands" (.cons (.int 2) .nil))) (.bin .add (.var 4) (.tup (.cons (.var 5) .nil))))))
    .skip))
    (.seq (.asg 1 (.var 3))
    (.seq (.forS (.nm 4) (.val (.var 1)) (.seq (.asg 6 (.blt .tuple (.cons (.call "_law_pairs" (.cons (.int 2) (.cons (.var 4) .nil))) .nil)))
    (.seq (.setI 0 (.var 6) (.mt .get (.bor 0) (.cons (.var 6) (.cons (.var 2) .nil))))
    .skip)))
    .skip)))))
    (.seq (.frz 0)
    (.seq (.ret (.tup (.cons (.var 0) (.cons (.var 1) .nil))))
    .skip))))
def f_law_fewest_for_two : Fn := ⟨"_law_fewest_for_two", [], ["found", "front", "count", "longer", "steps", "one", "pairs"], b_law_fewest_for_two, false⟩
-- sources(script, result) slots [(0, 'script'), (1, 'result'), (2, 'ranges'), (3, 'shift'), (4, 'floor'), (5, 'depth')]
def b_sources : St :=
    (.seq (.asgO 2 (.lst .nil))
    (.seq (.forS (.tp (.cons (.tp (.cons (.nm 3) (.cons (.nm 4) .nil))) (.cons (.nm 5) .nil))) (.zip2 (.call "effects" (.cons (.blt .len (.cons (.var 1) .nil)) (.cons (.var 0) .nil))) (.var 1)) (.seq (.ite (.cmp .lt (.var 5) (.var 4)) (.seq (.ret .none)
    .skip) .skip)
    (.seq (.app 2 (.ite (.cmp .eq (.var 5) (.var 4)) (.tup (.cons (.int 0) (.cons (.bin .sub (.var 4) (.var 3)) .nil))) (.tup (.cons (.bin .sub (.var 5) (.var 3)) (.cons (.bin .sub (.var 5) (.var 3)) .nil)))))
    .skip)))
    (.seq (.frz 2)
    (.seq (.ret (.var 2))
    .skip))))
def f_sources : Fn := ⟨"sources", ["script", "result"], ["script", "result", "ranges", "shift", "floor", "depth"], b_sources, false⟩
-- _law_ranges(steps, result) slots [(0, 'steps'), (1, 'result'), (2, 'ranges'), (3, 'line'), (4, 'wanted'), (5, 'good'), (6, 'start'), (7, 'depth'), (8, 'name'), (9, 'first'), (10, 'last')]
def b_law_ranges : St :=
    (.seq (.asgO 2 (.lst .nil))
    (.seq (.forS (.tp (.cons (.nm 3) (.cons (.nm 4) .nil))) (.enm (.var 1)) (.seq (.asg 5 (.lst .nil))
    (.seq (.forS (.nm 6) (.rng1 (.int 61)) (.seq (.asg 7 (.var 6))
    (.seq (.forS (.tp (.cons (.nm 8) (.cons (.nm 9) (.cons (.nm 10) .nil)))) (.val (.var 0)) (.seq (.ite (.chain .le .lt (.var 9) (.var 3) (.var 10)) (.seq (.asg 7 (.ite (.cmp .eq (.var 8) (.str "in")) (.bin .add (.var 7) (.int 1)) (.blt .max (.cons (.int 0) (.cons (.bin .sub (.var 7) (.int 1)) .nil)))))
    .skip) .skip)
    .skip))
    (.seq (.asg 5 (.bin .add (.var 5) (.bin .mul (.lst (.cons (.var 6) .nil)) (.blt .int (.cons (.cmp .eq (.var 7) (.var 4)) .nil)))))
    .skip))))
    (.seq (.ite (.or (.cmp .eq (.var 5) (.lst .nil)) (.cmp .ne (.var 5) (.lrng2 (.idx (.var 5) (.int 0)) (.bin .add (.idx (.var 5) (.neg (.int 1))) (.int 1))))) (.seq (.ret .none)
    .skip) .skip)
    (.seq (.app 2 (.tup (.cons (.idx (.var 5) (.int 0)) (.cons (.idx (.var 5) (.neg (.int 1))) .nil))))
    .skip)))))
    (.seq (.frz 2)
    (.seq (.ret (.var 2))
    .skip))))
def f_law_ranges : Fn := ⟨"_law_ranges", ["steps", "result"], ["steps", "result", "ranges", "line", "wanted", "good", "start", "depth", "name", "first", "last"], b_law_ranges, false⟩
-- all_commands(length) slots [(0, 'length'), (1, 'result'), (2, 'name'), (3, 'start'), (4, 'end')]
def b_all_commands : St :=
    (.seq (.asg 1 (.lst .nil))
    (.seq (.forS (.nm 2) (.val (.tup (.cons (.str "in") (.cons (.str "out") .nil)))) (.seq (.forS (.nm 3) (.rng1 (.var 0)) (.seq (.asg 1 (.bin .add (.var 1) (.lc [4] (.nm 4) (.rng2 (.bin .add (.var 3) (.int 1)) (.bin .add (.var 0) (.int 1))) (.tup (.cons (.var 2) (.cons (.var 3) (.cons (.var 4) .nil)))))))
    .skip))
    .skip))
    (.seq (.ret (.var 1))
    .skip)))
def f_all_commands : Fn := ⟨"all_commands", ["length"], ["length", "result", "name", "start", "end"], b_all_commands, false⟩
-- hidden_commands(text, script, position, result) slots [(0, 'text'), (1, 'script'), (2, 'position'), (3, 'result'), (4, 'before'), (5, 'one')]
def b_hidden_commands : St :=
    (.seq (.asg 4 (.call "apply" (.cons (.var 0) (.cons (.slcH (.var 1) (.var 2)) .nil))))
    (.seq (.retF (.lcIf [5] (.nm 5) (.val (.call "all_commands" (.cons (.blt .len (.cons (.var 0) .nil)) .nil))) (.cmp .eq (.call "apply" (.cons (.call "after" (.cons (.var 4) (.cons (.var 5) .nil))) (.cons (.slcL (.var 1) (.var 2)) .nil))) (.var 3)) (.var 5)))
    .skip))
def f_hidden_commands : Fn := ⟨"hidden_commands", ["text", "script", "position", "result"], ["text", "script", "position", "result", "before", "one"], b_hidden_commands, true⟩
-- count_plans(text, target) slots [(0, 'text'), (1, 'target'), (2, 'ways'), (3, 'steps'), (4, 'turn'), (5, 'longer'), (6, 'one'), (7, 'count'), (8, 'command'), (9, 'other')]
def b_count_plans : St :=
    (.seq (.par2 2 false (.dic1 (.var 0) (.int 1)) 3 (.call "distance" (.cons (.var 0) (.cons (.var 1) .nil))))
    (.seq (.forS (.nm 4) (.rng1 (.var 3)) (.seq (.asgO 5 .dic0)
    (.seq (.forS (.tp (.cons (.nm 6) (.cons (.nm 7) .nil))) (.ditems 2) (.seq (.forS (.nm 8) (.val (.call "all_commands" (.cons (.blt .len (.cons (.var 0) .nil)) .nil))) (.seq (.asg 9 (.call "after" (.cons (.var 6) (.cons (.var 8) .nil))))
    (.seq (.ite (.cmp .eq (.call "distance" (.cons (.var 9) (.cons (.var 1) .nil))) (.bin .sub (.bin .sub (.var 3) (.var 4)) (.int 1))) (.seq (.setI 5 (.var 9) (.bin .add (.mt .get (.bor 5) (.cons (.var 9) (.cons (.int 0) .nil))) (.var 7)))
    .skip) .skip)
    .skip)))
    .skip))
    (.seq (.frz 5)
    (.seq (.asg 2 (.var 5))
    .skip)))))
    (.seq (.ret (.idx (.var 2) (.var 1)))
    .skip)))
def f_count_plans : Fn := ⟨"count_plans", ["text", "target"], ["text", "target", "ways", "steps", "turn", "longer", "one", "count", "command", "other"], b_count_plans, false⟩
-- _law_repeated(items, many) slots [(0, 'items'), (1, 'many'), (2, 'found'), (3, 'item')]
def b_law_repeated : St :=
    (.seq (.asg 2 (.tup .nil))
    (.seq (.forS (.nm 3) (.val (.var 0)) (.seq (.asg 2 (.bin .add (.var 2) (.bin .mul (.tup (.cons (.var 3) .nil)) (.var 1))))
    .skip))
    (.seq (.ret (.var 2))
    .skip)))
def f_law_repeated : Fn := ⟨"_law_repeated", ["items", "many"], ["items", "many", "found", "item"], b_law_repeated, false⟩
-- _law_scripts_right() slots []
def b_law_scripts_right : St :=
    (.seq (.ite (.cmp .ne (.call "effects" (.cons (.int 2) (.cons (.tup (.cons (.tup (.cons (.str "in") (.cons (.int 0) (.cons (.int 2) .nil)))) (.cons (.tup (.cons (.str "out") (.cons (.int 0) (.cons (.int 1) .nil)))) (.cons (.tup (.cons (.str "out") (.cons (.int 0) (.cons (.int 2) .nil)))) .nil)))) .nil))) (.lst (.cons (.tup (.cons (.bin .sub (.int 0) (.int 1)) (.cons (.int 0) .nil))) (.cons (.tup (.cons (.int 0) (.cons (.int 0) .nil))) .nil)))) (.seq (.ret (.bool false))
    .skip) .skip)
    (.seq (.ite (.or (.cmp .ne (.call "difference" (.cons (.int 1) (.cons (.tup (.cons (.tup (.cons (.str "out") (.cons (.int 0) (.cons (.int 1) .nil)))) (.cons (.tup (.cons (.str "in") (.cons (.int 0) (.cons (.int 1) .nil)))) .nil))) (.cons (.tup .nil) .nil)))) (.tup (.cons (.int 0) (.cons (.int 0) .nil)))) (.cmp .ne (.call "difference" (.cons (.int 2) (.cons (.tup (.cons (.tup (.cons (.str "out") (.cons (.int 1) (.cons (.int 2) .nil)))) .nil)) (.cons (.tup .nil) .nil)))) (.tup (.cons (.int 1) (.cons (.int 1) .nil))))) (.seq (.ret (.bool false))
    .skip) .skip)
    (.seq (.ite (.or (.cmp .isn (.call "equal" (.cons (.int 1) (.cons (.tup (.cons (.tup (.cons (.str "in") (.cons (.int 0) (.cons (.int 1) .nil)))) (.cons (.tup (.cons (.str "out") (.cons (.int 0) (.cons (.int 1) .nil)))) .nil))) (.cons (.tup .nil) .nil)))) (.bool true)) (.cmp .isn (.call "commute" (.cons (.tup (.cons (.str "in") (.cons (.int 0) (.cons (.int 2) .nil)))) (.cons (.tup (.cons (.str "out") (.cons (.int 1) (.cons (.int 3) .nil)))) .nil))) (.bool false))) (.seq (.ret (.bool false))
    .skip) .skip)
    (.seq (.ite (.cmp .ne (.call "fewest_equal" (.cons (.int 3) (.cons (.tup (.cons (.tup (.cons (.str "in") (.cons (.int 0) (.cons (.int 3) .nil)))) (.cons (.tup (.cons (.str "out") (.cons (.int 1) (.cons (.int 2) .nil)))) .nil))) .nil))) (.int 2)) (.seq (.ret (.bool false))
    .skip) .skip)
    (.seq (.ite (.cmp .ne (.call "shortest_equal" (.cons (.int 1) (.cons (.tup (.cons (.tup (.cons (.str "out") (.cons (.int 0) (.cons (.int 1) .nil)))) (.cons (.tup (.cons (.str "in") (.cons (.int 0) (.cons (.int 1) .nil)))) (.cons (.tup (.cons (.str "out") (.cons (.int 0) (.cons (.int 1) .nil)))) .nil)))) .nil))) (.tup (.cons (.tup (.cons (.str "out") (.cons (.int 0) (.cons (.int 1) .nil)))) .nil))) (.seq (.ret (.bool false))
    .skip) .skip)
    (.seq (.ret (.and (.cmp .eq (.call "sources" (.cons (.tup (.cons (.tup (.cons (.str "out") (.cons (.int 0) (.cons (.int 2) .nil)))) .nil)) (.cons (.tup (.cons (.int 0) (.cons (.int 1) .nil))) .nil))) (.lst (.cons (.tup (.cons (.int 0) (.cons (.int 1) .nil))) (.cons (.tup (.cons (.int 2) (.cons (.int 2) .nil))) .nil)))) (.cmp .is (.call "sources" (.cons (.tup (.cons (.tup (.cons (.str "in") (.cons (.int 0) (.cons (.int 1) .nil)))) .nil)) (.cons (.tup (.cons (.int 0) .nil)) .nil))) .none)))
    .skip))))))
def f_law_scripts_right : Fn := ⟨"_law_scripts_right", [], [], b_law_scripts_right, false⟩
-- _law_distances_right(left, right) slots [(0, 'left'), (1, 'right'), (2, 'text'), (3, 'wish'), (4, 'steps'), (5, 'wide'), (6, 'goal')]
def b_law_distances_right : St :=
    (.seq (.forS (.tp (.cons (.nm 2) (.cons (.nm 3) (.cons (.nm 4) .nil)))) (.val (.tup (.cons (.tup (.cons (.tup (.cons (.int 0) (.cons (.int 3) (.cons (.int 0) (.cons (.int 3) (.cons (.int 0) .nil)))))) (.cons (.tup (.cons (.int 0) (.cons (.int 0) (.cons (.int 0) (.cons (.int 0) (.cons (.int 0) .nil)))))) (.cons (.int 3) .nil)))) (.cons (.tup (.cons (.tup (.cons (.int 1) (.cons (.int 1) (.cons (.int 1) .nil)))) (.cons (.tup (.cons (.int 2) (.cons .none (.cons (.int 2) .nil)))) (.cons (.int 1) .nil)))) (.cons (.tup (.cons (.tup (.cons (.int 2) (.cons (.int 0) .nil))) (.cons (.tup (.cons (.int 0) (.cons (.int 2) .nil))) (.cons (.int 4) .nil)))) .nil))))) (.seq (.asg 5 (.bin .add (.bin .add (.bin .mul (.tup (.cons (.int 0) .nil)) (.var 0)) (.var 2)) (.bin .mul (.tup (.cons (.int 0) .nil)) (.var 1))))
    (.seq (.asg 6 (.bin .add (.bin .add (.bin .mul (.tup (.cons (.int 0) .nil)) (.var 0)) (.var 3)) (.bin .mul (.tup (.cons (.int 0) .nil)) (.var 1))))
    (.seq (.ite (.cmp .ne (.lst (.cons (.call "distance" (.cons (.var 2) (.cons (.var 3) .nil))) (.cons (.call "distance" (.cons (.var 5) (.cons (.var 6) .nil))) (.cons (.blt .len (.cons (.call "plan" (.cons (.var 5) (.cons (.var 6) .nil))) .nil)) .nil)))) (.bin .mul (.lst (.cons (.var 4) .nil)) (.int 3))) (.seq (.ret (.bool false))
    .skip) .skip)
    .skip))))
    (.seq (.ite (.or (.cmp .ne (.call "best_counts" (.cons (.tup (.cons (.int 2) .nil)) (.cons (.tup (.cons (.int 0) .nil)) .nil))) (.tup (.cons (.tup (.cons (.int 2) .nil)) (.cons (.tup (.cons (.int 0) .nil)) .nil)))) (.cmp .ne (.call "counts_cost" (.cons (.tup (.cons (.int 3) (.cons (.int 3) (.cons (.int 3) (.cons (.int 3) (.cons (.int 3) .nil)))))) (.cons (.tup (.cons (.int 0) (.cons (.int 1) (.cons (.int 0) (.cons (.int 2) (.cons (.int 1) .nil)))))) .nil))) (.int 6))) (.seq (.ret (.bool false))
    .skip) .skip)
    (.seq (.ret (.cmp .is (.call "is_certificate" (.cons (.tup (.cons (.int 0) (.cons (.int 3) (.cons (.int 0) .nil)))) (.cons (.tup (.cons (.int 0) (.cons (.int 0) (.cons (.int 0) .nil)))) (.cons (.tup (.cons (.tup (.cons (.int 3) (.cons (.int 3) (.cons (.int 3) .nil)))) (.cons (.tup (.cons (.int 0) (.cons (.int 0) (.cons (.int 0) .nil)))) .nil))) .nil)))) (.bool true)))
    .skip)))
def f_law_distances_right : Fn := ⟨"_law_distances_right", ["left", "right"], ["left", "right", "text", "wish", "steps", "wide", "goal"], b_law_distances_right, false⟩
end Z

namespace Z.k17
open Z PySem
-- law(script) slots [(0, 'script'), (1, 'index'), (2, 'digits'), (3, 'text'), (4, 'target'), (5, 'wish'), (6, 'depth'), (7, 'digit'), (8, 'size'), (9, 'goal'), (10, 'far'), (11, 'steps'), (12, 'mirrored'), (13, 'name'), (14, 'start'), (15, 'end'), (16, 'doubled')]
def b_law : St :=
    (.seq (.forS (.nm 1) (.rng1 (.int 8)) (.seq (.asg 2 (.call "_law_digits" (.cons (.var 0) (.cons (.var 1) (.cons (.int 130) (.cons (.int 27720) .nil))))))
    (.seq (.asg 3 (.call "_law_text" (.cons (.var 2) (.cons (.int 9) (.cons (.int 20) .nil)))))
    (.seq (.asg 4 (.call "_law_near" (.cons (.slcL (.var 2) (.int 15)) (.cons (.var 3) (.cons (.int 20) .nil)))))
    (.seq (.asg 5 (.blt .tuple (.cons (.lc [6, 7] (.tp (.cons (.nm 6) (.cons (.nm 7) .nil))) (.zip2 (.var 4) (.slcL (.var 2) (.int 40))) (.ite (.cmp .eq (.bin .mod (.var 7) (.int 4)) (.int 0)) .none (.var 6))) .nil)))
    (.seq (.asg 8 (.blt .len (.cons (.var 3) .nil)))
    (.seq (.forS (.nm 9) (.val (.tup (.cons (.var 4) (.cons (.var 5) .nil)))) (.seq (.asg 10 (.call "distance" (.cons (.var 3) (.cons (.var 9) .nil))))
    (.seq (.ite (.cmp .ne (.call "distance" (.cons (.rev (.var 3)) (.cons (.rev (.var 9)) .nil))) (.var 10)) (.seq (.ret (.bool false))
    .skip) .skip)
    (.seq (.ite (.cmp .ne (.call "distance" (.cons (.call "_law_repeated" (.cons (.var 3) (.cons (.int 2) .nil))) (.cons (.call "_law_repeated" (.cons (.var 9) (.cons (.int 2) .nil))) .nil))) (.var 10)) (.seq (.ret (.bool false))
    .skip) .skip)
    .skip))))
    (.seq (.asg 11 (.call "_law_script" (.cons (.slcL (.var 2) (.int 50)) (.cons (.var 8) (.cons (.int 20) .nil)))))
    (.seq (.asg 12 (.blt .tuple (.cons (.lc [13, 14, 15] (.tp (.cons (.nm 13) (.cons (.nm 14) (.cons (.nm 15) .nil)))) (.val (.var 11)) (.tup (.cons (.var 13) (.cons (.bin .sub (.var 8) (.var 15)) (.cons (.bin .sub (.var 8) (.var 14)) .nil))))) .nil)))
    (.seq (.ite (.or (.cmp .ne (.call "apply" (.cons (.rev (.var 3)) (.cons (.var 12) .nil))) (.rev (.call "apply" (.cons (.var 3) (.cons (.var 11) .nil))))) (.cmp .ne (.call "idle" (.cons (.rev (.var 3)) (.cons (.var 12) .nil))) (.call "idle" (.cons (.var 3) (.cons (.var 11) .nil))))) (.seq (.ret (.bool false))
    .skip) .skip)
    (.seq (.ite (.cmp .ne (.call "effects" (.cons (.var 8) (.cons (.var 12) .nil))) (.rev (.call "effects" (.cons (.var 8) (.cons (.var 11) .nil))))) (.seq (.ret (.bool false))
    .skip) .skip)
    (.seq (.asg 16 (.blt .tuple (.cons (.lc [13, 14, 15] (.tp (.cons (.nm 13) (.cons (.nm 14) (.cons (.nm 15) .nil)))) (.val (.var 11)) (.tup (.cons (.var 13) (.cons (.bin .mul (.int 2) (.var 14)) (.cons (.bin .mul (.int 2) (.var 15)) .nil))))) .nil)))
    (.seq (.ite (.cmp .ne (.call "apply" (.cons (.call "_law_repeated" (.cons (.var 3) (.cons (.int 2) .nil))) (.cons (.var 16) .nil))) (.call "_law_repeated" (.cons (.call "apply" (.cons (.var 3) (.cons (.var 11) .nil))) (.cons (.int 2) .nil)))) (.seq (.ret (.bool false))
    .skip) .skip)
    (.seq (.ite (.cmp .ne (.call "fewest_equal" (.cons (.var 8) (.cons (.var 12) .nil))) (.call "fewest_equal" (.cons (.var 8) (.cons (.var 11) .nil)))) (.seq (.ret (.bool false))
    .skip) .skip)
    (.seq (.ite (.cmp .ne (.call "fewest_equal" (.cons (.bin .mul (.int 2) (.var 8)) (.cons (.var 16) .nil))) (.call "fewest_equal" (.cons (.var 8) (.cons (.var 11) .nil)))) (.seq (.ret (.bool false))
    .skip) .skip)
    .skip)))))))))))))))
    (.seq (.ret (.bool true))
    .skip))
def f_law : Fn := ⟨"law", ["script"], ["script", "index", "digits", "text", "target", "wish", "depth", "digit", "size", "goal", "far", "steps", "mirrored", "name", "start", "end", "doubled"], b_law, false⟩
def tab : List Fn := [f_rises, f_choices, f_best_counts, f_counts_cost, f_distance, f_changed, f_after, f_apply, f_idle, f_effects, f_needed_counts, f_fewest_equal, f_law_cell, f_law_digits, f_law_changed, f_law_text, f_law_near, f_law_command, f_law_script, f_law_repeated, f_law]
end Z.k17

namespace Z
open PySem
/-! the plain side: data without bools and dicts -/
mutual
def nbd : D → Bool
  | .none => true
  | .int _ => true
  | .str s => PyData.canLay0 (.str s)
  | .list xs => nbdA xs
  | .tuple xs => nbdA xs
  | _ => false
def nbdA : List D → Bool
  | [] => true
  | x :: xs => nbd x && nbdA xs
end
mutual
theorem nbd_lay : ∀ d : D, nbd d = true → d.canLay0 = true
  | .none, _ => by simp [PyData.canLay0]
  | .int _, _ => by simp [PyData.canLay0]
  | .str s, h => by simpa [nbd, PyData.canLay0] using h
  | .list xs, h => by simp only [PyData.canLay0]; exact nbd_layA xs (by simpa [nbd] using h)
  | .tuple xs, h => by simp only [PyData.canLay0]; exact nbd_layA xs (by simpa [nbd] using h)
  | .bool _, h => by simp [nbd] at h
  | .dict _, h => by simp [nbd] at h
theorem nbd_layA : ∀ xs : List D, nbdA xs = true → PyData.canLayAll0 xs = true
  | [], _ => by simp [PyData.canLayAll0]
  | x :: xs, h => by
    rw [nbdA, Bool.and_eq_true] at h
    rw [PyData.canLayAll0, nbd_lay x h.1, nbd_layA xs h.2]; rfl
end
mutual
theorem eqv_iff : ∀ a b : D, nbd a = true → nbd b = true → (PyData.eqv a b = true ↔ a = b)
  | .none, b, _, hb => by cases b <;> simp_all [PyData.eqv, nbd]
  | .int i, b, _, hb => by cases b <;> simp_all [PyData.eqv, nbd]
  | .str i, b, _, hb => by cases b <;> simp_all [PyData.eqv, nbd]
  | .list xs, b, ha, hb => by
    cases b with
    | list ys => simp only [PyData.eqv, PyData.list.injEq]; exact eqvA_iff xs ys (by simpa [nbd] using ha) (by simpa [nbd] using hb)
    | _ => simp_all [PyData.eqv, nbd]
  | .tuple xs, b, ha, hb => by
    cases b with
    | tuple ys => simp only [PyData.eqv, PyData.tuple.injEq]; exact eqvA_iff xs ys (by simpa [nbd] using ha) (by simpa [nbd] using hb)
    | _ => simp_all [PyData.eqv, nbd]
  | .bool _, _, h, _ => by simp [nbd] at h
  | .dict _, _, h, _ => by simp [nbd] at h
theorem eqvA_iff : ∀ xs ys : List D, nbdA xs = true → nbdA ys = true → (PyData.eqvAll xs ys = true ↔ xs = ys)
  | [], [], _, _ => by simp [PyData.eqvAll]
  | [], _ :: _, _, _ => by simp [PyData.eqvAll]
  | _ :: _, [], _, _ => by simp [PyData.eqvAll]
  | x :: xs, y :: ys, ha, hb => by
    rw [nbdA, Bool.and_eq_true] at ha hb
    rw [PyData.eqvAll, Bool.and_eq_true, eqv_iff x y ha.1 hb.1, eqvA_iff xs ys ha.2 hb.2, List.cons.injEq]
end
structure Okd (n : Nat) (d : D) : Prop where
  nbd : nbd d = true
  dp : d.depth ≤ n
theorem Okd.le {n m : Nat} {d : D} (h : Okd n d) (k : n ≤ m) : Okd m d := ⟨h.nbd, Nat.le_trans h.dp k⟩
theorem Okd.shp {n : Nat} {d : D} (h : Okd n d) (k : n ≤ 64 := by decide) : Shp d := ⟨nbd_lay d h.nbd, Nat.le_trans h.dp k⟩
theorem ok_int (i : Int) : Okd 0 (.int i) := ⟨rfl, by simp [PyData.depth]⟩
theorem ok_none : Okd 0 .none := ⟨rfl, by simp [PyData.depth]⟩
theorem okA {n : Nat} : ∀ {ds : List D}, (∀ d ∈ ds, Okd n d) → nbdA ds = true ∧ PyData.depthAll ds ≤ n
  | [], _ => ⟨by simp [nbdA], by simp [PyData.depthAll]⟩
  | d :: ds, h => by
    have h1 := h d List.mem_cons_self
    have h2 := okA (ds := ds) fun x hx => h x (List.mem_cons_of_mem _ hx)
    refine ⟨by rw [nbdA, h1.nbd, h2.1]; rfl, ?_⟩
    rw [PyData.depthAll]
    exact Nat.max_le.mpr ⟨h1.dp, h2.2⟩
theorem ok_tup {n : Nat} {ds : List D} (h : ∀ d ∈ ds, Okd n d) : Okd (n + 1) (.tuple ds) := ⟨by rw [nbd]; exact (okA h).1, by rw [PyData.depth]; exact Nat.succ_le_succ (okA h).2⟩
theorem ok_lst {n : Nat} {ds : List D} (h : ∀ d ∈ ds, Okd n d) : Okd (n + 1) (.list ds) := ⟨by rw [nbd]; exact (okA h).1, by rw [PyData.depth]; exact Nat.succ_le_succ (okA h).2⟩
theorem ok_map {α : Type} {n : Nat} {f : α → D} {xs : List α} (h : ∀ x ∈ xs, Okd n (f x)) : ∀ d ∈ xs.map f, Okd n d := fun d hd => by
  obtain ⟨x, hx, rfl⟩ := List.mem_map.mp hd
  exact h x hx
abbrev tupI (ns : List Int) : D := .tuple (ns.map PyData.int)
abbrev lstI (ns : List Int) : D := .list (ns.map PyData.int)
theorem lstI_snoc (l : List Int) (x : Int) : lstI (l ++ [x]) = .list (l.map PyData.int ++ [.int x]) := by rw [lstI, List.map_append]; rfl
theorem tupI_snoc (l : List Int) (x : Int) : tupI (l ++ [x]) = .tuple (l.map PyData.int ++ [.int x]) := by rw [tupI, List.map_append]; rfl
theorem ok_tupI (ns : List Int) : Okd 1 (tupI ns) := ok_tup (ok_map fun x _ => ok_int x)
theorem ok_lstI (ns : List Int) : Okd 1 (lstI ns) := ok_lst (ok_map fun x _ => ok_int x)
theorem int_inj {a b : Int} : PyData.int a = PyData.int b ↔ a = b := by rw [PyData.int.injEq]
theorem map_int_inj {a b : List Int} : a.map PyData.int = b.map PyData.int ↔ a = b := List.map_inj_right fun x y h => PyData.int.inj h
theorem tupI_inj {a b : List Int} : tupI a = tupI b ↔ a = b := by rw [PyData.tuple.injEq, map_int_inj]
theorem lstI_inj {a b : List Int} : lstI a = lstI b ↔ a = b := by rw [PyData.list.injEq, map_int_inj]
/-- ==, told by a truth value -/
theorem eqW_by {a b : D} {Q : Bool → Prop} {n m : Nat} (c : Bool) (ha : Okd n a) (hb : Okd m b) (hc : c = true ↔ a = b) (q : Q c) (hn : n ≤ 64 := by decide) (hm : m ≤ 64 := by decide) : eqW a b Q := by
  have e : PyData.eqv a b = c := by
    rw [Bool.eq_iff_iff, eqv_iff a b ha.nbd hb.nbd, hc]
  have key : (Shp a ∧ Shp b) ∧ Q (PyData.eqv a b) := ⟨⟨ha.shp hn, hb.shp hm⟩, by rw [e]; exact q⟩
  unfold eqW
  split
  · have := ha.nbd; simp [nbd] at this
  · exact key
theorem eqvE {a b : D} {n m : Nat} (c : Bool) (ha : Okd n a) (hb : Okd m b) (hc : c = true ↔ a = b) : PyData.eqv a b = c := by
  rw [Bool.eq_iff_iff, eqv_iff a b ha.nbd hb.nbd, hc]
theorem inT_by {a : D} {xs : List D} {Q : Bool → Prop} {n m : Nat} (c : Bool) (ha : Okd n a) (hb : ∀ x ∈ xs, Okd m x) (hc : c = true ↔ a ∈ xs) (q : Q c) (hn : n ≤ 64 := by decide) (hm : m + 1 ≤ 64 := by decide) : inW a (.tuple xs) Q ∧ inW a (.list xs) Q := by
  have e : (xs.any fun x => PyData.eqv x a) = c := by
    rw [Bool.eq_iff_iff, hc, List.any_eq_true]
    constructor
    · rintro ⟨x, hx, h⟩
      rw [(eqv_iff x a (hb x hx).nbd ha.nbd).mp h] at hx
      exact hx
    · exact fun h => ⟨a, h, (eqv_iff a a ha.nbd ha.nbd).mpr rfl⟩
  exact ⟨⟨⟨ha.shp hn, (ok_tup hb).shp hm⟩, by rw [e]; exact q⟩, ⟨⟨ha.shp hn, (ok_lst hb).shp hm⟩, by rw [e]; exact q⟩⟩
/-! loops -/
theorem SlLe.refl : ∀ s : Sl, SlLe s s
  | .any => trivial
  | .sh _ => rfl
  | .ow _ => rfl
theorem EnLe.refl : ∀ e : En, EnLe e e
  | [] => trivial
  | s :: e => ⟨SlLe.refl s, EnLe.refl e⟩
theorem SlLe.any (s : Sl) : SlLe s .any := by cases s <;> trivial
/-- a for by what stands at each turn -/
theorem for_by {F : FT} {tg : Tg} {body : St} {e : En} {P : Po} {ds : List D} (env : Nat → En) (h0 : EnLe e (env 0)) (step : ∀ i d, ds[i]? = some d → bindT tg d (env i) fun e2 => wpB F body e2 ⟨fun e3 => EnLe e3 (env (i + 1)), P.rt⟩) (fin : P.nx (env ds.length)) :
    ∃ W : Nat → En → Prop, (∃ e0, EnLe e e0 ∧ W 0 e0) ∧ (∀ i d e1, ds[i]? = some d → W i e1 → bindT tg d e1 fun e2 => wpB F body e2 ⟨fun e3 => ∃ e4, EnLe e3 e4 ∧ W (i + 1) e4, P.rt⟩) ∧ ∀ e1, W ds.length e1 → P.nx e1 := by
  refine ⟨fun i e => e = env i, ⟨env 0, h0, rfl⟩, ?_, fun e1 h => by rw [h]; exact fin⟩
  rintro i d e1 hd rfl
  have s := step i d hd
  have w : (fun e3 => ∃ e4, EnLe e3 e4 ∧ e4 = env (i + 1)) = fun e3 => EnLe e3 (env (i + 1)) := by
    funext e3
    exact propext ⟨fun ⟨e4, h1, h2⟩ => h2 ▸ h1, fun h => ⟨_, h, rfl⟩⟩
  rw [w]
  exact s
/-- .. items of a Lean type -/
theorem for_map {α : Type} {F : FT} {tg : Tg} {body : St} {e : En} {P : Po} (xs : List α) (f : α → D) (env : Nat → En) (h0 : EnLe e (env 0)) (step : ∀ i x, xs[i]? = some x → bindT tg (f x) (env i) fun e2 => wpB F body e2 ⟨fun e3 => EnLe e3 (env (i + 1)), P.rt⟩) (fin : P.nx (env xs.length)) :
    ∃ W : Nat → En → Prop, (∃ e0, EnLe e e0 ∧ W 0 e0) ∧ (∀ i d e1, (xs.map f)[i]? = some d → W i e1 → bindT tg d e1 fun e2 => wpB F body e2 ⟨fun e3 => ∃ e4, EnLe e3 e4 ∧ W (i + 1) e4, P.rt⟩) ∧ ∀ e1, W (xs.map f).length e1 → P.nx e1 := by
  refine for_by (ds := xs.map f) env h0 (fun i d hd => ?_) (by rw [List.length_map]; exact fin)
  rw [List.getElem?_map] at hd
  cases hx : xs[i]? with
  | none => rw [hx] at hd; cases hd
  | some x =>
    rw [hx] at hd
    cases hd
    exact step i x hx
theorem for_rng {F : FT} {tg : Tg} {body : St} {e : En} {P : Po} {lo : Int} {n : Nat} (env : Nat → En) (h0 : EnLe e (env 0)) (step : ∀ i, i < n → bindT tg (.int (lo + (i : Nat))) (env i) fun e2 => wpB F body e2 ⟨fun e3 => EnLe e3 (env (i + 1)), P.rt⟩) (fin : P.nx (env n)) :
    ∃ W : Nat → En → Prop, (∃ e0, EnLe e e0 ∧ W 0 e0) ∧ (∀ i d e1, (rngD lo n)[i]? = some d → W i e1 → bindT tg d e1 fun e2 => wpB F body e2 ⟨fun e3 => ∃ e4, EnLe e3 e4 ∧ W (i + 1) e4, P.rt⟩) ∧ ∀ e1, W (rngD lo n).length e1 → P.nx e1 := by
  have hl : (rngD lo n).length = n := by simp [rngD]
  refine for_by (ds := rngD lo n) env h0 (fun i d hd => ?_) (by rw [hl]; exact fin)
  have hi : i < n := by
    have := (List.getElem?_eq_some_iff.mp hd).1
    omega
  have : d = .int (lo + (i : Nat)) := by
    simp [rngD, hi] at hd
    exact hd.symm
  subst this
  exact step i hi
/-! reading -/
theorem cut_map {α β : Type} (f : α → β) (xs : List α) (lo hi : Option Int) : cut (xs.map f) lo hi = (cut xs lo hi).map f := by
  simp [cut, List.map_drop, List.map_take]
theorem atI_map {α β : Type} (f : α → β) (xs : List α) (i : Int) : atI (xs.map f) i = (atI xs i).map f := by
  unfold atI
  rw [List.length_map]
  cases ixN xs.length i with
  | none => rfl
  | some j => simp
theorem atI_nat {α : Type} {xs : List α} {i : Nat} {x : α} (h : xs[i]? = some x) : atI xs (i : Int) = some x := by
  have hi := (List.getElem?_eq_some_iff.mp h).1
  unfold atI ixN
  rw [if_pos (by omega), if_pos (by omega)]
  simpa using h
theorem atI_last {α : Type} {xs : List α} {x : α} : atI (xs ++ [x]) (-1) = some x := by
  unfold atI ixN
  rw [if_neg (by omega), if_pos (by rw [List.length_append]; simp; omega)]
  have : ((-1 : Int) + ((xs ++ [x]).length : Nat)).toNat = xs.length := by rw [List.length_append, List.length_singleton]; omega
  rw [Option.bind_some, this]
  simp
theorem cut_nat {α : Type} (xs : List α) (a b : Nat) : cut xs (some (a : Int)) (some (b : Int)) = (xs.drop a).take (b - a) := by
  unfold cut sIx
  simp only
  rw [if_neg (by omega), if_neg (by omega), Int.toNat_natCast, Int.toNat_natCast]
  by_cases ha : a ≤ xs.length
  · rw [Nat.min_eq_left ha]
    by_cases hb : b ≤ xs.length
    · rw [Nat.min_eq_left hb]
    · rw [Nat.min_eq_right (by omega), List.take_of_length_le (by rw [List.length_drop]; omega), List.take_of_length_le (by rw [List.length_drop]; omega)]
  · rw [Nat.min_eq_right (a := a) (by omega), List.drop_of_length_le (Nat.le_refl _), List.drop_of_length_le (l := xs) (i := a) (by omega)]
    simp
theorem cut_lo {α : Type} (xs : List α) (a : Nat) : cut xs (some (a : Int)) .none = xs.drop a := by
  unfold cut sIx
  simp only
  rw [if_neg (by omega), Int.toNat_natCast]
  by_cases ha : a ≤ xs.length
  · rw [Nat.min_eq_left ha, List.take_of_length_le (by rw [List.length_drop]; omega)]
  · rw [Nat.min_eq_right (by omega), List.drop_of_length_le (Nat.le_refl _), List.drop_of_length_le (by omega)]
    simp
theorem cut_hi {α : Type} (xs : List α) (b : Nat) : cut xs .none (some (b : Int)) = xs.take b := by
  unfold cut sIx
  simp only
  rw [if_neg (by omega), Int.toNat_natCast, List.drop_zero, Nat.sub_zero]
  by_cases hb : b ≤ xs.length
  · rw [Nat.min_eq_left hb]
  · rw [Nat.min_eq_right (by omega), List.take_of_length_le (Nat.le_refl _), List.take_of_length_le (by omega)]
theorem ixN_nat {n j : Nat} (h : j < n) : ixN n (j : Int) = some j := by
  unfold ixN
  rw [if_pos (by omega), if_pos (by omega), Int.toNat_natCast]
/-- what a def of a table does -/
theorem run_of {T : List Fn} {k : Nat} {f : String} {x : Fn} {ds : List D} {Q : D → Prop} (h : T.find? (fun x => x.name == f) = some x) (hl : ds.length = x.ps.length) (hw : wpB (FW T k) x.body (ent x.ns.length ds) ⟨fun _ => Q .none, Q⟩) : FW T (k + 1) f ds Q := by
  unfold FW
  rw [h]
  exact ⟨hl, hw⟩
end Z

namespace Z
open PySem
/-! commands -/
structure Cmd where
  inn : Bool
  s : Nat
  e : Nat
deriving DecidableEq
abbrev nmD (b : Bool) : D := .str (if b then Str.ofString "in" else Str.ofString "out")
abbrev cmdD (c : Cmd) : D := .tuple [nmD c.inn, .int c.s, .int c.e]
abbrev scrD (cs : List Cmd) : D := .tuple (cs.map cmdD)
theorem ok_nm (b : Bool) : Okd 0 (nmD b) := by cases b <;> exact ⟨by decide +kernel, by decide +kernel⟩
theorem nm_inj {a b : Bool} : nmD a = nmD b ↔ a = b := by
  have h : (Str.ofString "in" = Str.ofString "out") = False := by simp only [eq_iff_iff, iff_false]; decide +kernel
  cases a <;> cases b <;> simp [nmD, h, eq_comm]
theorem ok_cmd (c : Cmd) : Okd 1 (cmdD c) := ok_tup fun d hd => by
  simp only [List.mem_cons, List.not_mem_nil, or_false] at hd
  rcases hd with rfl | rfl | rfl
  · exact ok_nm _
  · exact ok_int _
  · exact ok_int _
theorem cmd_inj {a b : Cmd} : cmdD a = cmdD b ↔ a = b := by
  constructor
  · intro h
    simp only [cmdD, PyData.tuple.injEq, List.cons.injEq, PyData.int.injEq] at h
    obtain ⟨h1, h2, h3, _⟩ := h
    cases a; cases b
    have := nm_inj.mp h1
    simp only at h2 h3
    simp only [Cmd.mk.injEq]
    exact ⟨this, by omega, by omega⟩
  · rintro rfl; rfl
theorem ok_scr (cs : List Cmd) : Okd 2 (scrD cs) := ok_tup (ok_map fun x _ => ok_cmd x)
theorem eqv_in (b : Bool) : PyData.eqv (nmD b) (.str (Str.ofString "in")) = b := eqvE (a := nmD b) (b := nmD true) b (ok_nm b) (ok_nm true) (by rw [nm_inj])
theorem ok_in : Okd 0 (.str (Str.ofString "in")) := ok_nm true
theorem ok_out : Okd 0 (.str (Str.ofString "out")) := ok_nm false
def stepI (b : Bool) (x : Int) : Int := if b then x + 1 else max 0 (x - 1)
def afterI (t : List Int) (c : Cmd) : List Int := t.take c.s ++ ((t.drop c.s).take (c.e - c.s)).map (stepI c.inn) ++ t.drop c.e
def applyI (t : List Int) (cs : List Cmd) : List Int := cs.foldl afterI t
def SpChanged (F : FT) : Prop := ∀ x b Q, Q (.int (stepI b x)) → F "changed" [.int x, nmD b] Q
def SpAfter (F : FT) : Prop := ∀ t c Q, t.length ≤ 1000 → Q (tupI (afterI t c)) → F "after" [tupI t, cmdD c] Q
def SpApply (F : FT) : Prop := ∀ t cs Q, t.length ≤ 1000 → (∀ c ∈ cs, c.s ≤ c.e) → Q (tupI (applyI t cs)) → F "apply" [tupI t, scrD cs] Q
theorem after_len {t : List Int} {c : Cmd} (h : c.s ≤ c.e) : (afterI t c).length = t.length := by
  simp only [afterI, List.length_append, List.length_map, List.length_take, List.length_drop]
  omega
theorem apply_len {cs : List Cmd} : ∀ {t : List Int}, (∀ c ∈ cs, c.s ≤ c.e) → (applyI t cs).length = t.length := by
  induction cs with
  | nil => intro t _; rfl
  | cons c cs ih =>
    intro t h
    show (applyI (afterI t c) cs).length = _
    rw [ih fun x hx => h x (List.mem_cons_of_mem _ hx), after_len (h c List.mem_cons_self)]
section
variable {F : FT}
theorem w_changed (x : Int) (b : Bool) {Q : D → Prop} (q : Q (.int (stepI b x))) : wpB F b_changed (ent 2 [.int x, nmD b]) ⟨fun _ => Q .none, Q⟩ := by
  refine ⟨⟨(ok_nm b).shp, (ok_nm true).shp⟩, ?_⟩
  rw [eqv_in b]
  cases b
  · exact q
  · exact q
theorem w_after (hc : SpChanged F) (t : List Int) (c : Cmd) {Q : D → Prop} (hl : t.length ≤ 1000) (q : Q (tupI (afterI t c))) : wpB F b_after (ent 6 [tupI t, cmdD c]) ⟨fun _ => Q .none, Q⟩ := by
  show ∃ f : D → D, _
  refine ⟨fun d => match d with | .int x => .int (stepI c.inn x) | _ => .none, ?_, ?_, ?_, ?_⟩
  · intro d hd
    rw [cut_map] at hd
    obtain ⟨x, _, rfl⟩ := List.mem_map.mp hd
    exact hc x c.inn _ rfl
  · rw [cut_map, List.length_map, cut_nat, List.length_take, List.length_drop]
    show _ ≤ 16777216
    omega
  · rw [cut_map, cut_map, cut_nat, cut_hi]
    simp only [List.length_map, List.length_take, List.length_drop]
    show _ ≤ 16777216
    omega
  · refine ⟨?_, ?_⟩
    · rw [cut_map, cut_map, cut_map, cut_nat, cut_hi, cut_lo]
      simp only [List.length_append, List.length_map, List.length_take, List.length_drop]
      show _ ≤ 16777216
      omega
    · rw [cut_map, cut_map, cut_map, cut_nat, cut_hi, cut_lo]
      have e : (List.map PyData.int (List.take c.s t) ++ List.map (fun d => match d with | .int x => PyData.int (stepI c.inn x) | _ => .none) (List.map PyData.int (List.take (c.e - c.s) (List.drop c.s t))) ++ List.map PyData.int (List.drop c.e t)) = (afterI t c).map PyData.int := by
        simp only [afterI, List.map_append, List.map_map]
        rfl
      have q' := q
      rw [tupI, ← e] at q'
      exact q'
theorem w_apply (ha : SpAfter F) (t : List Int) (cs : List Cmd) {Q : D → Prop} (hl : t.length ≤ 1000) (hs : ∀ c ∈ cs, c.s ≤ c.e) (q : Q (tupI (applyI t cs))) : wpB F b_apply (ent 3 [tupI t, scrD cs]) ⟨fun _ => Q .none, Q⟩ := by
  refine for_map cs cmdD (fun i => [.sh (tupI (applyI t (cs.take i))), .sh (scrD cs), .any]) (EnLe.refl _) (fun i c hc => ?_) ?_
  · refine ha _ _ _ ?_ ?_
    · rw [apply_len fun x hx => hs x (List.mem_of_mem_take hx)]; exact hl
    · obtain ⟨hi, e⟩ := List.getElem?_eq_some_iff.mp hc
      refine ⟨?_, rfl, SlLe.any _, trivial⟩
      show tupI _ = tupI _
      rw [List.take_succ_eq_append_getElem hi, e]
      simp [applyI]
  · show Q _
    rw [List.take_length]
    exact q
/-- the places where a command changes nothing -/
def idleI : List Int → List Cmd → Nat → List Int
  | _, [], _ => []
  | t, c :: cs, k => (if afterI t c = t then [(k : Int)] else []) ++ idleI (afterI t c) cs (k + 1)
theorem idle_snoc (c : Cmd) : ∀ (cs : List Cmd) (t : List Int) (k : Nat), idleI t (cs ++ [c]) k = idleI t cs k ++ (if afterI (applyI t cs) c = applyI t cs then [((k + cs.length : Nat) : Int)] else [])
  | [], t, k => by
    show (if afterI t c = t then [(k : Int)] else []) ++ [] = [] ++ (if afterI t c = t then [(k : Int)] else [])
    rw [List.append_nil, List.nil_append]
  | d :: cs, t, k => by
    show (if afterI t d = t then [(k : Int)] else []) ++ idleI (afterI t d) (cs ++ [c]) (k + 1) = _
    rw [idle_snoc c cs (afterI t d) (k + 1)]
    show _ = (if afterI t d = t then [(k : Int)] else []) ++ idleI (afterI t d) cs (k + 1) ++ (if afterI (applyI (afterI t d) cs) c = applyI (afterI t d) cs then _ else _)
    rw [List.append_assoc, List.length_cons, show k + 1 + cs.length = k + (cs.length + 1) by omega]
theorem idle_len : ∀ (cs : List Cmd) (t : List Int) (k : Nat), (idleI t cs k).length ≤ cs.length
  | [], t, k => Nat.le_refl _
  | d :: cs, t, k => by
    have := idle_len cs (afterI t d) (k + 1)
    simp only [idleI, List.length_append, List.length_cons]
    split <;> simp <;> omega
theorem take_snoc {α : Type} {xs : List α} {i : Nat} {x : α} (h : xs[i]? = some x) : xs.take (i + 1) = xs.take i ++ [x] := by
  obtain ⟨hi, e⟩ := List.getElem?_eq_some_iff.mp h
  rw [List.take_succ_eq_append_getElem hi, e]
theorem apply_snoc (t : List Int) (cs : List Cmd) (c : Cmd) : applyI t (cs ++ [c]) = afterI (applyI t cs) c := by simp [applyI]
def SpIdle (F : FT) : Prop := ∀ t cs Q, t.length ≤ 1000 → cs.length ≤ 1000 → (∀ c ∈ cs, c.s ≤ c.e) → Q (lstI (idleI t cs 0)) → F "idle" [tupI t, scrD cs] Q
/-- enumerate -/
theorem for_enm {α : Type} {F : FT} {tg : Tg} {body : St} {e : En} {P : Po} (xs : List α) (f : α → D) (env : Nat → En) (h0 : EnLe e (env 0)) (step : ∀ i x, xs[i]? = some x → bindT tg (.tuple [.int (i : Nat), f x]) (env i) fun e2 => wpB F body e2 ⟨fun e3 => EnLe e3 (env (i + 1)), P.rt⟩) (fin : P.nx (env xs.length)) :
    ∃ W : Nat → En → Prop, (∃ e0, EnLe e e0 ∧ W 0 e0) ∧ (∀ i d e1, (enumD (xs.map f))[i]? = some d → W i e1 → bindT tg d e1 fun e2 => wpB F body e2 ⟨fun e3 => ∃ e4, EnLe e3 e4 ∧ W (i + 1) e4, P.rt⟩) ∧ ∀ e1, W (enumD (xs.map f)).length e1 → P.nx e1 := by
  have hl : (enumD (xs.map f)).length = xs.length := by simp [enumD]
  refine for_by (ds := enumD (xs.map f)) env h0 (fun i d hd => ?_) (by rw [hl]; exact fin)
  have hi : i < xs.length := by
    have := (List.getElem?_eq_some_iff.mp hd).1
    omega
  have : d = .tuple [.int (i : Nat), f xs[i]] := by
    simp [enumD, hi] at hd
    exact hd.symm
  subst this
  exact step i _ (List.getElem?_eq_getElem hi)
theorem w_idle (ha : SpAfter F) (t : List Int) (cs : List Cmd) {Q : D → Prop} (hl : t.length ≤ 1000) (hcs : cs.length ≤ 1000) (hs : ∀ c ∈ cs, c.s ≤ c.e) (q : Q (lstI (idleI t cs 0))) : wpB F b_idle (ent 5 [tupI t, scrD cs]) ⟨fun _ => Q .none, Q⟩ := by
  refine ⟨rfl, ?_⟩
  refine for_enm cs cmdD (fun i => [.sh (tupI (applyI t (cs.take i))), .sh (scrD cs), .ow (lstI (idleI t (cs.take i) 0)), .any, .any]) (EnLe.refl _) (fun i c hc => ?_) ?_
  · have l1 : (applyI t (cs.take i)).length ≤ 1000 := by rw [apply_len fun x hx => hs x (List.mem_of_mem_take hx)]; exact hl
    obtain ⟨hi, _⟩ := List.getElem?_eq_some_iff.mp hc
    have hil : (cs.take i).length = i := by rw [List.length_take]; omega
    refine ha _ _ _ l1 ⟨⟨(ok_tupI _).shp, (ok_tupI _).shp⟩, ?_⟩
    rw [eqvE (decide (afterI (applyI t (cs.take i)) c = applyI t (cs.take i))) (ok_tupI _) (ok_tupI _) (by rw [decide_eq_true_eq, tupI_inj])]
    have next : ∀ r, lstI r = lstI (idleI t (cs.take (i + 1)) 0) → wpB F (.seq (.asg 0 (.call "after" (.cons (.var 0) (.cons (.var 4) .nil)))) .skip) [.sh (tupI (applyI t (cs.take i))), .sh (scrD cs), .ow (lstI r), .sh (.int (i : Nat)), .sh (cmdD c)] ⟨fun e3 => EnLe e3 [.sh (tupI (applyI t (cs.take (i + 1)))), .sh (scrD cs), .ow (lstI (idleI t (cs.take (i + 1)) 0)), .any, .any], Q⟩ := fun r hr => by
      refine ha _ _ _ l1 ⟨?_, rfl, hr, SlLe.any _, SlLe.any _, trivial⟩
      show tupI _ = tupI _
      rw [take_snoc hc, apply_snoc]
    by_cases hq : afterI (applyI t (cs.take i)) c = applyI t (cs.take i)
    · rw [decide_eq_true hq]
      refine ⟨?_, ?_⟩
      · have := idle_len (cs.take i) t 0
        rw [List.length_map]
        show _ < 16777216
        omega
      · have e : lstI (idleI t (cs.take (i + 1)) 0) = .list ((idleI t (cs.take i) 0).map PyData.int ++ [.int (i : Nat)]) := by
          rw [take_snoc hc, idle_snoc, if_pos hq, lstI, List.map_append, hil]
          simp
        have n := next (idleI t (cs.take (i + 1)) 0) rfl
        rw [e] at n ⊢
        exact n
    · rw [decide_eq_false hq]
      refine next _ ?_
      rw [take_snoc hc, idle_snoc, if_neg hq, List.append_nil]
  · refine ⟨rfl, ?_⟩
    rw [List.take_length]
    exact q
end
end Z

namespace Z
open PySem
/-! the laws' own helpers -/
def primesI : List Int := [2147483647, 2147483629, 2147483587, 2147483579, 2147483563, 2147483549, 2147483543, 2147483497]
theorem prime_at (j : Int) : ∃ p : Int, atI (primesI.map PyData.int) (j % 8) = some (.int p) ∧ 0 < p ∧ p < 2147483648 := by
  have h : j % 8 = 0 ∨ j % 8 = 1 ∨ j % 8 = 2 ∨ j % 8 = 3 ∨ j % 8 = 4 ∨ j % 8 = 5 ∨ j % 8 = 6 ∨ j % 8 = 7 := by omega
  rcases h with h | h | h | h | h | h | h | h <;> rw [h] <;> exact ⟨_, rfl, by decide, by decide⟩
def SpCell (F : FT) : Prop := ∀ ns i Q, 0 ≤ i → i < 1000000 → (∀ c : Int, Q (.int c)) → F "_law_cell" [lstI ns, .int i] Q
def SpDigits (F : FT) : Prop := ∀ ns i (n : Nat) (base : Int) Q, 0 ≤ i → i < 1000000 → n ≤ 1000 → 0 < base → base < 1073741824 → (∀ l : List Int, l.length = n → (∀ x ∈ l, 0 ≤ x ∧ x < base) → Q (lstI l)) → F "_law_digits" [lstI ns, .int i, .int n, .int base] Q
section
variable {F : FT}
theorem w_cell (ns : List Int) (i : Int) {Q : D → Prop} (h0 : 0 ≤ i) (h1 : i < 1000000) (q : ∀ c : Int, Q (.int c)) : wpB F b_law_cell (ent 2 [lstI ns, .int i]) ⟨fun _ => Q .none, Q⟩ := by
  have at0 : ∀ j : Int, 0 ≤ j → j < ns.length → ∃ c, atI (ns.map PyData.int) j = some (.int c) := fun j hj hl => by
    have := atI_nat (xs := ns.map PyData.int) (i := j.toNat) (x := .int (ns[j.toNat]'(by omega))) (by rw [List.getElem?_map, List.getElem?_eq_getElem (by omega)]; rfl)
    rw [show ((j.toNat : Nat) : Int) = j by omega] at this
    exact ⟨_, this⟩
  show if decide (i < ((ns.map PyData.int).length : Nat)) = true then _ else _
  rw [List.length_map]
  by_cases hi : i < (ns.length : Int)
  · rw [if_pos (decide_eq_true hi)]
    obtain ⟨c, hc⟩ := at0 i h0 hi
    exact ⟨_, hc, q c⟩
  · rw [if_neg (by simpa using hi)]
    refine ⟨⟨(ok_int _).shp, (ok_int _).shp⟩, ?_⟩
    rw [List.length_map, eqvE (decide ((ns.length : Int) = 0)) (ok_int _) (ok_int _) (by rw [decide_eq_true_eq, int_inj])]
    by_cases hz : (ns.length : Int) = 0
    · rw [decide_eq_true hz]
      exact ⟨.inl ⟨by decide, by decide⟩, q _⟩
    · rw [decide_eq_false hz]
      have hp : 0 < ((ns.map PyData.int).length : Int) := by rw [List.length_map]; omega
      obtain ⟨c, hc⟩ := at0 (i % (ns.length : Int)) (Int.emod_nonneg _ hz) (Int.emod_lt_of_pos _ (by omega))
      refine ⟨hp, .int c, ?_, by decide, .inl ⟨by decide, by decide⟩, q _⟩
      rw [List.length_map]
      exact hc
theorem small_mul {i j : Int} (h : -18446744073709551616 < i ∧ i < 18446744073709551616) : (-(2 ^ 64) < i ∧ i < 2 ^ 64) ∨ (-(2 ^ 64) < j ∧ j < 2 ^ 64) := .inl ⟨h.1, h.2⟩
theorem emb {z p : Int} (h : 0 < p) (k : p < 2147483648) : -18446744073709551616 < z % p ∧ z % p < 18446744073709551616 := by
  have m1 := Int.emod_nonneg z (show p ≠ 0 by omega)
  have m2 := Int.emod_lt_of_pos z h
  omega
theorem emm {z p : Int} (h : 0 < p) (k : p < 2147483648) : -18446744073709551616 < z % p * (z % p) ∧ z % p * (z % p) < 18446744073709551616 := by
  have m1 := Int.emod_nonneg z (show p ≠ 0 by omega)
  have m2 := Int.emod_lt_of_pos z h
  have m5 : 0 ≤ z % p * (z % p) := Int.mul_nonneg m1 m1
  have m6 : z % p * (z % p) ≤ 2147483648 * 2147483648 := Int.mul_le_mul (by omega) (by omega) m1 (by decide)
  omega
theorem w_digits (hc : SpCell F) (ns : List Int) (i : Int) (n : Nat) (base : Int) {Q : D → Prop} (h0 : 0 ≤ i) (h1 : i < 1000000) (hn : n ≤ 1000) (hb : 0 < base) (hb2 : base < 1073741824) (q : ∀ l : List Int, l.length = n → (∀ x ∈ l, 0 ≤ x ∧ x < base) → Q (lstI l)) :
    wpB F b_law_digits (ent 10 [lstI ns, .int i, .int n, .int base]) ⟨fun _ => Q .none, Q⟩ := by
  refine hc _ _ _ h0 h1 fun c => ?_
  refine ⟨⟨by decide, by decide, by decide⟩, ?_⟩
  have key : ∀ r0 : Int, 0 ≤ r0 → wpB F (.seq (.asgO 7 (.lst .nil))
    (.seq (.forS (.nm 8) (.rng1 (.var 2)) (.seq (.asg 9 (.bin .mul (.bin .mod (.var 5) (.idx (.var 4) (.bin .mod (.var 8) (.int 8)))) (.bin .add (.int 48271) (.bin .mul (.bin .mul (.int 2) (.var 8)) (.var 8)))))
    (.seq (.asg 9 (.bin .add (.bin .add (.var 9) (.bin .mul (.bin .mul (.int 7919) (.bin .add (.var 8) (.int 1))) (.bin .add (.var 8) (.int 1)))) (.bin .mul (.int 104729) (.var 1))))
    (.seq (.asg 9 (.bin .mod (.var 9) (.idx (.var 4) (.bin .mod (.bin .add (.bin .mul (.int 3) (.var 8)) (.var 1)) (.int 8)))))
    (.seq (.asg 9 (.bin .mod (.bin .mul (.bin .mul (.var 9) (.var 9)) (.var 9)) (.idx (.var 4) (.bin .mod (.bin .add (.var 8) (.int 5)) (.int 8)))))
    (.seq (.ite (.cmp .gt (.var 6) (.int 0)) (.seq (.asg 9 (.var 6))
    .skip) .skip)
    (.seq (.app 7 (.bin .mod (.var 9) (.var 3)))
    (.seq (.asg 6 (.bin .fdiv (.var 6) (.var 3)))
    .skip))))))))
    (.seq (.frz 7)
    (.seq (.ret (.var 7))
    .skip)))) [.sh (lstI ns), .sh (.int i), .sh (.int n), .sh (.int base), .sh (tupI primesI), .sh (.int c), .sh (.int r0), .any, .any, .any] ⟨fun _ => Q .none, Q⟩ := fun r0 hr0 => by
    refine ⟨rfl, ⟨⟨by omega, by omega⟩, ?_⟩⟩
    refine ⟨fun k e => k ≤ n ∧ ∃ (r : Int) (l : List Int) (a b : Sl), 0 ≤ r ∧ l.length = k ∧ (∀ x ∈ l, 0 ≤ x ∧ x < base) ∧ e = [.sh (lstI ns), .sh (.int i), .sh (.int n), .sh (.int base), .sh (tupI primesI), .sh (.int c), .sh (.int r), .ow (lstI l), a, b], ⟨_, EnLe.refl _, Nat.zero_le _, r0, [], _, _, hr0, rfl, (by simp), rfl⟩, ?_, ?_⟩
    · rintro k d e1 hd ⟨hk, r, l, a, b, hr, hl, hx, rfl⟩
      have hkn : k < n := by
        have := (List.getElem?_eq_some_iff.mp hd).1
        simp [rngD] at this
        exact this
      have : d = .int (0 + (k : Nat)) := by
        have hkn' : k < (n : Int).toNat := by omega
        simp [rngD, hkn] at hd
        simpa using hd.symm
      subst this
      obtain ⟨p1, e1, p10, p11⟩ := prime_at (0 + (k : Nat))
      obtain ⟨p2, e2, p20, p21⟩ := prime_at (3 * (0 + (k : Nat)) + i)
      obtain ⟨p3, e3, p30, p31⟩ := prime_at (0 + (k : Nat) + 5)
      refine ⟨by decide, .int p1, e1, p10, small_mul ⟨by decide, by decide⟩, small_mul ⟨by omega, by omega⟩, small_mul (emb p10 p11), ?_⟩
      refine ⟨small_mul ⟨by decide, by decide⟩, small_mul ⟨by omega, by omega⟩, small_mul ⟨by decide, by decide⟩, ?_⟩
      refine ⟨small_mul ⟨by decide, by decide⟩, by decide, .int p2, e2, p20, ?_⟩
      refine ⟨small_mul (emb p20 p21), small_mul (emm p20 p21), by decide, .int p3, e3, p30, ?_⟩
      show if decide (0 < r) = true then _ else _
      have fin : ∀ x5 : Int, wpB F (.seq (.app 7 (.bin .mod (.var 9) (.var 3))) (.seq (.asg 6 (.bin .fdiv (.var 6) (.var 3))) .skip)) [.sh (lstI ns), .sh (.int i), .sh (.int n), .sh (.int base), .sh (tupI primesI), .sh (.int c), .sh (.int r), .ow (lstI l), .sh (.int (0 + (k : Nat))), .sh (.int x5)]
          ⟨fun e3 => ∃ e4, EnLe e3 e4 ∧ k + 1 ≤ n ∧ ∃ (r : Int) (l : List Int) (a b : Sl), 0 ≤ r ∧ l.length = k + 1 ∧ (∀ x ∈ l, 0 ≤ x ∧ x < base) ∧ e4 = [.sh (lstI ns), .sh (.int i), .sh (.int n), .sh (.int base), .sh (tupI primesI), .sh (.int c), .sh (.int r), .ow (lstI l), a, b], Q⟩ := fun x5 => by
        refine ⟨hb, ?_, ⟨hb, hb2⟩, _, EnLe.refl _, by omega, r / base, l ++ [x5 % base], .sh (.int (0 + (k : Nat))), .sh (.int x5), Int.ediv_nonneg hr (by omega), by rw [List.length_append, hl]; rfl, ?_, ?_⟩
        · rw [List.length_map, hl]; show k < 16777216; omega
        · intro x hx'
          rcases List.mem_append.mp hx' with h | h
          · exact hx x h
          · rw [List.mem_singleton] at h
            subst h
            exact ⟨Int.emod_nonneg _ (by omega), Int.emod_lt_of_pos _ hb⟩
        · rw [lstI_snoc]; rfl
      by_cases hr0 : 0 < r
      · rw [if_pos (decide_eq_true hr0)]
        exact fin r
      · rw [if_neg (by simpa using hr0)]
        exact fin _
    · rintro e1 ⟨hk, r, l, a, b, hr, hl, hx, rfl⟩
      refine q l ?_ hx
      rw [hl]
      simp [rngD]
  show if decide ((10 : Int) ^ (18 : Int).toNat ≤ c) = true then _ else _
  by_cases hbig : (10 : Int) ^ (18 : Int).toNat ≤ c
  · rw [if_pos (decide_eq_true hbig)]
    exact key c (by have : (0 : Int) ≤ 10 ^ (18 : Int).toNat := by decide
                    omega)
  · rw [if_neg (by simpa using hbig)]
    exact key 0 (Int.le_refl _)
def SpText (F : FT) : Prop := ∀ dg (size top : Int) Q, 3 ≤ dg.length → 0 < size → size ≤ 1000 → 0 ≤ top → (∀ t : List Int, 1 ≤ t.length → (t.length : Int) ≤ size → (∀ x ∈ t, 0 ≤ x ∧ x ≤ top) → Q (tupI t)) → F "_law_text" [lstI dg, .int size, .int top] Q
theorem atIs {ns : List Int} {j : Int} (h0 : 0 ≤ j) (h1 : j < ns.length) : ∃ c, c ∈ ns ∧ atI (ns.map PyData.int) j = some (.int c) := by
  have hj : j.toNat < ns.length := by omega
  have := atI_nat (xs := ns.map PyData.int) (i := j.toNat) (x := .int ns[j.toNat]) (by rw [List.getElem?_map, List.getElem?_eq_getElem hj]; rfl)
  rw [show ((j.toNat : Nat) : Int) = j by omega] at this
  exact ⟨_, List.getElem_mem hj, this⟩
theorem w_text (dg : List Int) (size top : Int) {Q : D → Prop} (hl : 3 ≤ dg.length) (h0 : 0 < size) (h1 : size ≤ 1000) (h2 : 0 ≤ top) (q : ∀ t : List Int, 1 ≤ t.length → (t.length : Int) ≤ size → (∀ x ∈ t, 0 ≤ x ∧ x ≤ top) → Q (tupI t)) :
    wpB F b_law_text (ent 6 [lstI dg, .int size, .int top]) ⟨fun _ => Q .none, Q⟩ := by
  obtain ⟨d0, _, e0⟩ := atIs (ns := dg) (j := 0) (by omega) (by omega)
  obtain ⟨d1, _, e1⟩ := atIs (ns := dg) (j := 1) (by omega) (by omega)
  have m1 := Int.emod_nonneg d0 (show size ≠ 0 by omega)
  have m2 := Int.emod_lt_of_pos d0 h0
  have cl : cut (dg.map PyData.int) (some 2) (some (3 + d0 % size)) = ((dg.drop 2).take (3 + d0 % size - 2).toNat).map PyData.int := by
    have e3 : (3 + d0 % size) = ((3 + d0 % size).toNat : Nat) := by omega
    rw [e3, show (2 : Int) = ((2 : Nat) : Int) from rfl, cut_map, cut_nat]
    congr 2
    omega
  refine ⟨.int d0, e0, h0, ?_⟩
  show ∃ W : Nat → En → Prop, _
  have len : (((dg.drop 2).take (3 + d0 % size - 2).toNat).map PyData.int).length = min (3 + d0 % size - 2).toNat (dg.length - 2) := by simp
  rw [cl]
  refine ⟨fun k e => ∃ (t : List Int) (a b : Sl), t.length = k ∧ (∀ x ∈ t, 0 ≤ x ∧ x ≤ top) ∧ e = [.sh (lstI dg), .sh (.int size), .sh (.int top), .sh (tupI t), a, b], ⟨_, EnLe.refl _, [], _, _, rfl, (by simp), rfl⟩, ?_, ?_⟩
  · rintro k d e hd ⟨t, a, b, hk, hx, rfl⟩
    obtain ⟨x, rfl⟩ : ∃ x : Int, d = .int x := by
      obtain ⟨x, _, rfl⟩ := List.mem_map.mp (List.mem_of_getElem? hd)
      exact ⟨x, rfl⟩
    have hkl := (List.getElem?_eq_some_iff.mp hd).1
    rw [len] at hkl
    have fin : ∀ y : Int, 0 ≤ y → y ≤ top → wpB F (.seq (.asg 3 (.bin .add (.var 3) (.tup (.cons (.var 5) .nil)))) .skip) [.sh (lstI dg), .sh (.int size), .sh (.int top), .sh (tupI t), .sh (.int x), .sh (.int y)]
        ⟨fun e3 => ∃ e4, EnLe e3 e4 ∧ ∃ (t : List Int) (a b : Sl), t.length = k + 1 ∧ (∀ x ∈ t, 0 ≤ x ∧ x ≤ top) ∧ e4 = [.sh (lstI dg), .sh (.int size), .sh (.int top), .sh (tupI t), a, b], Q⟩ := fun y y0 y1 => by
      refine ⟨?_, _, EnLe.refl _, t ++ [y], .sh (.int x), .sh (.int y), by rw [List.length_append, hk]; rfl, ?_, ?_⟩
      · rw [List.length_map]; show t.length + 1 ≤ 16777216; omega
      · intro z hz
        rcases List.mem_append.mp hz with h | h
        · exact hx z h
        · rw [List.mem_singleton] at h; subst h; exact ⟨y0, y1⟩
      · rw [tupI_snoc]; rfl
    have rest : wpB F (.seq (.ite (.and (.cmp .eq (.bin .mod (.bin .fdiv (.var 4) (.int 21)) (.int 3)) (.int 1)) (.cmp .eq (.bin .mod (.idx (.var 0) (.int 1)) (.int 2)) (.int 0))) (.seq (.asg 5 (.int 0))
    .skip) (.seq (.asg 5 (.bin .mod (.var 4) (.bin .add (.var 2) (.int 1))))
    .skip))
    .skip) [.sh (lstI dg), .sh (.int size), .sh (.int top), .sh (tupI t), .sh (.int x), b] ⟨fun e1 => wpB F (.seq (.asg 3 (.bin .add (.var 3) (.tup (.cons (.var 5) .nil)))) .skip) e1 ⟨fun e3 => ∃ e4, EnLe e3 e4 ∧ ∃ (t : List Int) (a b : Sl), t.length = k + 1 ∧ (∀ x ∈ t, 0 ≤ x ∧ x ≤ top) ∧ e4 = [.sh (lstI dg), .sh (.int size), .sh (.int top), .sh (tupI t), a, b], Q⟩, Q⟩ := by
      have els := fin (x % (top + 1)) (Int.emod_nonneg _ (by omega)) (by have := Int.emod_lt_of_pos x (show 0 < top + 1 by omega); omega)
      refine ⟨⟨by decide, by decide⟩, by decide, ⟨(ok_int _).shp, (ok_int _).shp⟩, ?_⟩
      rw [eqvE (decide (x / 21 % 3 = 1)) (ok_int _) (ok_int _) (by rw [decide_eq_true_eq, int_inj])]
      by_cases c1 : x / 21 % 3 = 1
      · rw [decide_eq_true c1]
        refine ⟨.int d1, e1, by decide, ⟨(ok_int _).shp, (ok_int _).shp⟩, ?_⟩
        rw [eqvE (decide (d1 % 2 = 0)) (ok_int _) (ok_int _) (by rw [decide_eq_true_eq, int_inj])]
        by_cases c2 : d1 % 2 = 0
        · rw [decide_eq_true c2]
          exact fin 0 (Int.le_refl _) h2
        · rw [decide_eq_false c2]
          exact ⟨by omega, els⟩
      · rw [decide_eq_false c1]
        exact ⟨by omega, els⟩
    refine ⟨⟨(ok_tupI t).shp, (ok_tupI []).shp⟩, ?_⟩
    rw [show PyData.eqv (tupI t) (.tuple []) = decide (t = []) from eqvE (b := tupI []) (decide (t = [])) (ok_tupI _) (ok_tupI _) (by rw [decide_eq_true_eq, tupI_inj])]
    by_cases ht : t = []
    · rw [decide_eq_true ht]
      exact rest
    · rw [decide_eq_false ht]
      refine ⟨⟨by decide, by decide⟩, by decide, ⟨(ok_int _).shp, (ok_int _).shp⟩, ?_⟩
      rw [eqvE (decide (x / 21 % 3 = 0)) (ok_int _) (ok_int _) (by rw [decide_eq_true_eq, int_inj])]
      by_cases c1 : x / 21 % 3 = 0
      · rw [decide_eq_true c1]
        obtain ⟨u, z, rfl⟩ : ∃ u z, t = u ++ [z] := ⟨t.dropLast, t.getLast ht, (List.dropLast_concat_getLast ht).symm⟩
        have hz := hx z (by simp)
        refine ⟨.int z, ?_, fin z hz.1 hz.2⟩
        rw [List.map_append]
        exact atI_last
      · rw [decide_eq_false c1]
        exact rest
  · rintro e ⟨t, a, b, hk, hx, rfl⟩
    refine q t ?_ ?_ hx <;> omega
/-- a command by three digits -/
def cmdI (dg : List Int) (L : Int) : Cmd := ⟨decide (dg.getD 0 0 % 2 = 0), (dg.getD 1 0 % L).toNat, (dg.getD 1 0 % L + 1 + dg.getD 2 0 % (L - dg.getD 1 0 % L)).toNat⟩
theorem cmdI_ok (dg : List Int) {L : Int} (h : 0 < L) : (cmdI dg L).s < (cmdI dg L).e ∧ ((cmdI dg L).e : Int) ≤ L := by
  have m1 := Int.emod_nonneg (dg.getD 1 0) (show L ≠ 0 by omega)
  have m2 := Int.emod_lt_of_pos (dg.getD 1 0) h
  have m3 := Int.emod_nonneg (dg.getD 2 0) (show L - dg.getD 1 0 % L ≠ 0 by omega)
  have m4 := Int.emod_lt_of_pos (dg.getD 2 0) (show 0 < L - dg.getD 1 0 % L by omega)
  constructor <;> simp only [cmdI] <;> omega
def SpCommand (F : FT) : Prop := ∀ dg L Q, 3 ≤ dg.length → 0 < L → Q (cmdD (cmdI dg L)) → F "_law_command" [lstI dg, .int L] Q
theorem atG {ns : List Int} {j : Nat} (h : j < ns.length) : atI (ns.map PyData.int) (j : Int) = some (.int (ns.getD j 0)) :=
  atI_nat (by rw [List.getElem?_map, List.getD_eq_getElem?_getD, List.getElem?_eq_getElem h]; rfl)
theorem w_command (dg : List Int) (L : Int) {Q : D → Prop} (hl : 3 ≤ dg.length) (h : 0 < L) (q : Q (cmdD (cmdI dg L))) : wpB F b_law_command (ent 3 [lstI dg, .int L]) ⟨fun _ => Q .none, Q⟩ := by
  have m1 := Int.emod_nonneg (dg.getD 1 0) (show L ≠ 0 by omega)
  have m2 := Int.emod_lt_of_pos (dg.getD 1 0) h
  have m3 := Int.emod_nonneg (dg.getD 2 0) (show L - dg.getD 1 0 % L ≠ 0 by omega)
  refine ⟨.int (dg.getD 1 0), atG (j := 1) (by omega), h, ?_⟩
  refine ⟨.int (dg.getD 0 0), atG (j := 0) (by omega), by decide, nmD (decide (dg.getD 0 0 % 2 = 0)), ?_, .int (dg.getD 2 0), atG (j := 2) (by omega), by omega, ?_⟩
  · have := Int.emod_nonneg (dg.getD 0 0) (show (2 : Int) ≠ 0 by decide)
    have := Int.emod_lt_of_pos (dg.getD 0 0) (show (0 : Int) < 2 by decide)
    have hh : dg.getD 0 0 % 2 = 0 ∨ dg.getD 0 0 % 2 = 1 := by omega
    rcases hh with hh | hh <;> rw [hh] <;> rfl
  · have e1 : ((cmdI dg L).s : Int) = dg.getD 1 0 % L := by simp only [cmdI]; omega
    have e2 : ((cmdI dg L).e : Int) = dg.getD 1 0 % L + 1 + dg.getD 2 0 % (L - dg.getD 1 0 % L) := by simp only [cmdI]; omega
    have q' := q
    rw [cmdD, e1, e2] at q'
    exact q'
def SpScript (F : FT) : Prop := ∀ dg (L size : Int) Q, 1 + 3 * size ≤ dg.length → 0 < L → 0 ≤ size → size ≤ 1000 → (∀ cs : List Cmd, (cs.length : Int) ≤ size → (∀ c ∈ cs, c.s < c.e ∧ (c.e : Int) ≤ L) → Q (scrD cs)) → F "_law_script" [lstI dg, .int L, .int size] Q
theorem w_script (hc : SpCommand F) (dg : List Int) (L size : Int) {Q : D → Prop} (hl : 1 + 3 * size ≤ dg.length) (h : 0 < L) (h0 : 0 ≤ size) (h1 : size ≤ 1000) (q : ∀ cs : List Cmd, (cs.length : Int) ≤ size → (∀ c ∈ cs, c.s < c.e ∧ (c.e : Int) ≤ L) → Q (scrD cs)) :
    wpB F b_law_script (ent 4 [lstI dg, .int L, .int size]) ⟨fun _ => Q .none, Q⟩ := by
  have m1 := Int.emod_nonneg (dg.getD 0 0) (show size + 1 ≠ 0 by omega)
  have m2 := Int.emod_lt_of_pos (dg.getD 0 0) (show 0 < size + 1 by omega)
  refine ⟨.int (dg.getD 0 0), atG (j := 0) (by omega), by omega, ⟨by omega, by omega⟩, ?_⟩
  show ∃ f : D → D, _
  refine ⟨fun d => match d with | .int k => cmdD (cmdI (cut dg (some (1 + 3 * k)) (some (4 + 3 * k))) L) | _ => .none, ?_, ?_, ?_⟩
  · intro d hd
    obtain ⟨k, hk, rfl⟩ := List.mem_map.mp hd
    rw [List.mem_range] at hk
    refine ⟨small_mul ⟨by decide, by decide⟩, small_mul ⟨by decide, by decide⟩, ?_⟩
    show F "_law_command" [.list (cut (dg.map PyData.int) (some (1 + 3 * (0 + (k : Int)))) (some (4 + 3 * (0 + (k : Int))))), .int L] _
    rw [cut_map]
    refine hc _ _ _ ?_ h rfl
    have e1 : (1 + 3 * (0 + (k : Int))) = ((1 + 3 * k : Nat) : Int) := by omega
    have e2 : (4 + 3 * (0 + (k : Int))) = ((4 + 3 * k : Nat) : Int) := by omega
    rw [e1, e2, cut_nat, List.length_take, List.length_drop]
    omega
  · simp only [rngD, List.length_map, List.length_range]
    show _ ≤ 16777216
    omega
  · have e : ((rngD 0 (dg.getD 0 0 % (size + 1)).toNat).map fun d => match d with | .int k => cmdD (cmdI (cut dg (some (1 + 3 * k)) (some (4 + 3 * k))) L) | _ => .none) = ((List.range (dg.getD 0 0 % (size + 1)).toNat).map fun k : Nat => cmdI (cut dg (some (1 + 3 * (0 + (k : Int)))) (some (4 + 3 * (0 + (k : Int))))) L).map cmdD := by
      simp only [rngD, List.map_map]
      rfl
    have q' := q ((List.range (dg.getD 0 0 % (size + 1)).toNat).map fun k : Nat => cmdI (cut dg (some (1 + 3 * (0 + (k : Int)))) (some (4 + 3 * (0 + (k : Int))))) L) (by rw [List.length_map, List.length_range]; omega) (fun c hc => by
      obtain ⟨k, _, rfl⟩ := List.mem_map.mp hc
      exact cmdI_ok _ h)
    rw [scrD, ← e] at q'
    exact q'
end
end Z

namespace Z
open PySem
theorem after_get {t : List Int} {c : Cmd} (h : c.s ≤ c.e) (j : Nat) : (afterI t c)[j]? = (t[j]?).map fun x => if c.s ≤ j ∧ j < c.e then stepI c.inn x else x := by
  unfold afterI
  by_cases h1 : j < c.s
  · by_cases h2 : j < t.length
    · rw [List.append_assoc, List.getElem?_append_left (by rw [List.length_take]; omega), List.getElem?_take_of_lt h1, List.getElem?_eq_getElem h2]
      simp only [Option.map_some]
      rw [if_neg (by omega)]
    · rw [List.getElem?_eq_none (by simp only [List.length_append, List.length_map, List.length_take, List.length_drop]; omega), List.getElem?_eq_none (by omega)]
      rfl
  · by_cases h2 : j < t.length
    · have hs : (t.take c.s).length = c.s := by rw [List.length_take]; omega
      by_cases h3 : j < c.e
      · have hm : (List.map (stepI c.inn) (List.take (c.e - c.s) (List.drop c.s t))).length = min (c.e - c.s) (t.length - c.s) := by simp
        rw [List.getElem?_append_left (by rw [List.length_append, hs, hm]; omega), List.getElem?_append_right (by omega), hs, List.getElem?_map, List.getElem?_take_of_lt (by omega), List.getElem?_drop, show c.s + (j - c.s) = j by omega, List.getElem?_eq_getElem h2]
        simp only [Option.map_some]
        rw [if_pos (by omega)]
      · have hm : (List.take c.s t ++ List.map (stepI c.inn) (List.take (c.e - c.s) (List.drop c.s t))).length = c.e := by simp; omega
        rw [List.getElem?_append_right (by omega), hm, List.getElem?_drop, show c.e + (j - c.e) = j by omega, List.getElem?_eq_getElem h2]
        simp only [Option.map_some]
        rw [if_neg (by omega)]
    · rw [List.getElem?_eq_none (by simp only [List.length_append, List.length_map, List.length_take, List.length_drop]; omega), List.getElem?_eq_none (by omega)]
      rfl
theorem after_empty (t : List Int) (b : Bool) (s : Nat) : afterI t ⟨b, s, s⟩ = t := by
  refine List.ext_getElem? fun j => ?_
  rw [after_get (Nat.le_refl _)]
  cases t[j]? with
  | none => rfl
  | some x => simp only [Option.map_some]; rw [if_neg (by simp)]
theorem after_more (t : List Int) (b : Bool) (s i : Nat) (x : Int) (hx : t[s + i]? = some x) : (afterI t ⟨b, s, s + i⟩)[s + i]? = some x ∧ (afterI t ⟨b, s, s + i⟩).set (s + i) (stepI b x) = afterI t ⟨b, s, s + i + 1⟩ := by
  have hl := (List.getElem?_eq_some_iff.mp hx).1
  have len : ∀ e, s ≤ e → (afterI t ⟨b, s, e⟩).length = t.length := fun e he => after_len (c := ⟨b, s, e⟩) he
  refine ⟨?_, ?_⟩
  · rw [after_get (c := ⟨b, s, s + i⟩) (Nat.le_add_right _ _), hx]
    simp
  · refine List.ext_getElem? fun j => ?_
    rw [after_get (c := ⟨b, s, s + i + 1⟩) (by show s ≤ s + i + 1; omega)]
    by_cases hj : s + i = j
    · subst hj
      rw [List.getElem?_set_self (by rw [len _ (Nat.le_add_right _ _)]; exact hl), hx]
      simp only [Option.map_some]
      rw [if_pos (by omega)]
    · rw [List.getElem?_set_ne hj, after_get (c := ⟨b, s, s + i⟩) (Nat.le_add_right _ _)]
      congr 1
      funext y
      simp only
      by_cases h1 : s ≤ j ∧ j < s + i
      · rw [if_pos h1, if_pos (by omega)]
      · rw [if_neg h1, if_neg (by omega)]
theorem after_ge {t : List Int} {c : Cmd} (h : c.s ≤ c.e) (ht : ∀ x ∈ t, (0 : Int) ≤ x) : ∀ x ∈ afterI t c, (0 : Int) ≤ x := fun x hx => by
  obtain ⟨j, hj⟩ := List.getElem?_of_mem hx
  rw [after_get h] at hj
  cases hy : t[j]? with
  | none => rw [hy] at hj; cases hj
  | some y =>
    rw [hy] at hj
    have h0 := ht y (List.mem_of_getElem? hy)
    simp only [Option.map_some, Option.some.injEq] at hj
    subst hj
    split
    · unfold stepI; split <;> omega
    · exact h0
theorem apply_ge {cs : List Cmd} : ∀ {t : List Int}, (∀ c ∈ cs, c.s ≤ c.e) → (∀ x ∈ t, (0 : Int) ≤ x) → ∀ x ∈ applyI t cs, (0 : Int) ≤ x := by
  induction cs with
  | nil => intro t _ h; exact h
  | cons c cs ih => intro t h ht; exact ih (t := afterI t c) (fun x hx => h x (List.mem_cons_of_mem _ hx)) (after_ge (h c List.mem_cons_self) ht)
def SpLChanged (F : FT) : Prop := ∀ t c Q, t.length ≤ 1000 → (∀ x ∈ t, (0 : Int) ≤ x) → c.s ≤ c.e → c.e ≤ t.length → Q (tupI (afterI t c)) → F "_law_changed" [tupI t, cmdD c] Q
section
variable {F : FT}
theorem w_lchanged (t : List Int) (c : Cmd) {Q : D → Prop} (hl : t.length ≤ 1000) (ht : ∀ x ∈ t, (0 : Int) ≤ x) (h1 : c.s ≤ c.e) (h2 : c.e ≤ t.length) (q : Q (tupI (afterI t c))) : wpB F b_law_changed (ent 7 [tupI t, cmdD c]) ⟨fun _ => Q .none, Q⟩ := by
  obtain ⟨b, s, e⟩ := c
  simp only at h1 h2
  refine ⟨rfl, ?_⟩
  have sm : (-(2 ^ 62) ≤ (s : Int) ∧ (s : Int) < 2 ^ 62) ∧ (-(2 ^ 62) ≤ (e : Int) ∧ (e : Int) < 2 ^ 62) := by omega
  refine ⟨sm, ?_⟩
  refine for_rng (fun i => [.sh (tupI t), .sh (cmdD ⟨b, s, e⟩), .sh (nmD b), .sh (.int s), .sh (.int e), .ow (lstI (afterI t ⟨b, s, s + i⟩)), .any]) ⟨rfl, rfl, rfl, rfl, rfl, ?_, trivial, trivial⟩ (fun i hi => ?_) ?_
  · show PyData.list _ = lstI _
    rw [Nat.add_zero, after_empty]
  · have hi2 : i < ((e : Int) - (s : Int)).toNat := hi
    have hi' : s + i < t.length := by omega
    obtain ⟨g1, g2⟩ := after_more t b s i t[s + i] (List.getElem?_eq_getElem hi')
    have hln : (afterI t ⟨b, s, s + i⟩).length = t.length := after_len (c := ⟨b, s, s + i⟩) (Nat.le_add_right _ _)
    have cst : ((s : Int) + (i : Nat)) = ((s + i : Nat) : Int) := by omega
    have at1 : atI ((afterI t ⟨b, s, s + i⟩).map PyData.int) ((s : Int) + (i : Nat)) = some (.int t[s + i]) := by
      rw [cst]
      exact atI_nat (by rw [List.getElem?_map, g1]; rfl)
    have ix1 : ixN ((afterI t ⟨b, s, s + i⟩).map PyData.int).length ((s : Int) + (i : Nat)) = some (s + i) := by
      rw [cst, List.length_map, hln]
      exact ixN_nat hi'
    have fin : ∀ v, v = stepI b t[s + i] → lstI (afterI t ⟨b, s, s + (i + 1)⟩) = .list (((afterI t ⟨b, s, s + i⟩).map PyData.int).set (s + i) (.int v)) := fun v hv => by
      rw [hv, ← List.map_set, g2]
      rfl
    refine ⟨⟨(ok_nm b).shp, ok_in.shp⟩, ?_⟩
    rw [eqv_in b]
    cases b with
    | true =>
      refine ⟨.int t[s + i], at1, s + i, ix1, ?_⟩
      refine ⟨rfl, rfl, rfl, rfl, rfl, ?_, trivial, trivial⟩
      exact (fin _ (by simp [stepI])).symm
    | false =>
      refine ⟨.int t[s + i], at1, ?_⟩
      show if decide (0 < t[s + i]) = true then _ else _
      have h0 := ht t[s + i] (List.getElem_mem _)
      by_cases hp : 0 < t[s + i]
      · rw [if_pos (decide_eq_true hp)]
        refine ⟨.int t[s + i], at1, s + i, ix1, ?_⟩
        refine ⟨rfl, rfl, rfl, rfl, rfl, ?_, trivial, trivial⟩
        exact (fin _ (by simp [stepI]; omega)).symm
      · rw [if_neg (by simpa using hp)]
        refine ⟨rfl, rfl, rfl, rfl, rfl, ?_, trivial, trivial⟩
        have e0 : stepI false t[s + i] = t[s + i] := by simp [stepI]; omega
        rw [e0] at g2
        show lstI _ = lstI _
        have g3 : (afterI t ⟨false, s, s + i⟩).set (s + i) t[s + i] = afterI t ⟨false, s, s + i⟩ := by
          refine List.ext_getElem? fun j => ?_
          by_cases hj : s + i = j
          · subst hj
            rw [List.getElem?_set_self (by omega), g1]
          · rw [List.getElem?_set_ne hj]
        rw [g3] at g2
        rw [g2]
        rfl
  · show Q _
    have e1 : s + ((e : Int) - (s : Int)).toNat = e := by omega
    show Q (.tuple ((afterI t ⟨b, s, s + ((e : Int) - (s : Int)).toNat⟩).map PyData.int))
    rw [e1]
    exact q
end
end Z

namespace Z
open PySem
/-! the helpers in any table that has them -/
abbrev Has (T : List Fn) (x : Fn) : Prop := T.find? (fun y => y.name == x.name) = some x
section
variable {T : List Fn} {k : Nat}
theorem i_changed (h : Has T f_changed) : SpChanged (FW T (k + 1)) := fun x b Q q => run_of h rfl (w_changed x b q)
theorem i_after (h : Has T f_after) (c : SpChanged (FW T k)) : SpAfter (FW T (k + 1)) := fun t x Q hl q => run_of h rfl (w_after c t x hl q)
theorem i_apply (h : Has T f_apply) (c : SpAfter (FW T k)) : SpApply (FW T (k + 1)) := fun t x Q hl hs q => run_of h rfl (w_apply c t x hl hs q)
theorem i_idle (h : Has T f_idle) (c : SpAfter (FW T k)) : SpIdle (FW T (k + 1)) := fun t x Q hl hc hs q => run_of h rfl (w_idle c t x hl hc hs q)
theorem i_cell (h : Has T f_law_cell) : SpCell (FW T (k + 1)) := fun ns i Q h0 h1 q => run_of h rfl (w_cell ns i h0 h1 q)
theorem i_digits (h : Has T f_law_digits) (c : SpCell (FW T k)) : SpDigits (FW T (k + 1)) := fun ns i n base Q h0 h1 h2 h3 h4 q => run_of h rfl (w_digits c ns i n base h0 h1 h2 h3 h4 q)
theorem i_text (h : Has T f_law_text) : SpText (FW T (k + 1)) := fun dg size top Q h0 h1 h2 h3 q => run_of h rfl (w_text dg size top h0 h1 h2 h3 q)
theorem i_command (h : Has T f_law_command) : SpCommand (FW T (k + 1)) := fun dg L Q h0 h1 q => run_of h rfl (w_command dg L h0 h1 q)
theorem i_script (h : Has T f_law_script) (c : SpCommand (FW T k)) : SpScript (FW T (k + 1)) := fun dg L size Q h0 h1 h2 h3 q => run_of h rfl (w_script c dg L size h0 h1 h2 h3 q)
theorem i_lchanged (h : Has T f_law_changed) : SpLChanged (FW T (k + 1)) := fun t c Q h0 h1 h2 h3 q => run_of h rfl (w_lchanged t c h0 h1 h2 h3 q)
end
/-! answers that are known -/
theorem eqT {a b : D} {n m : Nat} {Q : Bool → Prop} (ha : Okd n a) (hb : Okd m b) (e : a = b) (q : Q true) (hn : n ≤ 64 := by decide) (hm : m ≤ 64 := by decide) : eqW a b Q := eqW_by true ha hb ⟨fun _ => e, fun _ => rfl⟩ q hn hm
theorem eqvT {a b : D} {n m : Nat} (ha : Okd n a) (hb : Okd m b) (e : a = b) : PyData.eqv a b = true := eqvE true ha hb ⟨fun _ => e, fun _ => rfl⟩
end Z

namespace Z
open PySem
/-! effects -/
abbrev Pr := Int × Int
abbrev pairD (p : Pr) : D := .tuple [.int p.1, .int p.2]
theorem ok_pair (p : Pr) : Okd 1 (pairD p) := ok_tup fun d hd => by
  simp only [List.mem_cons, List.not_mem_nil, or_false] at hd
  rcases hd with rfl | rfl <;> exact ok_int _
theorem pair_inj {a b : Pr} : pairD a = pairD b ↔ a = b := by
  constructor
  · intro h
    simp only [pairD, PyData.tuple.injEq, List.cons.injEq, PyData.int.injEq] at h
    exact Prod.ext h.1 h.2.1
  · rintro rfl; rfl
abbrev lstP (ps : List Pr) : D := .list (ps.map pairD)
theorem ok_lstP (ps : List Pr) : Okd 2 (lstP ps) := ok_lst (ok_map fun x _ => ok_pair x)
theorem lstP_inj {a b : List Pr} : lstP a = lstP b ↔ a = b := by rw [PyData.list.injEq]; exact List.map_inj_right fun x y h => pair_inj.mp h
def stepP (b : Bool) (p : Pr) : Pr := if b then (p.1 + 1, p.2 + 1) else (p.1 - 1, max 0 (p.2 - 1))
def effF (j : Nat) (p : Pr) (c : Cmd) : Pr := if c.s ≤ j ∧ j < c.e then stepP c.inn p else p
def effP (cs : List Cmd) (j : Nat) : Pr := cs.foldl (effF j) (0, 0)
theorem effP_snoc (cs : List Cmd) (c : Cmd) (j : Nat) : effP (cs ++ [c]) j = effF j (effP cs j) c := by simp [effP]
def effI (n : Nat) (cs : List Cmd) : List Pr := (List.range n).map (effP cs)
/-- lists by their places -/
theorem rm_get {α : Type} (n : Nat) (g : Nat → α) {k : Nat} (h : k < n) : ((List.range n).map g)[k]? = some (g k) := by
  rw [List.getElem?_map, List.getElem?_range h]; rfl
theorem rm_set {α : Type} (n : Nat) (g : Nat → α) (k : Nat) (v : α) : ((List.range n).map g).set k v = (List.range n).map fun j => if j = k then v else g j := by
  refine List.ext_getElem? fun j => ?_
  by_cases hj : j < n
  · by_cases hk : k = j
    · subst hk
      rw [List.getElem?_set_self (by simpa using hj), rm_get n _ hj, if_pos rfl]
    · rw [List.getElem?_set_ne hk, rm_get n _ hj, rm_get n _ hj, if_neg (fun e => hk e.symm)]
  · rw [List.getElem?_eq_none (by simp; omega), List.getElem?_eq_none (by simp; omega)]
theorem rm_at {α : Type} (n : Nat) (g : Nat → α) {k : Nat} (h : k < n) : atI ((List.range n).map g) (k : Int) = some (g k) := atI_nat (rm_get n g h)
def SpEffects (F : FT) : Prop := ∀ (n : Nat) cs Q, n ≤ 1000 → (∀ c ∈ cs, c.s ≤ c.e ∧ c.e ≤ n) → Q (lstP (effI n cs)) → F "effects" [.int n, scrD cs] Q
def midP (cs : List Cmd) (c : Cmd) (i : Nat) (j : Nat) : Pr := if c.s ≤ j ∧ j < c.s + i then stepP c.inn (effP cs j) else effP cs j
abbrev resD (n : Nat) (g : Nat → Pr) : D := .list ((List.range n).map fun j => pairD (g j))
section
variable {F : FT}
theorem w_effects (n : Nat) (cs : List Cmd) {Q : D → Prop} (hn : n ≤ 1000) (hc : ∀ c ∈ cs, c.s ≤ c.e ∧ c.e ≤ n) (q : Q (lstP (effI n cs))) : wpB F b_effects (ent 9 [.int n, scrD cs]) ⟨fun _ => Q .none, Q⟩ := by
  refine ⟨⟨by omega, by omega, by show 1 ≤ 1000; decide⟩, rfl, ?_⟩
  refine for_map cs cmdD (fun m => [.sh (.int n), .sh (scrD cs), .ow (resD n (effP (cs.take m))), .any, .any, .any, .any, .any, .any]) ⟨rfl, rfl, ?_, trivial, trivial, trivial, trivial, trivial, trivial, trivial⟩ (fun m c hm => ?_) ?_
  · show PyData.list _ = PyData.list _
    congr 1
    rw [Int.toNat_natCast]
    have : ∀ k : Nat, (List.replicate k [pairD (0, 0)]).flatten = (List.range k).map fun j => pairD (effP (cs.take 0) j) := fun k => by
      refine List.ext_getElem? fun j => ?_
      rw [show (List.replicate k [pairD (0, 0)]).flatten = List.replicate k (pairD (0, 0)) by simp]
      by_cases hj : j < k
      · rw [rm_get k _ hj, List.getElem?_replicate, if_pos hj]
        rfl
      · rw [List.getElem?_eq_none (by simp; omega), List.getElem?_eq_none (by simp; omega)]
    exact this n
  · have hcm := hc c (List.mem_of_getElem? hm)
    obtain ⟨b, s, e⟩ := c
    simp only at hcm
    have sm : (-(2 ^ 62) ≤ (s : Int) ∧ (s : Int) < 2 ^ 62) ∧ (-(2 ^ 62) ≤ (e : Int) ∧ (e : Int) < 2 ^ 62) := by omega
    refine ⟨sm, ?_⟩
    refine for_rng (fun i => [.sh (.int n), .sh (scrD cs), .ow (resD n (midP (cs.take m) ⟨b, s, e⟩ i)), .sh (nmD b), .sh (.int s), .sh (.int e), .any, .any, .any]) ⟨rfl, rfl, ?_, rfl, rfl, rfl, trivial, trivial, trivial, trivial⟩ (fun i hi => ?_) ?_
    · show PyData.list _ = PyData.list _
      congr 1
      refine List.map_congr_left fun j _ => ?_
      unfold midP
      rw [if_neg (by simp only; omega)]
    · have hi2 : i < ((e : Int) - (s : Int)).toNat := hi
      have hlt : s + i < n := by omega
      have cst : ((s : Int) + (i : Nat)) = ((s + i : Nat) : Int) := by omega
      have at1 : atI ((List.range n).map fun j => pairD (midP (cs.take m) ⟨b, s, e⟩ i j)) ((s : Int) + (i : Nat)) = some (pairD (effP (cs.take m) (s + i))) := by
        rw [cst, rm_at n _ hlt]
        unfold midP
        rw [if_neg (by simp only; omega)]
      have ix1 : ixN ((List.range n).map fun j => pairD (midP (cs.take m) ⟨b, s, e⟩ i j)).length ((s : Int) + (i : Nat)) = some (s + i) := by
        rw [cst, List.length_map, List.length_range]
        exact ixN_nat hlt
      have fin : ∀ v, v = stepP b (effP (cs.take m) (s + i)) → PyData.list (((List.range n).map fun j => pairD (midP (cs.take m) ⟨b, s, e⟩ i j)).set (s + i) (pairD v)) = resD n (midP (cs.take m) ⟨b, s, e⟩ (i + 1)) := fun v hv => by
        rw [rm_set]
        show PyData.list _ = PyData.list _
        congr 1
        refine List.map_congr_left fun j _ => ?_
        by_cases hj : j = s + i
        · rw [if_pos hj, hv, hj]
          unfold midP
          rw [if_pos (by simp only; omega)]
        · rw [if_neg hj]
          unfold midP
          simp only
          by_cases h1 : s ≤ j ∧ j < s + i
          · rw [if_pos h1, if_pos (by omega)]
          · rw [if_neg h1, if_neg (by omega)]
      refine ⟨_, at1, ?_⟩
      refine ⟨⟨(ok_nm b).shp, ok_in.shp⟩, ?_⟩
      rw [eqv_in b]
      cases b with
      | true =>
        refine ⟨s + i, ix1, ?_⟩
        exact ⟨rfl, rfl, fin _ rfl, rfl, rfl, rfl, trivial, trivial, trivial, trivial⟩
      | false =>
        refine ⟨s + i, ix1, ?_⟩
        exact ⟨rfl, rfl, fin _ rfl, rfl, rfl, rfl, trivial, trivial, trivial, trivial⟩
    · have e1 : s + ((e : Int) - (s : Int)).toNat = e := by omega
      refine ⟨rfl, rfl, ?_, trivial, trivial, trivial, trivial, trivial, trivial, trivial⟩
      show PyData.list _ = PyData.list _
      congr 1
      refine List.map_congr_left fun j _ => ?_
      rw [take_snoc hm, effP_snoc]
      unfold midP effF
      simp only
      rw [e1]
  · refine ⟨rfl, ?_⟩
    rw [List.take_length]
    have q' := q
    rw [lstP, effI, List.map_map] at q'
    exact q'
def SpPair (F : FT) : Prop := ∀ cs (j : Nat) Q, Q (pairD (effP cs j)) → F "_law_pair" [scrD cs, .int j] Q
theorem w_pair (cs : List Cmd) (j : Nat) {Q : D → Prop} (q : Q (pairD (effP cs j))) : wpB F b_law_pair (ent 7 [scrD cs, .int j]) ⟨fun _ => Q .none, Q⟩ := by
  refine for_map cs cmdD (fun m => [.sh (scrD cs), .sh (.int j), .sh (.int (effP (cs.take m) j).2), .sh (.int ((effP (cs.take m) j).1 + 1000)), .any, .any, .any]) (EnLe.refl _) (fun m c hm => ?_) ?_
  · have e1 : effP (cs.take (m + 1)) j = effF j (effP (cs.take m) j) c := by rw [take_snoc hm, effP_snoc]
    obtain ⟨b, s, e⟩ := c
    show if decide ((s : Int) ≤ (j : Int)) = true then (if decide ((j : Int) < (e : Int)) = true then _ else _) else _
    have no : ¬ (s ≤ j ∧ j < e) → EnLe [.sh (scrD cs), .sh (.int j), .sh (.int (effP (cs.take m) j).2), .sh (.int ((effP (cs.take m) j).1 + 1000)), .sh (nmD b), .sh (.int s), .sh (.int e)] [.sh (scrD cs), .sh (.int j), .sh (.int (effP (cs.take (m + 1)) j).2), .sh (.int ((effP (cs.take (m + 1)) j).1 + 1000)), .any, .any, .any] := fun h => by
      rw [e1]
      unfold effF
      rw [if_neg h]
      exact ⟨rfl, rfl, rfl, rfl, trivial, trivial, trivial, trivial⟩
    by_cases h1 : s ≤ j
    · rw [if_pos (decide_eq_true (by omega))]
      by_cases h2 : j < e
      · rw [if_pos (decide_eq_true (by omega))]
        have e2 : effF j (effP (cs.take m) j) ⟨b, s, e⟩ = stepP b (effP (cs.take m) j) := by unfold effF; rw [if_pos ⟨h1, h2⟩]
        refine ⟨⟨(ok_nm b).shp, ok_in.shp⟩, ?_⟩
        rw [eqv_in b, e1, e2]
        cases b with
        | true =>
          refine ⟨⟨(ok_nm true).shp, ok_in.shp⟩, ?_⟩
          rw [eqv_in true]
          refine ⟨rfl, rfl, rfl, ?_, trivial, trivial, trivial, trivial⟩
          show PyData.int _ = PyData.int _
          simp only [stepP, if_true]
          congr 1
          omega
        | false =>
          refine ⟨⟨(ok_nm false).shp, ok_in.shp⟩, ?_⟩
          rw [eqv_in false]
          refine ⟨rfl, rfl, rfl, ?_, trivial, trivial, trivial, trivial⟩
          show PyData.int _ = PyData.int _
          simp only [stepP, Bool.false_eq_true, if_false]
          congr 1
          omega
      · rw [if_neg (by simpa using h2)]
        exact no (by omega)
    · rw [if_neg (by simpa using h1)]
      exact no (by omega)
  · show Q (.tuple [.int _, .int _])
    rw [List.take_length]
    rw [show (effP cs j).1 + 1000 - 1000 = (effP cs j).1 by omega]
    exact q
end
theorem i_effects {T : List Fn} {k : Nat} (h : Has T f_effects) : SpEffects (FW T (k + 1)) := fun n cs Q h1 h2 q => run_of h rfl (w_effects n cs h1 h2 q)
theorem i_pair {T : List Fn} {k : Nat} (h : Has T f_law_pair) : SpPair (FW T (k + 1)) := fun cs j Q q => run_of h rfl (w_pair cs j q)
/-! the law of effects -/
theorem effP_ge (cs : List Cmd) (j : Nat) : 0 ≤ (effP cs j).2 ∧ (effP cs j).1 ≤ (effP cs j).2 := by
  have : ∀ (cs : List Cmd) (p : Pr), 0 ≤ p.2 ∧ p.1 ≤ p.2 → 0 ≤ (cs.foldl (effF j) p).2 ∧ (cs.foldl (effF j) p).1 ≤ (cs.foldl (effF j) p).2 := fun cs => by
    induction cs with
    | nil => intro p h; exact h
    | cons c cs ih =>
      intro p h
      refine ih _ ?_
      unfold effF stepP
      split
      · split <;> simp only <;> omega
      · exact h
  exact this cs (0, 0) ⟨Int.le_refl _, Int.le_refl _⟩
def doP (p : Pr) (x : Int) : Int := max (x + p.1) p.2
theorem apply_eff (t : List Int) (cs : List Cmd) (hc : ∀ c ∈ cs, c.s ≤ c.e) (ht : ∀ x ∈ t, (0 : Int) ≤ x) (j : Nat) : (applyI t cs)[j]? = (t[j]?).map (doP (effP cs j)) := by
  have : ∀ (cs : List Cmd) (t : List Int) (p : Pr) (u : List Int), (∀ c ∈ cs, c.s ≤ c.e) → u[j]? = (t[j]?).map (doP p) → (applyI u cs)[j]? = (t[j]?).map (doP (cs.foldl (effF j) p)) := fun cs => by
    induction cs with
    | nil => intro t p u _ h; exact h
    | cons c cs ih =>
      intro t p u hc h
      refine ih t (effF j p c) (afterI u c) (fun x hx => hc x (List.mem_cons_of_mem _ hx)) ?_
      rw [after_get (hc c List.mem_cons_self), h]
      cases t[j]? with
      | none => rfl
      | some x =>
        simp only [Option.map_some, Option.some.injEq]
        unfold effF
        split
        · unfold stepI stepP doP
          split <;> simp only <;> omega
        · rfl
  refine this cs t (0, 0) t hc ?_
  cases h : t[j]? with
  | none => rfl
  | some x =>
    have := ht x (List.mem_of_getElem? h)
    simp only [Option.map_some, Option.some.injEq, doP]
    omega
end Z

namespace Z
open PySem
/-! truth values -/
theorem shp_bool (b : Bool) : Shp (.bool b) := ⟨by simp [PyData.canLay0], by simp [PyData.depth]⟩
theorem eqv_bool (a b : Bool) : PyData.eqv (.bool a) (.bool b) = (a == b) := by simp [PyData.eqv]
theorem eqv_nm (a b : Bool) : PyData.eqv (nmD a) (nmD b) = (a == b) := eqvE _ (ok_nm a) (ok_nm b) (by rw [nm_inj, beq_iff_eq])
def SpSame (F : FT) : Prop := ∀ a b Q, Q (.bool (a == b)) → F "_law_same_bool" [.bool a, .bool b] Q
def comB (a b : Cmd) : Bool := (a.inn == b.inn) || decide (a.e ≤ b.s) || decide (b.e ≤ a.s)
def SpCommute (F : FT) : Prop := ∀ a b Q, Q (.bool (comB a b)) → F "commute" [cmdD a, cmdD b] Q
def SpEqual (F : FT) : Prop := ∀ (n : Nat) xs ys Q, n ≤ 1000 → (∀ c ∈ xs, c.s ≤ c.e ∧ c.e ≤ n) → (∀ c ∈ ys, c.s ≤ c.e ∧ c.e ≤ n) → Q (.bool (decide (effI n xs = effI n ys))) → F "equal" [.int n, scrD xs, scrD ys] Q
section
variable {F : FT}
theorem w_same (a b : Bool) {Q : D → Prop} (q : Q (.bool (a == b))) : wpB F b_law_same_bool (ent 2 [.bool a, .bool b]) ⟨fun _ => Q .none, Q⟩ := by
  refine ⟨⟨shp_bool a, shp_bool b⟩, ?_⟩
  rw [eqv_bool]
  exact q
theorem w_commute (a b : Cmd) {Q : D → Prop} (q : Q (.bool (comB a b))) : wpB F b_commute (ent 2 [cmdD a, cmdD b]) ⟨fun _ => Q .none, Q⟩ := by
  refine ⟨_, rfl, _, rfl, ⟨(ok_nm _).shp, (ok_nm _).shp⟩, ?_⟩
  rw [eqv_nm]
  unfold comB at q
  cases h : a.inn == b.inn with
  | true =>
    rw [h] at q
    exact q
  | false =>
    rw [h, Bool.false_or] at q
    refine ⟨_, rfl, _, rfl, ?_⟩
    show if decide ((a.e : Int) ≤ (b.s : Int)) = true then _ else _
    by_cases h1 : a.e ≤ b.s
    · rw [if_pos (decide_eq_true (by omega))]
      rw [decide_eq_true h1] at q
      exact q
    · rw [if_neg (by simpa using h1)]
      rw [decide_eq_false h1, Bool.false_or] at q
      refine ⟨_, rfl, _, rfl, ?_⟩
      show Q (.bool (decide ((b.e : Int) ≤ (a.s : Int))))
      rw [show decide ((b.e : Int) ≤ (a.s : Int)) = decide (b.e ≤ a.s) from decide_eq_decide.mpr (by omega)]
      exact q
theorem w_equal (he : SpEffects F) (n : Nat) (xs ys : List Cmd) {Q : D → Prop} (hn : n ≤ 1000) (hx : ∀ c ∈ xs, c.s ≤ c.e ∧ c.e ≤ n) (hy : ∀ c ∈ ys, c.s ≤ c.e ∧ c.e ≤ n) (q : Q (.bool (decide (effI n xs = effI n ys)))) : wpB F b_equal (ent 3 [.int n, scrD xs, scrD ys]) ⟨fun _ => Q .none, Q⟩ := by
  refine he n xs _ hn hx (he n ys _ hn hy ⟨⟨(ok_lstP _).shp, (ok_lstP _).shp⟩, ?_⟩)
  rw [eqvE (decide (effI n xs = effI n ys)) (ok_lstP _) (ok_lstP _) (by rw [decide_eq_true_eq, lstP_inj])]
  exact q
end
theorem i_same {T : List Fn} {k : Nat} (h : Has T f_law_same_bool) : SpSame (FW T (k + 1)) := fun a b Q q => run_of h rfl (w_same a b q)
theorem i_commute {T : List Fn} {k : Nat} (h : Has T f_commute) : SpCommute (FW T (k + 1)) := fun a b Q q => run_of h rfl (w_commute a b q)
theorem i_equal {T : List Fn} {k : Nat} (h : Has T f_equal) (e : SpEffects (FW T k)) : SpEqual (FW T (k + 1)) := fun n xs ys Q h1 h2 h3 q => run_of h rfl (w_equal e n xs ys h1 h2 h3 q)
/-! the mathematics of two commands -/
theorem comm_eff {a b : Cmd} (h : comB a b = true) (j : Nat) (p : Pr) : effF j (effF j p a) b = effF j (effF j p b) a := by
  unfold comB at h
  simp only [Bool.or_eq_true, beq_iff_eq, decide_eq_true_eq] at h
  unfold effF
  rcases h with (h | h) | h
  · rw [h]
    split <;> split <;> rfl
  · split <;> split <;> first | rfl | omega
  · split <;> split <;> first | rfl | omega
theorem comm_no {a b : Cmd} (h : comB a b = false) (ha : a.s < a.e) (hb : b.s < b.e) : effP [a, b] (max a.s b.s) ≠ effP [b, a] (max a.s b.s) ∧ (effP [a, b] (max a.s b.s)).2 ≠ (effP [b, a] (max a.s b.s)).2 := by
  unfold comB at h
  simp only [Bool.or_eq_false_iff, beq_eq_false_iff_ne, decide_eq_false_iff_not] at h
  obtain ⟨⟨h1, h2⟩, h3⟩ := h
  have e1 : a.s ≤ max a.s b.s ∧ max a.s b.s < a.e := by omega
  have e2 : b.s ≤ max a.s b.s ∧ max a.s b.s < b.e := by omega
  have key : (effP [a, b] (max a.s b.s)).2 ≠ (effP [b, a] (max a.s b.s)).2 := by
    simp only [effP, List.foldl_cons, List.foldl_nil, effF]
    rw [if_pos e1, if_pos e2, if_pos e2, if_pos e1]
    obtain ⟨x, s, e⟩ := a
    obtain ⟨y, s', e'⟩ := b
    simp only at h1
    cases x <;> cases y <;> simp_all [stepP] <;> decide
  exact ⟨fun e => key (by rw [e]), key⟩
theorem comm_after {a b : Cmd} (h : comB a b = true) (ha : a.s ≤ a.e) (hb : b.s ≤ b.e) (t : List Int) (ht : ∀ x ∈ t, (0 : Int) ≤ x) : afterI (afterI t a) b = afterI (afterI t b) a := by
  refine List.ext_getElem? fun j => ?_
  have e1 := apply_eff t [a, b] (by simp [ha, hb]) ht j
  have e2 := apply_eff t [b, a] (by simp [ha, hb]) ht j
  have e3 : effP [a, b] j = effP [b, a] j := comm_eff h j (0, 0)
  rw [e3] at e1
  exact e1.trans e2.symm
end Z

namespace Z
open PySem
def SpLAfter (F : FT) : Prop := ∀ t cs Q, t.length ≤ 1000 → (∀ x ∈ t, (0 : Int) ≤ x) → (∀ c ∈ cs, c.s ≤ c.e ∧ c.e ≤ t.length) → Q (tupI (applyI t cs)) → F "_law_after" [tupI t, scrD cs] Q
/-- a list, or none -/
def optD : Option (List Pr) → D
  | some l => lstP l
  | Option.none => .none
def optL (n : Nat) (g : Nat → Option Pr) : Option (List Pr) := if (List.range n).all (fun j => (g j).isSome) = true then some ((List.range n).map fun j => (g j).getD (0, 0)) else Option.none
theorem optL_no {n : Nat} {g : Nat → Option Pr} {j : Nat} (h : j < n) (e : g j = Option.none) : optL n g = Option.none := by
  unfold optL
  rw [if_neg]
  rw [List.all_eq_true]
  intro q
  have := q j (List.mem_range.mpr h)
  rw [e] at this
  cases this
theorem optL_yes {n : Nat} {g : Nat → Option Pr} (h : ∀ j < n, (g j).isSome = true) : optL n g = some ((List.range n).map fun j => (g j).getD (0, 0)) := by
  unfold optL
  rw [if_pos]
  rw [List.all_eq_true]
  intro j hj
  exact h j (List.mem_range.mp hj)
/-- the source of one line -/
def srcP (p : Pr) (w : Int) : Option Pr := if w < p.2 then Option.none else if w = p.2 then some (0, p.2 - p.1) else some (w - p.1, w - p.1)
def srcI (cs : List Cmd) (r : List Int) : Option (List Pr) := optL r.length fun j => srcP (effP cs j) (r.getD j 0)
def SpSources (F : FT) : Prop := ∀ cs r Q, r.length ≤ 1000 → (∀ c ∈ cs, c.s ≤ c.e ∧ c.e ≤ r.length) → Q (optD (srcI cs r)) → F "sources" [scrD cs, tupI r] Q
def SpRanges (F : FT) : Prop := ∀ cs r Q, r.length ≤ 1000 → cs.length ≤ 40 → (∀ x ∈ r, (0 : Int) ≤ x ∧ x ≤ 20) → Q (optD (srcI cs r)) → F "_law_ranges" [scrD cs, tupI r] Q
theorem range_snoc {α : Type} (n : Nat) (g : Nat → α) : (List.range (n + 1)).map g = (List.range n).map g ++ [g n] := by rw [List.range_succ, List.map_append]; rfl
theorem lstP_snoc (l : List Pr) (p : Pr) : lstP (l ++ [p]) = .list (l.map pairD ++ [pairD p]) := by rw [lstP, List.map_append]; rfl
section
variable {F : FT}
theorem w_lafter (hc : SpLChanged F) (t : List Int) (cs : List Cmd) {Q : D → Prop} (hl : t.length ≤ 1000) (ht : ∀ x ∈ t, (0 : Int) ≤ x) (hs : ∀ c ∈ cs, c.s ≤ c.e ∧ c.e ≤ t.length) (q : Q (tupI (applyI t cs))) : wpB F b_law_after (ent 3 [tupI t, scrD cs]) ⟨fun _ => Q .none, Q⟩ := by
  refine for_map cs cmdD (fun i => [.sh (tupI (applyI t (cs.take i))), .sh (scrD cs), .any]) (EnLe.refl _) (fun i c hcm => ?_) ?_
  · have tk : ∀ x ∈ cs.take i, x.s ≤ x.e := fun x hx => (hs x (List.mem_of_mem_take hx)).1
    have al := apply_len (t := t) tk
    have h := hs c (List.mem_of_getElem? hcm)
    refine hc _ c _ (by omega) (apply_ge tk ht) h.1 (by omega) ?_
    refine ⟨?_, rfl, trivial, trivial⟩
    show tupI _ = tupI _
    rw [take_snoc hcm, apply_snoc]
  · show Q _
    rw [List.take_length]
    exact q
theorem w_sources (he : SpEffects F) (cs : List Cmd) (r : List Int) {Q : D → Prop} (hl : r.length ≤ 1000) (hs : ∀ c ∈ cs, c.s ≤ c.e ∧ c.e ≤ r.length) (q : Q (optD (srcI cs r))) : wpB F b_sources (ent 6 [scrD cs, tupI r]) ⟨fun _ => Q .none, Q⟩ := by
  refine ⟨rfl, ?_⟩
  show F "effects" [.int ((r.map PyData.int).length : Nat), scrD cs] _
  rw [List.length_map]
  refine he r.length cs _ hl hs ?_
  have zl : (zipD2 ((effI r.length cs).map pairD) (r.map PyData.int)).length = r.length := by simp [zipD2, effI]
  let g : Nat → Option Pr := fun j => srcP (effP cs j) (r.getD j 0)
  refine ⟨fun k e => k ≤ r.length ∧ (∀ j < k, (g j).isSome = true) ∧ ∃ a b c : Sl, e = [.sh (scrD cs), .sh (tupI r), .ow (lstP ((List.range k).map fun j => (g j).getD (0, 0))), a, b, c], ⟨_, EnLe.refl _, Nat.zero_le _, (fun j hj => absurd hj (Nat.not_lt_zero j)), _, _, _, rfl⟩, ?_, ?_⟩
  · rintro k d e hd ⟨hk, hy, a, b, c, rfl⟩
    have hkl : k < r.length := by
      have := (List.getElem?_eq_some_iff.mp hd).1
      rw [zl] at this
      exact this
    have hd2 : d = .tuple [pairD (effP cs k), .int r[k]] := by
      have h1 : ((effI r.length cs).map pairD)[k]? = some (pairD (effP cs k)) := by rw [List.getElem?_map, effI, rm_get _ _ hkl]; rfl
      have h2 : (r.map PyData.int)[k]? = some (.int r[k]) := by rw [List.getElem?_map, List.getElem?_eq_getElem hkl]; rfl
      unfold zipD2 at hd
      rw [List.getElem?_map, (List.getElem?_zip_eq_some (z := (pairD (effP cs k), .int r[k]))).mpr ⟨h1, h2⟩] at hd
      exact (Option.some.inj hd).symm
    subst hd2
    have eg : r.getD k 0 = r[k] := by rw [List.getD_eq_getElem?_getD, List.getElem?_eq_getElem hkl]; rfl
    show if decide (r[k] < (effP cs k).2) = true then _ else _
    by_cases h1 : r[k] < (effP cs k).2
    · rw [if_pos (decide_eq_true h1)]
      have e0 : srcI cs r = Option.none := optL_no hkl (by show srcP _ _ = _; unfold srcP; rw [eg, if_pos h1])
      show Q .none
      rw [e0] at q
      exact q
    · rw [if_neg (by simpa using h1)]
      refine ⟨⟨(ok_int _).shp, (ok_int _).shp⟩, ?_⟩
      rw [eqvE (decide (r[k] = (effP cs k).2)) (ok_int _) (ok_int _) (by rw [decide_eq_true_eq, int_inj])]
      have hlen : ((((List.range k).map fun j => (g j).getD (0, 0)).map pairD)).length < SZ := by
        simp only [List.length_map, List.length_range]; show k < 16777216; omega
      have hk1 : ∀ p, g k = some p → ∀ j < k + 1, (g j).isSome = true := fun p hp j hj => by
        by_cases e : j = k
        · rw [e, hp]; rfl
        · exact hy j (by omega)
      have fin : ∀ p, g k = some p → PyData.list ((((List.range k).map fun j => (g j).getD (0, 0)).map pairD) ++ [pairD p]) = lstP ((List.range (k + 1)).map fun j => (g j).getD (0, 0)) := fun p hp => by
        rw [range_snoc, lstP, List.map_append, hp]
        rfl
      by_cases h2 : r[k] = (effP cs k).2
      · have hp : g k = some (0, (effP cs k).2 - (effP cs k).1) := by show srcP _ _ = _; unfold srcP; rw [eg, if_neg h1, if_pos h2]
        rw [decide_eq_true h2]
        refine ⟨hlen, _, EnLe.refl _, hkl, hk1 _ hp, .sh (.int (effP cs k).1), .sh (.int (effP cs k).2), .sh (.int r[k]), ?_⟩
        rw [← fin _ hp]
        rfl
      · have hp : g k = some (r[k] - (effP cs k).1, r[k] - (effP cs k).1) := by show srcP _ _ = _; unfold srcP; rw [eg, if_neg h1, if_neg h2]
        rw [decide_eq_false h2]
        refine ⟨hlen, _, EnLe.refl _, hkl, hk1 _ hp, .sh (.int (effP cs k).1), .sh (.int (effP cs k).2), .sh (.int r[k]), ?_⟩
        rw [← fin _ hp]
        rfl
  · rintro e ⟨_, hy, a, b, c, rfl⟩
    rw [zl] at hy ⊢
    show Q (lstP _)
    rw [srcI, optL_yes hy] at q
    exact q
/-- the good starts of a line -/
def loN (p : Pr) (w : Int) : Nat := if w ≤ p.2 then 0 else (w - p.1).toNat
def hiN (p : Pr) (w : Int) : Nat := if w < p.2 then 0 else if w = p.2 then (p.2 - p.1 + 1).toNat else (w - p.1).toNat + 1
theorem good_iff {p : Pr} {w : Int} (h : p.1 ≤ p.2) (k : Nat) : doP p k = w ↔ loN p w ≤ k ∧ k < hiN p w := by
  unfold doP loN hiN
  split <;> split <;> (try split) <;> omega
theorem effP_len (cs : List Cmd) (j : Nat) : (effP cs j).2 - (effP cs j).1 ≤ cs.length ∧ -(cs.length : Int) ≤ (effP cs j).1 := by
  have : ∀ (cs : List Cmd) (p : Pr) (n : Int), p.2 - p.1 ≤ n → -n ≤ p.1 → 0 ≤ p.2 → ((cs.foldl (effF j) p).2 - (cs.foldl (effF j) p).1 ≤ n + cs.length ∧ -(n + cs.length) ≤ (cs.foldl (effF j) p).1) := fun cs => by
    induction cs with
    | nil => intro p n h1 h2 h3; simp only [List.foldl_nil, List.length_nil]; omega
    | cons c cs ih =>
      intro p n h1 h2 h3
      have hh : (effF j p c).2 - (effF j p c).1 ≤ n + 1 ∧ -(n + 1) ≤ (effF j p c).1 ∧ 0 ≤ (effF j p c).2 := by
        unfold effF stepP
        split
        · split <;> simp only <;> omega
        · omega
      have := ih (effF j p c) (n + 1) hh.1 hh.2.1 hh.2.2
      simp only [List.foldl_cons, List.length_cons]
      omega
  have := this cs (0, 0) 0 (by decide) (by decide) (by decide)
  simp only [effP]
  omega
abbrev rngI (lo n : Nat) : List Int := (List.range n).map fun k => ((lo + k : Nat) : Int)
theorem w_ranges (cs : List Cmd) (r : List Int) {Q : D → Prop} (hl : r.length ≤ 1000) (hcl : cs.length ≤ 40) (hr : ∀ x ∈ r, (0 : Int) ≤ x ∧ x ≤ 20) (q : Q (optD (srcI cs r))) : wpB F b_law_ranges (ent 11 [scrD cs, tupI r]) ⟨fun _ => Q .none, Q⟩ := by
  refine ⟨rfl, ?_⟩
  let g : Nat → Option Pr := fun j => srcP (effP cs j) (r.getD j 0)
  have zl : (enumD (r.map PyData.int)).length = r.length := by simp [enumD]
  refine ⟨fun k e => k ≤ r.length ∧ (∀ j < k, (g j).isSome = true) ∧ ∃ a1 a2 a3 a4 a5 a6 a7 a8 : Sl, e = [.sh (scrD cs), .sh (tupI r), .ow (lstP ((List.range k).map fun j => (g j).getD (0, 0))), a1, a2, a3, a4, a5, a6, a7, a8], ⟨_, EnLe.refl _, Nat.zero_le _, (fun j hj => absurd hj (Nat.not_lt_zero j)), _, _, _, _, _, _, _, _, rfl⟩, ?_, ?_⟩
  · rintro k d e hd ⟨hk, hy, a1, a2, a3, a4, a5, a6, a7, a8, rfl⟩
    have hkl : k < r.length := by
      have := (List.getElem?_eq_some_iff.mp hd).1
      rw [zl] at this
      exact this
    have hd2 : d = .tuple [.int (k : Nat), .int r[k]] := by
      simp [enumD, hkl] at hd
      exact hd.symm
    subst hd2
    have eg : r.getD k 0 = r[k] := by rw [List.getD_eq_getElem?_getD, List.getElem?_eq_getElem hkl]; rfl
    have hw := hr r[k] (List.getElem_mem hkl)
    have pg := effP_ge cs k
    have pl := effP_len cs k
    have gk : g k = srcP (effP cs k) r[k] := by show srcP _ _ = _; rw [eg]
    generalize hp : effP cs k = p at pg pl gk
    generalize hwk : r[k] = w at hw gk
    have hhi : hiN p w ≤ 61 := by unfold hiN; split <;> (try split) <;> omega
    refine ⟨⟨by decide, by decide⟩, ?_⟩
    refine for_rng (fun s => [.sh (scrD cs), .sh (tupI r), .ow (lstP ((List.range k).map fun j => (g j).getD (0, 0))), .sh (.int (k : Nat)), .sh (.int w), .sh (lstI (rngI (loN p w) (min s (hiN p w) - loN p w))), .any, .any, .any, .any, .any]) ⟨rfl, rfl, rfl, rfl, rfl, ?_, trivial, trivial, trivial, trivial, trivial, trivial⟩ (fun s hs => ?_) ?_
    · show PyData.list _ = PyData.list _
      rw [Nat.zero_min, Nat.zero_sub]
      rfl
    · have hs61 : s < 61 := hs
      refine for_map cs cmdD (fun m => [.sh (scrD cs), .sh (tupI r), .ow (lstP ((List.range k).map fun j => (g j).getD (0, 0))), .sh (.int (k : Nat)), .sh (.int w), .sh (lstI (rngI (loN p w) (min s (hiN p w) - loN p w))), .sh (.int (0 + (s : Nat))), .sh (.int (doP (effP (cs.take m) k) s)), .any, .any, .any]) ⟨rfl, rfl, rfl, rfl, rfl, rfl, rfl, ?_, trivial, trivial, trivial, trivial⟩ (fun m c hm => ?_) ?_
      · show PyData.int _ = PyData.int _
        congr 1
        show (0 : Int) + s = max ((s : Int) + 0) 0
        omega
      · have e1 : effP (cs.take (m + 1)) k = effF k (effP (cs.take m) k) c := by rw [take_snoc hm, effP_snoc]
        obtain ⟨b, u, v⟩ := c
        show if decide ((u : Int) ≤ (k : Int)) = true then (if decide ((k : Int) < (v : Int)) = true then _ else _) else _
        have no : ¬ (u ≤ k ∧ k < v) → EnLe [.sh (scrD cs), .sh (tupI r), .ow (lstP ((List.range k).map fun j => (g j).getD (0, 0))), .sh (.int (k : Nat)), .sh (.int w), .sh (lstI (rngI (loN p w) (min s (hiN p w) - loN p w))), .sh (.int (0 + (s : Nat))), .sh (.int (doP (effP (cs.take m) k) s)), .sh (nmD b), .sh (.int u), .sh (.int v)]
            [.sh (scrD cs), .sh (tupI r), .ow (lstP ((List.range k).map fun j => (g j).getD (0, 0))), .sh (.int (k : Nat)), .sh (.int w), .sh (lstI (rngI (loN p w) (min s (hiN p w) - loN p w))), .sh (.int (0 + (s : Nat))), .sh (.int (doP (effP (cs.take (m + 1)) k) s)), .any, .any, .any] := fun h => by
          rw [e1]
          unfold effF
          rw [if_neg h]
          exact ⟨rfl, rfl, rfl, rfl, rfl, rfl, rfl, rfl, trivial, trivial, trivial, trivial⟩
        by_cases h1 : u ≤ k
        · rw [if_pos (decide_eq_true (by omega))]
          by_cases h2 : k < v
          · rw [if_pos (decide_eq_true (by omega))]
            have e2 : effF k (effP (cs.take m) k) ⟨b, u, v⟩ = stepP b (effP (cs.take m) k) := by unfold effF; rw [if_pos ⟨h1, h2⟩]
            refine ⟨⟨(ok_nm b).shp, ok_in.shp⟩, ?_⟩
            rw [eqv_in b, e1, e2]
            cases b with
            | true =>
              refine ⟨rfl, rfl, rfl, rfl, rfl, rfl, rfl, ?_, trivial, trivial, trivial, trivial⟩
              show PyData.int _ = PyData.int _
              simp only [stepP, if_true, doP]
              congr 1
              omega
            | false =>
              refine ⟨rfl, rfl, rfl, rfl, rfl, rfl, rfl, ?_, trivial, trivial, trivial, trivial⟩
              show PyData.int _ = PyData.int _
              simp only [stepP, Bool.false_eq_true, if_false, doP]
              congr 1
              omega
          · rw [if_neg (by simpa using h2)]
            exact no (by omega)
        · rw [if_neg (by simpa using h1)]
          exact no (by omega)
      · -- the start is good or not
        show wpB F _ _ _
        rw [List.take_length, hp]
        refine ⟨⟨(ok_int _).shp, (ok_int _).shp⟩, ?_⟩
        rw [eqvE (decide (doP p s = w)) (ok_int _) (ok_int _) (by rw [decide_eq_true_eq, int_inj])]
        have ll : ((rngI (loN p w) (min s (hiN p w) - loN p w)).map PyData.int).length ≤ 61 := by simp only [rngI, List.length_map, List.length_range]; omega
        by_cases hq : doP p s = w
        · rw [decide_eq_true hq]
          refine ⟨⟨by decide, by decide, by show 1 ≤ 1000; decide⟩, ?_, ?_⟩
          · rw [List.length_flatten]
            show _ + 1 ≤ 16777216
            omega
          · refine ⟨rfl, rfl, rfl, rfl, rfl, ?_, trivial, trivial, trivial, trivial, trivial, trivial⟩
            show PyData.list _ = PyData.list _
            have hi := (good_iff pg.2 s).mp hq
            have e1 : min (s + 1) (hiN p w) - loN p w = (min s (hiN p w) - loN p w) + 1 := by omega
            rw [e1, rngI, rngI, range_snoc, List.map_append]
            have e2 : loN p w + (min s (hiN p w) - loN p w) = s := by omega
            rw [e2]
            show PyData.list (_ ++ [PyData.int (0 + (s : Int))]) = PyData.list (_ ++ [PyData.int (s : Int)])
            rw [Int.zero_add]
        · rw [decide_eq_false hq]
          refine ⟨⟨by decide, by decide, by show 1 ≤ 1000; decide⟩, ?_, ?_⟩
          · show _ + 0 ≤ 16777216
            omega
          · refine ⟨rfl, rfl, rfl, rfl, rfl, ?_, trivial, trivial, trivial, trivial, trivial, trivial⟩
            show PyData.list (_ ++ []) = PyData.list _
            have hi : ¬ (loN p w ≤ s ∧ s < hiN p w) := fun z => hq ((good_iff pg.2 s).mpr z)
            have e1 : min (s + 1) (hiN p w) - loN p w = min s (hiN p w) - loN p w := by omega
            rw [e1, List.append_nil]
    · -- the good ones
      show wpB F _ _ _
      have e61 : min (Int.toNat 61) (hiN p w) = hiN p w := by show min 61 _ = _; omega
      rw [show (61 : Int).toNat = 61 from rfl, Nat.min_eq_right hhi]
      generalize hgl : hiN p w - loN p w = n
      have hn : n ≤ 61 := by omega
      refine ⟨⟨(ok_lstI _).shp, (ok_lstI []).shp⟩, ?_⟩
      rw [show PyData.eqv (lstI (rngI (loN p w) n)) (.list []) = decide (n = 0) from eqvE (b := lstI []) _ (ok_lstI _) (ok_lstI []) (by
        rw [decide_eq_true_eq, lstI_inj]
        constructor
        · rintro rfl; rfl
        · intro h
          have := congrArg List.length h
          simpa [rngI] using this)]
      by_cases h0 : n = 0
      · rw [decide_eq_true h0]
        have e0 : g k = Option.none := by
          rw [gk]
          unfold srcP
          unfold hiN loN at hgl
          by_cases h1 : w < p.2
          · rw [if_pos h1]
          · exfalso
            rw [if_neg h1] at hgl
            by_cases h2 : w = p.2
            · rw [if_pos h2, if_pos (by omega)] at hgl; omega
            · rw [if_neg h2, if_neg (by omega)] at hgl; omega
        have e1 : srcI cs r = Option.none := optL_no hkl e0
        show Q .none
        rw [e1] at q
        exact q
      · rw [decide_eq_false h0]
        have at0 : atI ((rngI (loN p w) n).map PyData.int) 0 = some (.int (loN p w)) := by
          have := rm_at n (fun k => PyData.int ((loN p w + k : Nat) : Int)) (k := 0) (by omega)
          rw [rngI, List.map_map]
          exact this
        obtain ⟨m, rfl⟩ : ∃ m, n = m + 1 := ⟨n - 1, by omega⟩
        have at1 : atI ((rngI (loN p w) (m + 1)).map PyData.int) (-1) = some (.int ((loN p w + m : Nat) : Int)) := by
          rw [rngI, range_snoc, List.map_append]
          exact atI_last
        have hlo : loN p w ≤ 61 := by omega
        refine ⟨_, at0, _, at1, ⟨⟨by omega, by omega⟩, ⟨by omega, by omega⟩, ?_⟩, ?_⟩
        · show _ ≤ 16777216
          omega
        have er : PyData.list (rngD (loN p w) (((loN p w + m : Nat) : Int) + 1 - (loN p w : Int)).toNat) = lstI (rngI (loN p w) (m + 1)) := by
          rw [show (((loN p w + m : Nat) : Int) + 1 - (loN p w : Int)).toNat = m + 1 by omega, lstI, rngI, rngD, List.map_map]
          rfl
        rw [er]
        refine ⟨⟨(ok_lstI _).shp, (ok_lstI _).shp⟩, ?_⟩
        rw [eqvT (ok_lstI _) (ok_lstI _) rfl]
        have hg : g k = some ((loN p w : Int), ((loN p w + m : Nat) : Int)) := by
          rw [gk]
          unfold srcP
          unfold hiN at hgl
          by_cases h1 : w < p.2
          · rw [if_pos h1] at hgl; omega
          · rw [if_neg h1] at hgl ⊢
            by_cases h2 : w = p.2
            · rw [if_pos h2] at hgl ⊢
              have : loN p w = 0 := by unfold loN; rw [if_pos (by omega)]
              rw [this] at hgl ⊢
              congr 2
              omega
            · rw [if_neg h2] at hgl ⊢
              have : loN p w = (w - p.1).toNat := by unfold loN; rw [if_neg (by omega)]
              rw [this] at hgl ⊢
              congr 2 <;> omega
        refine ⟨_, at0, _, at1, ?_, ?_⟩
        · simp only [List.length_map, List.length_range]; show k < 16777216; omega
        · refine ⟨_, EnLe.refl _, hkl, fun j hj => ?_, .sh (.int (k : Nat)), .sh (.int w), .sh (lstI (rngI (loN p w) (m + 1))), .any, .any, .any, .any, .any, ?_⟩
          · by_cases e : j = k
            · rw [e, hg]; rfl
            · exact hy j (by omega)
          · rw [range_snoc (g := fun j => (g j).getD (0, 0)), lstP_snoc, hg]
            rfl
  · rintro e ⟨_, hy, a1, a2, a3, a4, a5, a6, a7, a8, rfl⟩
    rw [zl] at hy ⊢
    show Q (lstP _)
    rw [srcI, optL_yes hy] at q
    exact q
end
theorem i_lafter {T : List Fn} {k : Nat} (h : Has T f_law_after) (c : SpLChanged (FW T k)) : SpLAfter (FW T (k + 1)) := fun t cs Q h1 h2 h3 q => run_of h rfl (w_lafter c t cs h1 h2 h3 q)
theorem i_sources {T : List Fn} {k : Nat} (h : Has T f_sources) (c : SpEffects (FW T k)) : SpSources (FW T (k + 1)) := fun cs r Q h1 h2 q => run_of h rfl (w_sources c cs r h1 h2 q)
theorem i_ranges {T : List Fn} {k : Nat} (h : Has T f_law_ranges) : SpRanges (FW T (k + 1)) := fun cs r Q h1 h2 h3 q => run_of h rfl (w_ranges cs r h1 h2 h3 q)
end Z

namespace Z
open PySem
/-! parts of a text -/
def St.hd : St → St
  | .seq s _ => s
  | s => s
def St.tl : Nat → St → St
  | 0, s => s
  | n + 1, .seq _ t => t.tl n
  | _, s => s
def St.bd : St → St
  | .forS _ _ b => b
  | .whl _ b => b
  | s => s
theorem cut_le {α : Type} (xs : List α) (lo hi : Option Int) : (cut xs lo hi).length ≤ xs.length := by
  unfold cut
  rw [List.length_take, List.length_drop]
  omega
def iv : D → Int
  | .int i => i
  | _ => 0
theorem iv_map (v : List Int) : (v.map PyData.int).map iv = v := by
  rw [List.map_map]
  exact List.map_id'' (fun _ => rfl) v
theorem maxL_ge : ∀ {v : List Int} {x : Int}, x ∈ v → x ≤ maxL v
  | a :: v, x, h => by
    have : ∀ (v : List Int) (a : Int), a ≤ v.foldl max a ∧ ∀ x ∈ v, x ≤ v.foldl max a := fun v => by
      induction v with
      | nil => intro a; exact ⟨Int.le_refl _, fun x h => by cases h⟩
      | cons b v ih =>
        intro a
        have := ih (max a b)
        refine ⟨by simp only [List.foldl_cons]; omega, fun x h => ?_⟩
        rcases List.mem_cons.mp h with rfl | h
        · simp only [List.foldl_cons]; omega
        · exact this.2 x h
    rcases List.mem_cons.mp h with rfl | h
    · exact (this v _).1
    · exact (this v a).2 x h
theorem maxL_mem : ∀ {v : List Int}, v ≠ [] → maxL v ∈ v
  | a :: v, _ => by
    have : ∀ (v : List Int) (a : Int), v.foldl max a = a ∨ v.foldl max a ∈ v := fun v => by
      induction v with
      | nil => intro a; exact .inl rfl
      | cons b v ih =>
        intro a
        simp only [List.foldl_cons]
        rcases ih (max a b) with h | h
        · rw [h]
          by_cases hb : a ≤ b
          · right; rw [show max a b = b by omega]; exact List.mem_cons_self
          · left; omega
        · exact .inr (List.mem_cons_of_mem _ h)
    rcases this v a with h | h
    · show v.foldl max a ∈ _; rw [h]; exact List.mem_cons_self
    · exact List.mem_cons_of_mem _ h
theorem rep_tup (n : Nat) (z : Int) : PyData.tuple (List.replicate (Int.toNat (n : Nat)) [PyData.int z]).flatten = tupI (List.replicate n z) := by
  rw [Int.toNat_natCast, tupI, List.map_replicate]
  simp
end Z

namespace Z
open PySem
theorem rng_at {lo : Int} {n k : Nat} {d : D} (h : (rngD lo n)[k]? = some d) : k < n ∧ d = .int (lo + (k : Nat)) := by
  have hk : k < n := by
    have := (List.getElem?_eq_some_iff.mp h).1
    simpa [rngD] using this
  refine ⟨hk, ?_⟩
  unfold rngD at h
  rw [rm_get n _ hk] at h
  exact (Option.some.inj h).symm
/-! near texts -/
def SpNear (F : FT) : Prop := ∀ dg t (top : Int) Q, 25 ≤ dg.length → t.length ≤ 20 → 1 ≤ t.length → 0 ≤ top → (∀ x ∈ t, (0 : Int) ≤ x) → (∀ v : List Int, v.length = t.length → (∀ x ∈ v, 0 ≤ x ∧ x ≤ top) → Q (tupI v)) → F "_law_near" [lstI dg, tupI t, .int top] Q
section
variable {F : FT}
theorem w_near (hc : SpLChanged F) (hm : SpCommand F) (dg t : List Int) (top : Int) {Q : D → Prop} (hl : 25 ≤ dg.length) (ht : t.length ≤ 20) (ht1 : 1 ≤ t.length) (h0 : 0 ≤ top) (hge : ∀ x ∈ t, (0 : Int) ≤ x) (q : ∀ v : List Int, v.length = t.length → (∀ x ∈ v, 0 ≤ x ∧ x ≤ top) → Q (tupI v)) :
    wpB F b_law_near (ent 6 [lstI dg, tupI t, .int top]) ⟨fun _ => Q .none, Q⟩ := by
  refine ⟨.int (dg.getD 0 0), atG (j := 0) (by omega), by decide, ⟨(ok_int _).shp, (ok_int _).shp⟩, ?_⟩
  rw [eqvE (decide (dg.getD 0 0 % 3 = 0)) (ok_int _) (ok_int _) (by rw [decide_eq_true_eq, int_inj])]
  by_cases h3 : dg.getD 0 0 % 3 = 0
  · rw [decide_eq_true h3]
    refine ⟨(fun d => .int (iv d % (top + 1))), fun d hd => ?_, ?_, ?_⟩
    · rw [cut_map] at hd
      obtain ⟨x, _, rfl⟩ := List.mem_map.mp hd
      exact ⟨by omega, rfl⟩
    · have := cut_le (dg.map PyData.int) (some 1) (some (1 + ((t.map PyData.int).length : Nat)))
      rw [cut_map, List.length_map, List.length_map]
      rw [show (1 : Int) + (t.length : Nat) = ((1 + t.length : Nat) : Int) by omega, show (1 : Int) = ((1 : Nat) : Int) from rfl, cut_nat, List.length_take]
      show _ ≤ 16777216
      omega
    · have e : (cut (dg.map PyData.int) (some 1) (some (1 + ((t.map PyData.int).length : Nat)))).map (fun d => PyData.int (iv d % (top + 1))) = (((dg.drop 1).take t.length).map fun x => x % (top + 1)).map PyData.int := by
        rw [cut_map, List.length_map, show (1 : Int) + (t.length : Nat) = ((1 + t.length : Nat) : Int) by omega, show (1 : Int) = ((1 : Nat) : Int) from rfl, cut_nat, show 1 + t.length - 1 = t.length by omega]
        simp only [List.map_map]
        rfl
      show Q (.tuple _)
      rw [e]
      refine q _ (by simp; omega) fun x hx => ?_
      obtain ⟨y, _, rfl⟩ := List.mem_map.mp hx
      have m1 := Int.emod_nonneg y (show top + 1 ≠ 0 by omega)
      have m2 := Int.emod_lt_of_pos y (show 0 < top + 1 by omega)
      omega
  · rw [decide_eq_false h3]
    have m1 := Int.emod_nonneg (dg.getD 1 0) (show (6 : Int) ≠ 0 by decide)
    have m2 := Int.emod_lt_of_pos (dg.getD 1 0) (show (0 : Int) < 6 by decide)
    refine ⟨.int (dg.getD 1 0), atG (j := 1) (by omega), by decide, ⟨by omega, by omega⟩, ?_⟩
    have rl : (rngD 0 (dg.getD 1 0 % 6).toNat).length = (dg.getD 1 0 % 6).toNat := by simp [rngD]
    refine ⟨fun k e => ∃ (u : List Int) (a b c : Sl), u.length = t.length ∧ (∀ x ∈ u, (0 : Int) ≤ x) ∧ e = [.sh (lstI dg), .sh (tupI u), .sh (.int top), a, b, c], ⟨_, EnLe.refl _, t, _, _, _, rfl, hge, rfl⟩, ?_, ?_⟩
    · rintro k d e hd ⟨u, a, b, c, hu1, hu2, rfl⟩
      obtain ⟨hk, this⟩ := rng_at hd
      subst this
      refine ⟨small_mul ⟨by decide, by decide⟩, small_mul ⟨by decide, by decide⟩, ?_⟩
      have e1 : (2 + 3 * (0 + (k : Int))) = ((2 + 3 * k : Nat) : Int) := by omega
      have e2 : (5 + 3 * (0 + (k : Int))) = ((5 + 3 * k : Nat) : Int) := by omega
      show F "_law_command" [.list (cut (dg.map PyData.int) (some (2 + 3 * (0 + (k : Int)))) (some (5 + 3 * (0 + (k : Int))))), .int ((u.map PyData.int).length : Nat)] _
      rw [cut_map, e1, e2, cut_nat, List.length_map]
      refine hm _ _ _ (by rw [List.length_take, List.length_drop]; omega) (by omega) ?_
      have ok := cmdI_ok (List.take (5 + 3 * k - (2 + 3 * k)) (List.drop (2 + 3 * k) dg)) (L := (u.length : Int)) (by omega)
      generalize cmdI (List.take (5 + 3 * k - (2 + 3 * k)) (List.drop (2 + 3 * k) dg)) (u.length : Int) = c' at ok
      refine hc u c' _ (by omega) hu2 (by omega) (by omega) ?_
      exact ⟨_, EnLe.refl _, afterI u c', a, .sh (.int (0 + (k : Nat))), c, by rw [after_len (by omega)]; exact hu1, after_ge (by omega) hu2, rfl⟩
    · rintro e ⟨u, a, b, c, hu1, hu2, rfl⟩
      refine ⟨(fun d => .int (min top (iv d))), fun d hd => ?_, ?_, ?_⟩
      · obtain ⟨x, _, rfl⟩ := List.mem_map.mp hd
        exact rfl
      · rw [List.length_map]; show _ ≤ 16777216; omega
      · have e : (u.map PyData.int).map (fun d => PyData.int (min top (iv d))) = (u.map fun x => min top x).map PyData.int := by
          simp only [List.map_map]
          rfl
        show Q (.tuple _)
        rw [e]
        refine q _ (by simp [hu1]) fun x hx => ?_
        obtain ⟨y, hy, rfl⟩ := List.mem_map.mp hx
        have := hu2 y hy
        omega
end
theorem i_near {T : List Fn} {k : Nat} (h : Has T f_law_near) (c : SpLChanged (FW T k)) (m : SpCommand (FW T k)) : SpNear (FW T (k + 1)) := fun dg t top Q h1 h2 h3 h4 h5 q => run_of h rfl (w_near c m dg t top h1 h2 h3 h4 h5 q)
/-! all commands -/
def rowC (n : Nat) (b : Bool) (s : Nat) : List Cmd := (List.range (n - s)).map fun k => ⟨b, s, s + 1 + k⟩
def partC (n : Nat) (b : Bool) (m : Nat) : List Cmd := (List.range m).flatMap (rowC n b)
def cmdsI (n : Nat) : List Cmd := partC n true n ++ partC n false n
abbrev lstC (cs : List Cmd) : D := .list (cs.map cmdD)
theorem ok_lstC (cs : List Cmd) : Okd 2 (lstC cs) := ok_lst (ok_map fun x _ => ok_cmd x)
theorem lstC_inj {a b : List Cmd} : lstC a = lstC b ↔ a = b := by rw [PyData.list.injEq]; exact List.map_inj_right fun x y h => cmd_inj.mp h
theorem lstC_snoc (l : List Cmd) (p : Cmd) : lstC (l ++ [p]) = .list (l.map cmdD ++ [cmdD p]) := by rw [lstC, List.map_append]; rfl
theorem part_succ (n : Nat) (b : Bool) (m : Nat) : partC n b (m + 1) = partC n b m ++ rowC n b m := by
  unfold partC
  rw [List.range_succ, List.flatMap_append]
  simp
theorem part_len (n : Nat) (b : Bool) : ∀ m, (partC n b m).length ≤ m * n
  | 0 => by simp [partC]
  | m + 1 => by
    rw [part_succ, List.length_append, Nat.succ_mul]
    have := part_len n b m
    have : (rowC n b m).length ≤ n := by simp [rowC]
    omega
theorem mem_part {n : Nat} {b : Bool} {m : Nat} {c : Cmd} : c ∈ partC n b m ↔ c.inn = b ∧ c.s < m ∧ c.s < c.e ∧ c.e ≤ n := by
  unfold partC rowC
  simp only [List.mem_flatMap, List.mem_range, List.mem_map]
  constructor
  · rintro ⟨s, hs, k, hk, rfl⟩
    simp only
    exact ⟨trivial, hs, by omega, by omega⟩
  · rintro ⟨h1, h2, h3, h4⟩
    refine ⟨c.s, h2, c.e - c.s - 1, by omega, ?_⟩
    obtain ⟨b', s, e⟩ := c
    simp only at h1 h3 h4 ⊢
    subst h1
    congr 1
    omega
theorem mem_cmds {n : Nat} {c : Cmd} : c ∈ cmdsI n ↔ c.s < c.e ∧ c.e ≤ n := by
  unfold cmdsI
  rw [List.mem_append, mem_part, mem_part]
  constructor
  · rintro (h | h) <;> exact ⟨h.2.2.1, h.2.2.2⟩
  · rintro ⟨h1, h2⟩
    cases hb : c.inn
    · exact .inr ⟨rfl, by omega, h1, h2⟩
    · exact .inl ⟨rfl, by omega, h1, h2⟩
theorem cmds_len (n : Nat) : (cmdsI n).length ≤ 2 * (n * n) := by
  unfold cmdsI
  rw [List.length_append]
  have := part_len n true n
  have := part_len n false n
  omega
def SpCommands (f : String) (F : FT) : Prop := ∀ (n : Nat) Q, n ≤ 100 → Q (lstC (cmdsI n)) → F f [.int n] Q
theorem w_commands {F : FT} (n : Nat) {Q : D → Prop} (hn : n ≤ 100) (q : Q (lstC (cmdsI n))) : wpB F b_all_commands (ent 5 [.int n]) ⟨fun _ => Q .none, Q⟩ := by
  let pre : Nat → List Cmd := fun i => match i with | 0 => [] | 1 => partC n true n | _ => cmdsI n
  have nn : n * n ≤ 10000 := Nat.mul_le_mul hn hn
  refine for_map [true, false] nmD (fun i => [.sh (.int n), .sh (lstC (pre i)), .any, .any, .any]) (EnLe.refl _) (fun i b hb => ?_) ?_
  · refine ⟨⟨by omega, by omega⟩, ?_⟩
    have hpre : (pre i).length ≤ 10000 ∧ pre i ++ partC n b n = pre (i + 1) := by
      match i, hb with
      | 0, hb =>
        have : b = true := by simpa using hb.symm
        subst this
        exact ⟨by show 0 ≤ _; omega, by show [] ++ _ = _; rfl⟩
      | 1, hb =>
        have : b = false := by simpa using hb.symm
        subst this
        exact ⟨by have := part_len n true n; show (partC n true n).length ≤ _; omega, rfl⟩
    obtain ⟨hp1, hp2⟩ := hpre
    refine for_rng (fun s => [.sh (.int n), .sh (lstC (pre i ++ partC n b s)), .sh (nmD b), .any, .any]) ⟨rfl, ?_, rfl, trivial, trivial, trivial⟩ (fun s hs => ?_) ?_
    · show lstC _ = lstC _
      simp [partC]
    · have hsn : s < n := by
        have : s < ((n : Int)).toNat := hs
        omega
      refine ⟨⟨⟨by omega, by omega⟩, ⟨by omega, by omega⟩⟩, ?_⟩
      refine ⟨(fun d => match d with | .int e => .tuple [nmD b, .int (0 + (s : Nat)), .int e] | _ => .none), fun d hd => ?_, ?_, ?_, ?_⟩
      · obtain ⟨k, _, rfl⟩ := List.mem_map.mp hd
        exact rfl
      · simp only [rngD, List.length_map, List.length_range]
        show _ ≤ 16777216
        omega
      · have := part_len n b s
        have : s * n ≤ n * n := Nat.mul_le_mul_right n (by omega)
        simp only [rngD, List.length_map, List.length_range, List.length_append]
        show _ ≤ 16777216
        omega
      · have e : (rngD (0 + (s : Int) + 1) ((n : Int) + 1 - (0 + (s : Int) + 1)).toNat).map (fun d => match d with | .int e => PyData.tuple [nmD b, .int (0 + (s : Nat)), .int e] | _ => .none) = (rowC n b s).map cmdD := by
          rw [show ((n : Int) + 1 - (0 + (s : Int) + 1)).toNat = n - s by omega]
          simp only [rngD, rowC, List.map_map]
          refine List.map_congr_left fun k _ => ?_
          show PyData.tuple [nmD b, .int (0 + (s : Int)), .int (0 + (s : Int) + 1 + (k : Int))] = PyData.tuple [nmD b, .int (s : Int), .int ((s + 1 + k : Nat) : Int)]
          rw [show (0 + (s : Int)) = s by omega, show ((s + 1 + k : Nat) : Int) = (s : Int) + 1 + (k : Int) by omega]
        refine ⟨rfl, ?_, rfl, trivial, trivial, trivial⟩
        show PyData.list _ = PyData.list _
        rw [e, part_succ, ← List.append_assoc, List.map_append (l₂ := rowC n b s)]
    · refine ⟨rfl, ?_, trivial, trivial, trivial, trivial⟩
      show lstC _ = lstC _
      rw [show ((n : Int)).toNat = n by omega, hp2]
  · exact q
theorem i_commands {T : List Fn} {k : Nat} (h : Has T f_all_commands) : SpCommands "all_commands" (FW T (k + 1)) := fun n Q h1 q => run_of h rfl (w_commands n h1 q)
theorem i_lcommands {T : List Fn} {k : Nat} (h : Has T f_law_commands) : SpCommands "_law_commands" (FW T (k + 1)) := fun n Q h1 q => run_of h rfl (w_commands n h1 q)
/-! hidden commands -/
def decC : D → Cmd
  | .tuple [.str x, .int s, .int e] => ⟨decide (x = Str.ofString "in"), s.toNat, e.toNat⟩
  | _ => ⟨true, 0, 0⟩
theorem decC_cmd (c : Cmd) : decC (cmdD c) = c := by
  obtain ⟨b, s, e⟩ := c
  cases b
  · show (⟨decide (Str.ofString "out" = Str.ofString "in"), _, _⟩ : Cmd) = _
    rw [decide_eq_false (by decide +kernel)]
    simp
  · show (⟨decide (Str.ofString "in" = Str.ofString "in"), _, _⟩ : Cmd) = _
    rw [decide_eq_true rfl]
    simp
theorem filt_cmd (cs : List Cmd) (p : Cmd → Bool) : (cs.map cmdD).filterMap (fun d => if p (decC d) = true then some d else Option.none) = (cs.filter p).map cmdD := by
  induction cs with
  | nil => rfl
  | cons c cs ih =>
    rw [List.map_cons, List.filterMap_cons, decC_cmd, ih]
    cases h : p c with
    | true => rw [if_pos rfl, List.filter_cons_of_pos h]; rfl
    | false => rw [if_neg Bool.false_ne_true, List.filter_cons_of_neg (by rw [h]; decide)]
def hidI (t : List Int) (cs : List Cmd) (p : Nat) (w : List Int) : List Cmd := (cmdsI t.length).filter fun c => decide (applyI t (cs.take p ++ [c] ++ cs.drop p) = w)
def SpHidden (F : FT) : Prop := ∀ t cs (p : Nat) w Q, t.length ≤ 100 → (∀ c ∈ cs, c.s ≤ c.e ∧ c.e ≤ t.length) → Q (lstC (hidI t cs p w)) → F "hidden_commands" [tupI t, scrD cs, .int p, tupI w] Q
theorem w_hidden {F : FT} (ha : SpApply F) (hf : SpAfter F) (hm : SpCommands "all_commands" F) (t : List Int) (cs : List Cmd) (p : Nat) (w : List Int) {Q : D → Prop} (hl : t.length ≤ 100) (hc : ∀ c ∈ cs, c.s ≤ c.e ∧ c.e ≤ t.length) (q : Q (lstC (hidI t cs p w))) :
    wpB F b_hidden_commands (ent 6 [tupI t, scrD cs, .int p, tupI w]) ⟨fun _ => Q .none, Q⟩ := by
  have h1 : ∀ c ∈ cs.take p, c.s ≤ c.e := fun c h => (hc c (List.mem_of_mem_take h)).1
  have h2 : ∀ c ∈ cs.drop p, c.s ≤ c.e := fun c h => (hc c (List.mem_of_mem_drop h)).1
  show F "apply" [tupI t, .tuple (cut (cs.map cmdD) .none (some (p : Int)))] _
  rw [cut_map, cut_hi]
  refine ha t (cs.take p) _ (by omega) h1 ?_
  have al : (applyI t (cs.take p)).length = t.length := apply_len h1
  show F "all_commands" [.int ((t.map PyData.int).length : Nat)] _
  rw [List.length_map]
  refine hm t.length _ hl ?_
  refine ⟨(fun d => if decide (applyI t (cs.take p ++ [decC d] ++ cs.drop p) = w) = true then some d else Option.none), fun d hd => ?_, ?_, ?_⟩
  · obtain ⟨c, hcm, rfl⟩ := List.mem_map.mp hd
    have hce := mem_cmds.mp hcm
    refine hf _ c _ (by omega) ?_
    show F "apply" [tupI (afterI (applyI t (cs.take p)) c), .tuple (cut (cs.map cmdD) (some (p : Int)) .none)] _
    rw [cut_map, cut_lo]
    refine ha _ (cs.drop p) _ (by rw [after_len (by omega)]; omega) h2 ⟨⟨(ok_tupI _).shp, (ok_tupI _).shp⟩, ?_⟩
    have e : applyI (afterI (applyI t (cs.take p)) c) (cs.drop p) = applyI t (cs.take p ++ [c] ++ cs.drop p) := by simp [applyI, List.foldl_append]
    rw [eqvE (decide (applyI t (cs.take p ++ [c] ++ cs.drop p) = w)) (ok_tupI _) (ok_tupI _) (by rw [decide_eq_true_eq, tupI_inj, e])]
    show if decide (applyI t (cs.take p ++ [c] ++ cs.drop p) = w) = true then (if decide (applyI t (cs.take p ++ [decC (cmdD c)] ++ cs.drop p) = w) = true then _ else _) = _ else (if decide (applyI t (cs.take p ++ [decC (cmdD c)] ++ cs.drop p) = w) = true then _ else _) = _
    rw [decC_cmd]
    split
    · rfl
    · rfl
  · rw [List.length_map]
    have := cmds_len t.length
    have : t.length * t.length ≤ 10000 := Nat.mul_le_mul hl hl
    show _ ≤ 16777216
    omega
  · rw [filt_cmd (cmdsI t.length) fun c => decide (applyI t (cs.take p ++ [c] ++ cs.drop p) = w)]
    exact ⟨rfl, q⟩
theorem i_hidden {T : List Fn} {k : Nat} (h : Has T f_hidden_commands) (a : SpApply (FW T k)) (f : SpAfter (FW T k)) (m : SpCommands "all_commands" (FW T k)) : SpHidden (FW T (k + 1)) := fun t cs p w Q h1 h2 q => run_of h rfl (w_hidden a f m t cs p w h1 h2 q)
end Z

namespace Z
open PySem
/-! certificates -/
abbrev Ln := Int × Option Int
/-- rises from p on -/
def rf : Int → List Int → Int
  | _, [] => 0
  | p, x :: xs => max 0 (x - p) + rf x xs
def lastI : Int → List Int → Int
  | p, [] => p
  | _, x :: xs => lastI x xs
theorem rf_snoc (a : Int) : ∀ (xs : List Int) (p : Int), rf p (xs ++ [a]) = rf p xs + max 0 (a - lastI p xs)
  | [], p => by simp [rf, lastI]
  | x :: xs, p => by
    show max 0 (x - p) + rf x (xs ++ [a]) = max 0 (x - p) + rf x xs + max 0 (a - lastI x xs)
    rw [rf_snoc a xs x]
    omega
theorem last_snoc (a : Int) : ∀ (xs : List Int) (p : Int), lastI p (xs ++ [a]) = a
  | [], p => rfl
  | x :: xs, p => last_snoc a xs x
theorem rf_ge : ∀ (xs : List Int) (p : Int), 0 ≤ rf p xs
  | [], _ => Int.le_refl _
  | x :: xs, p => by
    have := rf_ge xs x
    show 0 ≤ max 0 (x - p) + rf x xs
    omega
/-- the numbers of one line -/
def choI (d w : Int) (lim : Nat) : List Pr := (List.range (lim + 1)).filterMap fun o : Nat => if max 0 (d - o) ≤ w then some ((o : Int), w - max 0 (d - o)) else Option.none
theorem mem_cho {d w : Int} {lim : Nat} {q : Pr} : q ∈ choI d w lim ↔ 0 ≤ q.1 ∧ q.1 ≤ lim ∧ 0 ≤ q.2 ∧ max 0 (d - q.1) + q.2 = w := by
  unfold choI
  rw [List.mem_filterMap]
  constructor
  · rintro ⟨o, ho, h⟩
    rw [List.mem_range] at ho
    split at h
    · cases h
      simp only
      omega
    · cases h
  · rintro ⟨h1, h2, h3, h4⟩
    refine ⟨q.1.toNat, List.mem_range.mpr (by omega), ?_⟩
    have e : ((q.1.toNat : Nat) : Int) = q.1 := by omega
    rw [e, if_pos (by omega)]
    congr 1
    refine Prod.ext rfl ?_
    simp only
    omega
def Al (lim : Nat) (l : Ln) (p q : Pr) : Prop := match l.2 with
  | some w => q ∈ choI l.1 w lim
  | Option.none => q = p
/-- a path of allowed numbers, from p -/
def IsP (lim : Nat) : Pr → List Ln → List Int → List Int → Prop
  | _, [], [], [] => True
  | p, l :: ls, o :: os, n :: ns => Al lim l p (o, n) ∧ IsP lim (o, n) ls os ns
  | _, _, _, _ => False
/-- a certificate -/
def IsC : List Ln → List Int → List Int → Prop
  | [], [], [] => True
  | l :: ls, o :: os, n :: ns => (0 ≤ o ∧ 0 ≤ n ∧ ∀ w, l.2 = some w → max 0 (l.1 - o) + n = w) ∧ IsC ls os ns
  | _, _, _ => False
theorem IsP.len {lim : Nat} : ∀ {ls : List Ln} {p : Pr} {os ns : List Int}, IsP lim p ls os ns → os.length = ls.length ∧ ns.length = ls.length
  | [], _, [], [], _ => ⟨rfl, rfl⟩
  | l :: ls, _, o :: os, n :: ns, h => by
    have := IsP.len h.2
    simp only [List.length_cons, this.1, this.2, and_self]
  | [], _, _ :: _, _, h => h.elim
  | [], _, [], _ :: _, h => h.elim
  | _ :: _, _, [], _, h => h.elim
  | _ :: _, _, _ :: _, [], h => h.elim
theorem IsC.len : ∀ {ls : List Ln} {os ns : List Int}, IsC ls os ns → os.length = ls.length ∧ ns.length = ls.length
  | [], [], [], _ => ⟨rfl, rfl⟩
  | l :: ls, o :: os, n :: ns, h => by
    have := IsC.len h.2
    simp only [List.length_cons, this.1, this.2, and_self]
  | [], _ :: _, _, h => h.elim
  | [], [], _ :: _, h => h.elim
  | _ :: _, [], _, h => h.elim
  | _ :: _, _ :: _, [], h => h.elim
theorem IsP.snoc {lim : Nat} {l : Ln} {a b : Int} : ∀ {ls : List Ln} {p : Pr} {os ns : List Int}, IsP lim p ls os ns → Al lim l (lastI p.1 os, lastI p.2 ns) (a, b) → IsP lim p (ls ++ [l]) (os ++ [a]) (ns ++ [b])
  | [], _, [], [], _, h => ⟨h, trivial⟩
  | _ :: _, _, _ :: _, _ :: _, h, k => ⟨h.1, IsP.snoc h.2 k⟩
  | [], _, _ :: _, _, h, _ => h.elim
  | [], _, [], _ :: _, h, _ => h.elim
  | _ :: _, _, [], _, h, _ => h.elim
  | _ :: _, _, _ :: _, [], h, _ => h.elim
theorem IsP.unsnoc {lim : Nat} {l : Ln} : ∀ {ls : List Ln} {p : Pr} {os ns : List Int}, IsP lim p (ls ++ [l]) os ns → ∃ os' ns' a b, os = os' ++ [a] ∧ ns = ns' ++ [b] ∧ IsP lim p ls os' ns' ∧ Al lim l (lastI p.1 os', lastI p.2 ns') (a, b)
  | [], p, [o], [n], h => ⟨[], [], o, n, rfl, rfl, trivial, h.1⟩
  | [], p, [_], _ :: _ :: _, h => h.2.elim
  | [], p, _ :: _ :: _, _ :: _, h => h.2.elim
  | [], p, [], _, h => h.elim
  | [], p, _ :: _, [], h => h.elim
  | _ :: ls, p, o :: os, n :: ns, h => by
    obtain ⟨os', ns', a, b, e1, e2, h1, h2⟩ := IsP.unsnoc (ls := ls) h.2
    exact ⟨o :: os', n :: ns', a, b, by rw [e1]; rfl, by rw [e2]; rfl, ⟨h.1, h1⟩, h2⟩
  | _ :: _, _, [], _, h => h.elim
  | _ :: _, _, _ :: _, [], h => h.elim
def dP (p q : Pr) : Int := max 0 (q.1 - p.1) + max 0 (q.2 - p.2)
/-- the smallest cost, by the lines from p on -/
def distF (lim : Nat) : Pr → List Ln → Int
  | _, [] => 0
  | p, (_, Option.none) :: ls => distF lim p ls
  | p, (d, some w) :: ls => minL ((choI d w lim).map fun q => dP p q + distF lim q ls)
theorem minL_le : ∀ {v : List Int} {x : Int}, x ∈ v → minL v ≤ x
  | a :: v, x, h => by
    have : ∀ (v : List Int) (a : Int), v.foldl min a ≤ a ∧ ∀ x ∈ v, v.foldl min a ≤ x := fun v => by
      induction v with
      | nil => intro a; exact ⟨Int.le_refl _, fun x h => by cases h⟩
      | cons b v ih =>
        intro a
        have := ih (min a b)
        refine ⟨by simp only [List.foldl_cons]; omega, fun x h => ?_⟩
        rcases List.mem_cons.mp h with rfl | h
        · simp only [List.foldl_cons]; omega
        · exact this.2 x h
    rcases List.mem_cons.mp h with rfl | h
    · exact (this v _).1
    · exact (this v a).2 x h
theorem minL_mem : ∀ {v : List Int}, v ≠ [] → minL v ∈ v
  | a :: v, _ => by
    have : ∀ (v : List Int) (a : Int), v.foldl min a = a ∨ v.foldl min a ∈ v := fun v => by
      induction v with
      | nil => intro a; exact .inl rfl
      | cons b v ih =>
        intro a
        simp only [List.foldl_cons]
        rcases ih (min a b) with h | h
        · rw [h]
          by_cases hb : b ≤ a
          · right; rw [show min a b = b by omega]; exact List.mem_cons_self
          · left; omega
        · exact .inr (List.mem_cons_of_mem _ h)
    rcases this v a with h | h
    · show v.foldl min a ∈ _; rw [h]; exact List.mem_cons_self
    · exact List.mem_cons_of_mem _ h
/-- no certificate costs less -/
theorem dist_le {lim : Nat} : ∀ {ls : List Ln} {p p' : Pr} {os ns : List Int}, (∀ l ∈ ls, l.1 ≤ lim) → p.1 ≤ lim → IsC ls os ns → distF lim p ls ≤ dP p p' + (rf p'.1 os + rf p'.2 ns)
  | [], p, p', [], [], _, _, _ => by
    show 0 ≤ dP p p' + (0 + 0)
    unfold dP
    omega
  | (d, Option.none) :: ls, p, p', o :: os, n :: ns, hl, hp, h => by
    have ih := dist_le (p := p) (p' := (o, n)) (fun l hl' => hl l (List.mem_cons_of_mem _ hl')) hp h.2
    show distF lim p ls ≤ dP p p' + (max 0 (o - p'.1) + rf o os + (max 0 (n - p'.2) + rf n ns))
    unfold dP at ih ⊢
    simp only at ih
    omega
  | (d, some w) :: ls, p, p', o :: os, n :: ns, hl, hp, h => by
    obtain ⟨⟨h1, h2, h3⟩, h4⟩ := h
    have h3 := h3 w rfl
    have hd : d ≤ lim := hl (d, some w) List.mem_cons_self
    simp only at h3
    have ih := dist_le (p := (min o lim, n)) (p' := (o, n)) (fun l hl' => hl l (List.mem_cons_of_mem _ hl')) (by simp only; omega) h4
    have mem : ((min o lim, n) : Pr) ∈ choI d w lim := mem_cho.mpr (by simp only; omega)
    have le := minL_le (List.mem_map_of_mem (f := fun q => dP p q + distF lim q ls) mem)
    show minL _ ≤ dP p p' + (max 0 (o - p'.1) + rf o os + (max 0 (n - p'.2) + rf n ns))
    unfold dP at ih le ⊢
    simp only at ih le
    omega
  | [], _, _, _ :: _, _, _, _, h => h.elim
  | [], _, _, [], _ :: _, _, _, h => h.elim
  | (_, _) :: _, _, _, [], _, _, _, h => h.elim
  | (_, _) :: _, _, _, _ :: _, [], _, _, h => h.elim
/-- .. and one path costs as much -/
theorem dist_at {lim : Nat} : ∀ {ls : List Ln} {p : Pr}, (∀ l ∈ ls, l.1 ≤ lim ∧ ∀ w, l.2 = some w → 0 ≤ w) → ∃ os ns, IsP lim p ls os ns ∧ rf p.1 os + rf p.2 ns = distF lim p ls
  | [], p, _ => ⟨[], [], trivial, rfl⟩
  | (d, Option.none) :: ls, p, hl => by
    obtain ⟨os, ns, h1, h2⟩ := dist_at (ls := ls) (p := p) fun l h => hl l (List.mem_cons_of_mem _ h)
    refine ⟨p.1 :: os, p.2 :: ns, ⟨rfl, h1⟩, ?_⟩
    show max 0 (p.1 - p.1) + rf p.1 os + (max 0 (p.2 - p.2) + rf p.2 ns) = distF lim p ls
    omega
  | (d, some w) :: ls, p, hl => by
    have hd := hl (d, some w) List.mem_cons_self
    have hw := hd.2 w rfl
    have ne : (choI d w lim).map (fun q => dP p q + distF lim q ls) ≠ [] := fun e => by
      have mem : (((lim : Nat) : Int), w) ∈ choI d w lim := mem_cho.mpr (by have := hd.1; simp only at this ⊢; omega)
      have := List.mem_map_of_mem (f := fun q => dP p q + distF lim q ls) mem
      rw [e] at this
      cases this
    obtain ⟨q, hq, e⟩ := List.mem_map.mp (minL_mem ne)
    obtain ⟨os, ns, h1, h2⟩ := dist_at (ls := ls) (p := q) fun l h => hl l (List.mem_cons_of_mem _ h)
    refine ⟨q.1 :: os, q.2 :: ns, ⟨hq, h1⟩, ?_⟩
    show max 0 (q.1 - p.1) + rf q.1 os + (max 0 (q.2 - p.2) + rf q.2 ns) = minL _
    rw [← e, ← h2]
    unfold dP
    omega
theorem IsP.cert {lim : Nat} : ∀ {ls : List Ln} {p : Pr} {os ns : List Int}, 0 ≤ p.1 → 0 ≤ p.2 → IsP lim p ls os ns → IsC ls os ns
  | [], _, [], [], _, _, _ => trivial
  | (d, Option.none) :: ls, p, o :: os, n :: ns, h1, h2, h => by
    have e : ((o, n) : Pr) = p := h.1
    subst e
    exact ⟨⟨h1, h2, fun w hw => by cases hw⟩, IsP.cert h1 h2 h.2⟩
  | (d, some w) :: ls, p, o :: os, n :: ns, h1, h2, h => by
    have m := mem_cho.mp (show ((o, n) : Pr) ∈ choI d w lim from h.1)
    simp only at m
    refine ⟨⟨m.1, m.2.2.1, fun w' hw => ?_⟩, IsP.cert (p := (o, n)) m.1 m.2.2.1 h.2⟩
    cases hw
    exact m.2.2.2
  | [], _, _ :: _, _, _, _, h => h.elim
  | [], _, [], _ :: _, _, _, h => h.elim
  | (_, _) :: _, _, [], _, _, _, h => h.elim
  | (_, _) :: _, _, _ :: _, [], _, _, h => h.elim
/-- the distance of lines: the smallest cost of a certificate -/
structure IsDist (ls : List Ln) (k : Int) : Prop where
  ex : ∃ os ns, IsC ls os ns ∧ rf 0 os + rf 0 ns = k
  le : ∀ os ns, IsC ls os ns → k ≤ rf 0 os + rf 0 ns
theorem IsDist.eq {ls : List Ln} {j k : Int} (h : IsDist ls j) (h' : IsDist ls k) : j = k := by
  obtain ⟨o1, n1, c1, e1⟩ := h.ex
  obtain ⟨o2, n2, c2, e2⟩ := h'.ex
  have := h.le _ _ c2
  have := h'.le _ _ c1
  omega
theorem isDist {lim : Nat} {ls : List Ln} (hl : ∀ l ∈ ls, l.1 ≤ lim ∧ ∀ w, l.2 = some w → 0 ≤ w) : IsDist ls (distF lim (0, 0) ls) := by
  refine ⟨?_, fun os ns h => ?_⟩
  · obtain ⟨os, ns, h1, h2⟩ := dist_at (lim := lim) (p := (0, 0)) hl
    exact ⟨os, ns, h1.cert (Int.le_refl _) (Int.le_refl _), h2⟩
  · have := dist_le (lim := lim) (p := (0, 0)) (p' := (0, 0)) (fun l h => (hl l h).1) (by simp only; omega) h
    unfold dP at this
    simp only at this
    omega
end Z

namespace Z
open PySem
/-! best_counts: the rows of a forward computation -/
structure Ent where
  q : Pr
  c : Int
  o : List Int
  n : List Int
deriving DecidableEq
abbrev valE (e : Ent) : D := .tuple [.int e.c, tupI e.o, tupI e.n]
abbrev entE (e : Ent) : D × D := (pairD e.q, valE e)
abbrev dictE (es : List Ent) : D := .dict (es.map entE)
theorem key_pair (q : Pr) : isKey (pairD q) = true := rfl
theorem eqv_pair (a b : Pr) : PyData.eqv (pairD a) (pairD b) = decide (a = b) := eqvE _ (ok_pair a) (ok_pair b) (by rw [decide_eq_true_eq, pair_inj])
def fndE (es : List Ent) (q : Pr) : Option Ent := es.find? fun e => decide (e.q = q)
theorem dGet_E (es : List Ent) (q : Pr) : dGet (es.map entE) (pairD q) = (fndE es q).map valE := by
  unfold dGet fndE
  induction es with
  | nil => rfl
  | cons e es ih =>
    rw [List.map_cons, List.find?_cons, List.find?_cons, eqv_pair]
    cases h : decide (e.q = q) with
    | true => rfl
    | false => exact ih
theorem dHas_E (es : List Ent) (q : Pr) : dHas (es.map entE) (pairD q) = (fndE es q).isSome := by
  unfold dHas fndE
  induction es with
  | nil => rfl
  | cons e es ih =>
    rw [List.map_cons, List.any_cons, List.find?_cons, eqv_pair]
    cases h : decide (e.q = q) with
    | true => rfl
    | false => rw [Bool.false_or]; exact ih
def putE (es : List Ent) (e : Ent) : List Ent := if (fndE es e.q).isSome = true then es.map (fun x => if x.q = e.q then e else x) else es ++ [e]
theorem dPut_E (es : List Ent) (e : Ent) : dPut (es.map entE) (pairD e.q) (valE e) = (putE es e).map entE := by
  unfold dPut putE
  rw [dHas_E]
  split
  · rw [List.map_map, List.map_map]
    refine List.map_congr_left fun x _ => ?_
    show (if PyData.eqv (pairD x.q) (pairD e.q) = true then (pairD x.q, valE e) else entE x) = entE (if x.q = e.q then e else x)
    rw [eqv_pair]
    by_cases h : x.q = e.q
    · rw [decide_eq_true h, if_pos rfl, if_pos h, h]
    · rw [decide_eq_false h, if_neg Bool.false_ne_true, if_neg h]
  · rw [List.map_append]; rfl
/-- a candidate is looked at -/
def conE (es : List Ent) (e : Ent) : List Ent := match fndE es e.q with
  | Option.none => putE es e
  | some x => if e.c < x.c then putE es e else es
abbrev keysE (es : List Ent) : List Pr := es.map fun e => e.q
theorem fnd_some {es : List Ent} {q : Pr} {x : Ent} (h : fndE es q = some x) : x ∈ es ∧ x.q = q := ⟨List.mem_of_find?_eq_some h, by simpa using List.find?_some h⟩
theorem fnd_none {es : List Ent} {q : Pr} (h : fndE es q = Option.none) : q ∉ keysE es := fun m => by
  obtain ⟨x, hx, e⟩ := List.mem_map.mp m
  have := List.find?_eq_none.mp h x hx
  simp [e] at this
theorem fnd_mem {es : List Ent} (nd : (keysE es).Nodup) {e : Ent} (h : e ∈ es) : fndE es e.q = some e := by
  induction es with
  | nil => cases h
  | cons a es ih =>
    rw [keysE, List.map_cons, List.nodup_cons] at nd
    unfold fndE
    rw [List.find?_cons]
    rcases List.mem_cons.mp h with rfl | h
    · rw [decide_eq_true rfl]
    · have : a.q ≠ e.q := fun z => nd.1 (by rw [z]; exact List.mem_map_of_mem (f := fun e : Ent => e.q) h)
      rw [decide_eq_false this]
      exact ih nd.2 h
/-- what the rows found are, of the candidates looked at -/
structure Fnd (cs es : List Ent) : Prop where
  nd : (keysE es).Nodup
  sub : ∀ x ∈ es, x ∈ cs
  le : ∀ e ∈ cs, ∃ x ∈ es, x.q = e.q ∧ x.c ≤ e.c
theorem Fnd.nil : Fnd [] [] := ⟨List.nodup_nil, fun x h => (by cases h), fun x h => (by cases h)⟩
theorem put_keys {es : List Ent} {e x : Ent} (h : fndE es e.q = some x) : keysE (es.map fun y => if y.q = e.q then e else y) = keysE es := by
  unfold keysE
  rw [List.map_map]
  refine List.map_congr_left fun y _ => ?_
  show (if y.q = e.q then e else y).q = y.q
  split
  · rename_i z; exact z.symm
  · rfl
theorem Fnd.snoc {cs es : List Ent} (h : Fnd cs es) (e : Ent) : Fnd (cs ++ [e]) (conE es e) := by
  unfold conE
  cases hf : fndE es e.q with
  | none =>
    have hp : putE es e = es ++ [e] := by unfold putE; rw [hf]; rfl
    simp only [hp]
    refine ⟨?_, fun x hx => ?_, fun y hy => ?_⟩
    · rw [keysE, List.map_append, List.nodup_append]
      refine ⟨h.nd, by simp, fun a ha b hb => ?_⟩
      have hb' : b = e.q := by simpa using hb
      rw [hb']
      exact fun z => fnd_none hf (z ▸ ha)
    · rcases List.mem_append.mp hx with hx | hx
      · exact List.mem_append_left _ (h.sub x hx)
      · exact List.mem_append_right _ hx
    · rcases List.mem_append.mp hy with hy | hy
      · obtain ⟨x, h1, h2, h3⟩ := h.le y hy
        exact ⟨x, List.mem_append_left _ h1, h2, h3⟩
      · rw [List.mem_singleton] at hy
        subst hy
        exact ⟨y, List.mem_append_right _ List.mem_cons_self, rfl, Int.le_refl _⟩
  | some x =>
    obtain ⟨hx1, hx2⟩ := fnd_some hf
    simp only
    by_cases hlt : e.c < x.c
    · rw [if_pos hlt]
      have hp : putE es e = es.map (fun y => if y.q = e.q then e else y) := by unfold putE; rw [hf]; rfl
      rw [hp]
      refine ⟨by rw [put_keys hf]; exact h.nd, fun y hy => ?_, fun y hy => ?_⟩
      · obtain ⟨z, hz, rfl⟩ := List.mem_map.mp hy
        split
        · exact List.mem_append_right _ List.mem_cons_self
        · exact List.mem_append_left _ (h.sub z hz)
      · have he : e ∈ es.map (fun y => if y.q = e.q then e else y) := List.mem_map.mpr ⟨x, hx1, by rw [if_pos hx2]⟩
        rcases List.mem_append.mp hy with hy | hy
        · obtain ⟨z, h1, h2, h3⟩ := h.le y hy
          by_cases hz : z.q = e.q
          · have : z = x := by
              have a := fnd_mem h.nd h1
              have b := fnd_mem h.nd hx1
              rw [hz, ← hx2, b] at a
              exact (Option.some.inj a).symm
            subst this
            exact ⟨e, he, by rw [← h2, hz], by omega⟩
          · exact ⟨z, List.mem_map.mpr ⟨z, h1, by rw [if_neg hz]⟩, h2, h3⟩
        · rw [List.mem_singleton] at hy
          subst hy
          exact ⟨y, he, rfl, Int.le_refl _⟩
    · rw [if_neg hlt]
      refine ⟨h.nd, fun y hy => List.mem_append_left _ (h.sub y hy), fun y hy => ?_⟩
      rcases List.mem_append.mp hy with hy | hy
      · exact h.le y hy
      · rw [List.mem_singleton] at hy
        subst hy
        exact ⟨x, hx1, hx2, by omega⟩
theorem Fnd.all : ∀ (ds : List Ent) {cs es : List Ent}, Fnd cs es → Fnd (cs ++ ds) (ds.foldl conE es)
  | [], cs, es, h => by rw [List.append_nil]; exact h
  | d :: ds, cs, es, h => by
    have := Fnd.all ds (h.snoc d)
    rw [List.append_assoc] at this
    exact this
theorem nd_len {α : Type} [DecidableEq α] : ∀ {l m : List α}, l.Nodup → (∀ x ∈ l, x ∈ m) → l.length ≤ m.length
  | [], m, _, _ => Nat.zero_le _
  | a :: l, m, nd, h => by
    rw [List.nodup_cons] at nd
    have ha := h a List.mem_cons_self
    have := nd_len (m := m.erase a) nd.2 fun x hx => by
      have : x ≠ a := fun e => nd.1 (e ▸ hx)
      exact (List.mem_erase_of_ne this).mpr (h x (List.mem_cons_of_mem _ hx))
    have e := List.length_erase_of_mem ha
    have : 0 < m.length := List.length_pos_of_mem ha
    rw [List.length_cons]
    omega
def qsE (lim : Nat) (l : Ln) (e : Ent) : List Pr := match l.2 with
  | Option.none => [e.q]
  | some w => choI l.1 w lim
def extE (e : Ent) (q : Pr) : Ent := ⟨q, e.c + max 0 (q.1 - e.q.1) + max 0 (q.2 - e.q.2), e.o ++ [q.1], e.n ++ [q.2]⟩
def candE (lim : Nat) (l : Ln) (es : List Ent) : List Ent := es.flatMap fun e => (qsE lim l e).map (extE e)
def stepE (lim : Nat) (es : List Ent) (l : Ln) : List Ent := (candE lim l es).foldl conE []
def rowsE (lim : Nat) (ls : List Ln) : List Ent := ls.foldl (stepE lim) [⟨(0, 0), 0, [], []⟩]
theorem rows_snoc (lim : Nat) (ls : List Ln) (l : Ln) : rowsE lim (ls ++ [l]) = stepE lim (rowsE lim ls) l := by simp [rowsE]
theorem cho_len (d w : Int) (lim : Nat) : (choI d w lim).length ≤ lim + 1 := by
  unfold choI
  refine Nat.le_trans (List.length_filterMap_le _ _) ?_
  rw [List.length_range]
  exact Nat.le_refl _
/-- the rows of some lines -/
structure RowsOk (lim : Nat) (ls : List Ln) (es : List Ent) : Prop where
  nd : (keysE es).Nodup
  len : es.length ≤ lim + 1
  path : ∀ e ∈ es, IsP lim (0, 0) ls e.o e.n ∧ e.q = (lastI 0 e.o, lastI 0 e.n) ∧ e.c = rf 0 e.o + rf 0 e.n
  le : ∀ o n, IsP lim (0, 0) ls o n → ∃ e ∈ es, e.q = (lastI 0 o, lastI 0 n) ∧ e.c ≤ rf 0 o + rf 0 n
theorem cand_key {lim : Nat} {l : Ln} {es : List Ent} {x : Ent} (h : x ∈ candE lim l es) : ∃ e ∈ es, ∃ q ∈ qsE lim l e, x = extE e q := by
  obtain ⟨e, he, hx⟩ := List.mem_flatMap.mp h
  obtain ⟨q, hq, rfl⟩ := List.mem_map.mp hx
  exact ⟨e, he, q, hq, rfl⟩
theorem al_qs {lim : Nat} {l : Ln} {e : Ent} {q : Pr} : q ∈ qsE lim l e ↔ Al lim l e.q q := by
  unfold qsE Al
  cases l.2 with
  | none => simp
  | some w => exact Iff.rfl
/-- as many rows as the line has numbers, at every moment -/
theorem found_len {lim : Nat} {l : Ln} {es cs fs : List Ent} (hes : es.length ≤ lim + 1) (hc : ∀ x ∈ cs, x ∈ candE lim l es) (h : Fnd cs fs) : fs.length ≤ lim + 1 := by
  have e1 : fs.length = (keysE fs).length := by rw [keysE, List.length_map]
  rw [e1]
  cases hl : l.2 with
  | none =>
    refine Nat.le_trans (nd_len (m := keysE es) h.nd fun q hq => ?_) (by rw [keysE, List.length_map]; exact hes)
    obtain ⟨x, hx, rfl⟩ := List.mem_map.mp hq
    obtain ⟨e, he, q, hq2, rfl⟩ := cand_key (hc x (h.sub x hx))
    unfold qsE at hq2
    rw [hl] at hq2
    simp only [List.mem_singleton] at hq2
    subst hq2
    show e.q ∈ _
    exact List.mem_map_of_mem (f := fun e : Ent => e.q) he
  | some w =>
    refine Nat.le_trans (nd_len (m := choI l.1 w lim) h.nd fun q hq => ?_) (cho_len _ _ _)
    obtain ⟨x, hx, rfl⟩ := List.mem_map.mp hq
    obtain ⟨e, he, q, hq2, rfl⟩ := cand_key (hc x (h.sub x hx))
    unfold qsE at hq2
    rw [hl] at hq2
    exact hq2
theorem rows_ok (lim : Nat) : ∀ (n : Nat) (ls : List Ln), ls.length = n → RowsOk lim ls (rowsE lim ls)
  | 0, ls, h => by
    have : ls = [] := List.length_eq_zero_iff.mp h
    subst this
    refine ⟨by simp [rowsE, keysE], by simp [rowsE], fun e he => ?_, fun o n h => ?_⟩
    · have : e = ⟨(0, 0), 0, [], []⟩ := by simpa [rowsE] using he
      subst this
      exact ⟨trivial, rfl, rfl⟩
    · match o, n, h with
      | [], [], _ => exact ⟨⟨(0, 0), 0, [], []⟩, by simp [rowsE], rfl, Int.le_refl _⟩
      | [], _ :: _, h => exact h.elim
      | _ :: _, _, h => exact h.elim
  | n + 1, ls, h => by
    obtain ⟨ls', l, rfl⟩ : ∃ ls' l, ls = ls' ++ [l] := by
      have hne : ls ≠ [] := fun e => by rw [e] at h; cases h
      exact ⟨ls.dropLast, ls.getLast hne, (List.dropLast_concat_getLast hne).symm⟩
    have ih := rows_ok lim n ls' (by rw [List.length_append] at h; simpa using h)
    rw [rows_snoc]
    have F := Fnd.all (candE lim l (rowsE lim ls')) Fnd.nil
    rw [List.nil_append] at F
    refine ⟨F.nd, found_len ih.len (fun x hx => hx) F, fun x hx => ?_, fun o n' hp => ?_⟩
    · obtain ⟨e, he, q, hq, rfl⟩ := cand_key (F.sub x hx)
      obtain ⟨p1, p2, p3⟩ := ih.path e he
      refine ⟨p1.snoc (by rw [← show e.q = _ from p2]; exact al_qs.mp hq), ?_, ?_⟩
      · show q = (lastI 0 (e.o ++ [q.1]), lastI 0 (e.n ++ [q.2]))
        rw [last_snoc, last_snoc]
      · show e.c + max 0 (q.1 - e.q.1) + max 0 (q.2 - e.q.2) = rf 0 (e.o ++ [q.1]) + rf 0 (e.n ++ [q.2])
        rw [rf_snoc, rf_snoc, p3, p2]
        simp only
        omega
    · obtain ⟨o', n'', a, b, rfl, rfl, h1, h2⟩ := hp.unsnoc
      obtain ⟨e, he, e1, e2⟩ := ih.le _ _ h1
      have hq : ((a, b) : Pr) ∈ qsE lim l e := al_qs.mpr (by rw [e1]; exact h2)
      obtain ⟨x, hx, x1, x2⟩ := F.le (extE e (a, b)) (List.mem_flatMap.mpr ⟨e, he, List.mem_map_of_mem hq⟩)
      refine ⟨x, hx, ?_, ?_⟩
      · rw [x1, last_snoc, last_snoc]; rfl
      · rw [rf_snoc, rf_snoc]
        have : (extE e (a, b)).c = e.c + max 0 (a - lastI 0 o') + max 0 (b - lastI 0 n'') := by
          show e.c + max 0 (a - e.q.1) + max 0 (b - e.q.2) = _
          rw [e1]
        omega
def costsE (es : List Ent) : List Int := es.map fun e => e.c
def bestE (es : List Ent) : Ent := es.getD (idxOf (costsE es) (minL (costsE es))) ⟨(0, 0), 0, [], []⟩
theorem best_ok {es : List Ent} (h : es ≠ []) : idxOf (costsE es) (minL (costsE es)) < es.length ∧ bestE es ∈ es ∧ (bestE es).c = minL (costsE es) ∧ minL (costsE es) ∈ costsE es := by
  have ne : costsE es ≠ [] := fun e => h (by simpa [costsE] using e)
  have hm := minL_mem ne
  have hlt : idxOf (costsE es) (minL (costsE es)) < (costsE es).length := by
    unfold idxOf
    exact List.findIdx_lt_length_of_exists ⟨_, hm, by simp⟩
  have hlt' : idxOf (costsE es) (minL (costsE es)) < es.length := by simpa [costsE] using hlt
  have hb : bestE es = es[idxOf (costsE es) (minL (costsE es))] := by
    unfold bestE
    rw [List.getD_eq_getElem?_getD, List.getElem?_eq_getElem hlt']
    rfl
  refine ⟨hlt', by rw [hb]; exact List.getElem_mem _, ?_, hm⟩
  have e1 : (costsE es)[idxOf (costsE es) (minL (costsE es))]? = some (minL (costsE es)) := by
    rw [List.getElem?_eq_getElem hlt]
    congr 1
    exact beq_iff_eq.mp (List.findIdx_getElem (xs := costsE es) (p := (· == minL (costsE es))) (w := hlt))
  have e2 : (costsE es)[idxOf (costsE es) (minL (costsE es))]? = some (bestE es).c := by
    generalize idxOf (costsE es) (minL (costsE es)) = i at hlt' hb
    rw [costsE, List.getElem?_map, List.getElem?_eq_getElem hlt', hb]
    rfl
  rw [e1] at e2
  exact (Option.some.inj e2).symm
abbrev lnsI (t : List Int) (ws : List (Option Int)) : List Ln := t.zip ws
def limI (t : List Int) : Nat := (maxL t).toNat
def bestI (t : List Int) (ws : List (Option Int)) : Ent := bestE (rowsE (limI t) (lnsI t ws))
def distI (t : List Int) (ws : List (Option Int)) : Int := distF (limI t) (0, 0) (lnsI t ws)
/-- texts and wishes as they come -/
structure TW (t : List Int) (ws : List (Option Int)) : Prop where
  ne : t ≠ []
  ge : ∀ x ∈ t, 0 ≤ x ∧ x ≤ 1000
  wi : ∀ w, some w ∈ ws → 0 ≤ w
theorem TW.ln {t : List Int} {ws : List (Option Int)} (h : TW t ws) : ∀ l ∈ lnsI t ws, l.1 ≤ (limI t : Int) ∧ ∀ w, l.2 = some w → 0 ≤ w := fun l hl => by
  obtain ⟨h1, h2⟩ := List.of_mem_zip (a := l.1) (b := l.2) hl
  refine ⟨?_, fun w hw => h.wi w (hw ▸ h2)⟩
  have := maxL_ge h1
  have := (h.ge l.1 h1).1
  unfold limI
  omega
theorem best_is {t : List Int} {ws : List (Option Int)} (h : TW t ws) : IsP (limI t) (0, 0) (lnsI t ws) (bestI t ws).o (bestI t ws).n ∧ rf 0 (bestI t ws).o + rf 0 (bestI t ws).n = distI t ws ∧ rowsE (limI t) (lnsI t ws) ≠ [] := by
  have R := rows_ok (limI t) _ (lnsI t ws) rfl
  obtain ⟨o, n, p1, p2⟩ := dist_at (lim := limI t) (p := (0, 0)) h.ln
  obtain ⟨e, he, e1, e2⟩ := R.le o n p1
  have ne : rowsE (limI t) (lnsI t ws) ≠ [] := fun z => by rw [z] at he; cases he
  obtain ⟨b1, b2, b3, b4⟩ := best_ok ne
  obtain ⟨q1, q2, q3⟩ := R.path _ b2
  refine ⟨q1, ?_, ne⟩
  have le1 : minL (costsE (rowsE (limI t) (lnsI t ws))) ≤ e.c := minL_le (List.mem_map_of_mem (f := fun e : Ent => e.c) he)
  have ge1 := (isDist h.ln).le _ _ (q1.cert (Int.le_refl _) (Int.le_refl _))
  have b3' : (bestI t ws).c = minL (costsE (rowsE (limI t) (lnsI t ws))) := b3
  have q3' : (bestI t ws).c = rf 0 (bestI t ws).o + rf 0 (bestI t ws).n := q3
  have ge1' : distF (limI t) (0, 0) (lnsI t ws) ≤ rf 0 (bestI t ws).o + rf 0 (bestI t ws).n := ge1
  have p2' : rf 0 o + rf 0 n = distF (limI t) (0, 0) (lnsI t ws) := p2
  unfold distI
  omega
end Z

namespace Z
open PySem
def optI : Option Int → D
  | some w => .int w
  | Option.none => .none
abbrev wishD (ws : List (Option Int)) : D := .tuple (ws.map optI)
theorem ok_opti (w : Option Int) : Okd 0 (optI w) := by
  cases w with
  | none => exact ok_none
  | some w => exact ok_int w
theorem ok_wish (ws : List (Option Int)) : Okd 1 (wishD ws) := ok_tup (ok_map fun w _ => ok_opti w)
theorem opti_inj {a b : Option Int} : optI a = optI b ↔ a = b := by cases a <;> cases b <;> simp [optI]
def SpRises (F : FT) : Prop := ∀ c Q, c.length ≤ 1000 → Q (.int (rf 0 c)) → F "rises" [tupI c] Q
def SpChoices (F : FT) : Prop := ∀ (d w : Int) (lim : Nat) Q, lim ≤ 1000 → Q (lstP (choI d w lim)) → F "choices" [.int d, .int w, .int lim] Q
def SpBest (F : FT) : Prop := ∀ t ws Q, TW t ws → t.length ≤ 1000 → Q (.tuple [tupI (bestI t ws).o, tupI (bestI t ws).n]) → F "best_counts" [tupI t, wishD ws] Q
def SpCost (F : FT) : Prop := ∀ o n Q, o.length ≤ 1000 → n.length ≤ 1000 → Q (.int (rf 0 o + rf 0 n)) → F "counts_cost" [tupI o, tupI n] Q
def SpDist (F : FT) : Prop := ∀ t ws Q, TW t ws → t.length ≤ 1000 → Q (.int (distI t ws)) → F "distance" [tupI t, wishD ws] Q
theorem zip_at {α β : Type} {f : α → D} {g : β → D} {xs : List α} {ys : List β} {i : Nat} {d : D} (h : (zipD2 (xs.map f) (ys.map g))[i]? = some d) : ∃ x y, (xs.zip ys)[i]? = some (x, y) ∧ d = .tuple [f x, g y] := by
  unfold zipD2 at h
  rw [List.getElem?_map] at h
  cases hz : ((xs.map f).zip (ys.map g))[i]? with
  | none => rw [hz] at h; cases h
  | some p =>
    rw [hz] at h
    obtain ⟨h1, h2⟩ := List.getElem?_zip_eq_some.mp hz
    rw [List.getElem?_map] at h1 h2
    cases hx : xs[i]? with
    | none => rw [hx] at h1; cases h1
    | some x =>
      cases hy : ys[i]? with
      | none => rw [hy] at h2; cases h2
      | some y =>
        rw [hx] at h1
        rw [hy] at h2
        refine ⟨x, y, List.getElem?_zip_eq_some.mpr ⟨hx, hy⟩, ?_⟩
        have e1 : f x = p.1 := Option.some.inj h1
        have e2 : g y = p.2 := Option.some.inj h2
        rw [e1, e2]
        exact (Option.some.inj h).symm
theorem zipD2_map {α β : Type} (f : α → D) (g : β → D) (xs : List α) (ys : List β) : zipD2 (xs.map f) (ys.map g) = (xs.zip ys).map fun p => .tuple [f p.1, g p.2] := by
  induction xs generalizing ys with
  | nil => rfl
  | cons x xs ih =>
    cases ys with
    | nil => rfl
    | cons y ys => exact congrArg (PyData.tuple [f x, g y] :: ·) (ih ys)
section
variable {F : FT}
theorem w_rises (c : List Int) {Q : D → Prop} (hl : c.length ≤ 1000) (q : Q (.int (rf 0 c))) : wpB F b_rises (ent 3 [tupI c]) ⟨fun _ => Q .none, Q⟩ := by
  let f : D → D := fun d => match d with | .tuple [.int a, .int b] => .int (max 0 (b - a)) | _ => .none
  have e0 : PyData.int 0 :: c.map PyData.int = (0 :: c).map PyData.int := rfl
  refine ⟨?_, f, fun d hd => ?_, ?_, ?_⟩
  · show 1 + _ ≤ 16777216
    rw [List.length_map]; omega
  · obtain ⟨i, hi⟩ := List.getElem?_of_mem hd
    obtain ⟨x, y, _, rfl⟩ := zip_at (f := PyData.int) (g := PyData.int) (xs := 0 :: c) (ys := c) hi
    rfl
  · show (zipD2 ((0 :: c).map PyData.int) (c.map PyData.int)).length ≤ 16777216
    rw [zipD2, List.length_map, List.length_zip, List.length_map, List.length_map]
    omega
  · have key : ∀ (c : List Int) (p : Int), (zipD2 ((p :: c).map PyData.int) (c.map PyData.int)).map f = (List.map (fun x => x) ((p :: c).zipWith (fun a b => max 0 (b - a)) c)).map PyData.int ∧ (List.map (fun x => x) ((p :: c).zipWith (fun a b => max 0 (b - a)) c)).sum = rf p c := fun c => by
      induction c with
      | nil => intro p; exact ⟨rfl, rfl⟩
      | cons x xs ih =>
        intro p
        obtain ⟨h1, h2⟩ := ih x
        refine ⟨?_, ?_⟩
        · show PyData.int (max 0 (x - p)) :: ((zipD2 ((x :: xs).map PyData.int) (xs.map PyData.int)).map f) = PyData.int (max 0 (x - p)) :: _
          rw [h1]
          try rfl
        · show max 0 (x - p) + (List.map (fun x => x) ((x :: xs).zipWith (fun a b => max 0 (b - a)) xs)).sum = max 0 (x - p) + rf x xs
          rw [h2]
    obtain ⟨h1, h2⟩ := key c 0
    refine ⟨_, h1, ?_⟩
    show Q (.int _)
    rw [h2]
    exact q
theorem w_choices (d w : Int) (lim : Nat) {Q : D → Prop} (hl : lim ≤ 1000) (q : Q (lstP (choI d w lim))) : wpB F b_choices (ent 6 [.int d, .int w, .int lim]) ⟨fun _ => Q .none, Q⟩ := by
  let part : Nat → List Pr := fun m => (List.range m).filterMap fun o : Nat => if max 0 (d - o) ≤ w then some ((o : Int), w - max 0 (d - o)) else Option.none
  have psucc : ∀ m : Nat, part (m + 1) = part m ++ (if max 0 (d - (m : Nat)) ≤ w then [((m : Int), w - max 0 (d - (m : Nat)))] else []) := fun m => by
    show List.filterMap _ (List.range (m + 1)) = _
    rw [List.range_succ, List.filterMap_append]
    congr 1
    simp only [List.filterMap_cons, List.filterMap_nil]
    split <;> simp_all
  refine ⟨rfl, ⟨by omega, by omega⟩, ?_⟩
  refine for_rng (fun m => [.sh (.int d), .sh (.int w), .sh (.int lim), .ow (lstP (part m)), .any, .any]) (EnLe.refl _) (fun m hm => ?_) ?_
  · have hm2 : m < ((lim : Int) + 1).toNat := hm
    have cst : (0 + (m : Int)) = (m : Int) := by omega
    have e1 : max 0 (d - (0 + (m : Int))) = max 0 (d - (m : Int)) := by rw [cst]
    show if decide (max 0 (d - (0 + (m : Int))) ≤ w) = true then _ else _
    have pl : (part m).length ≤ m := by
      refine Nat.le_trans (List.length_filterMap_le _ _) ?_
      rw [List.length_range]; exact Nat.le_refl _
    by_cases h : max 0 (d - (m : Int)) ≤ w
    · rw [if_pos (decide_eq_true (by rw [e1]; exact h))]
      refine ⟨by rw [List.length_map]; show _ < 16777216; omega, rfl, rfl, rfl, ?_, trivial, trivial, trivial⟩
      show PyData.list (_ ++ [PyData.tuple [.int (0 + (m : Int)), .int (w - max 0 (d - (0 + (m : Int))))]]) = lstP (part (m + 1))
      rw [psucc, if_pos h, lstP_snoc, cst]
    · rw [if_neg (by rw [decide_eq_true_eq, e1]; exact h)]
      refine ⟨rfl, rfl, rfl, ?_, trivial, trivial, trivial⟩
      show lstP _ = lstP _
      rw [psucc, if_neg h, List.append_nil]
  · show Q (lstP (part ((lim : Int) + 1).toNat))
    rw [show ((lim : Int) + 1).toNat = lim + 1 by omega]
    exact q
theorem keys_at {es : List Ent} {m : Nat} {d : D} (h : ((es.map entE).map (·.1))[m]? = some d) : ∃ e, es[m]? = some e ∧ d = pairD e.q := by
  rw [List.map_map, List.getElem?_map] at h
  cases he : es[m]? with
  | none => rw [he] at h; cases h
  | some e => rw [he] at h; exact ⟨e, rfl, (Option.some.inj h).symm⟩
theorem flat_snoc {α β : Type} (f : α → List β) {xs : List α} {m : Nat} {x : α} (h : xs[m]? = some x) : (xs.take (m + 1)).flatMap f = (xs.take m).flatMap f ++ f x := by
  rw [take_snoc h, List.flatMap_append]
  simp
theorem w_best (hc : SpChoices F) (t : List Int) (ws : List (Option Int)) {Q : D → Prop} (tw : TW t ws) (hl : t.length ≤ 1000) (q : Q (.tuple [tupI (bestI t ws).o, tupI (bestI t ws).n])) :
    wpB F b_best_counts (ent 15 [tupI t, wishD ws]) ⟨fun _ => Q .none, Q⟩ := by
  refine ⟨t, rfl, tw.ne, rfl, ?_⟩
  have hmx : ((limI t : Nat) : Int) = maxL t := by
    have := (tw.ge _ (maxL_mem tw.ne)).1
    unfold limI
    omega
  have hlim : limI t ≤ 1000 := by
    have := (tw.ge _ (maxL_mem tw.ne)).2
    unfold limI
    omega
  have lnl : (lnsI t ws).length ≤ 1000 := by rw [List.length_zip]; omega
  have R : ∀ i, RowsOk (limI t) ((lnsI t ws).take i) (rowsE (limI t) ((lnsI t ws).take i)) := fun i => rows_ok _ _ _ rfl
  have zl : (zipD2 (t.map PyData.int) (ws.map optI)).length = (lnsI t ws).length := by rw [zipD2_map, List.length_map]
  refine for_by (fun i => [.sh (tupI t), .sh (wishD ws), .sh (.int (limI t : Nat)), .sh (dictE (rowsE (limI t) ((lnsI t ws).take i))), .any, .any, .any, .any, .any, .any, .any, .any, .any, .any, .any])
    ⟨rfl, rfl, ?_, rfl, trivial, trivial, trivial, trivial, trivial, trivial, trivial, trivial, trivial, trivial, trivial, trivial⟩ (fun i d hd => ?_) ?_
  · show PyData.int _ = PyData.int _
    rw [hmx]
  · obtain ⟨x, y, hxy, rfl⟩ := zip_at hd
    have hxy' : (lnsI t ws)[i]? = some (x, y) := hxy
    have hi := (List.getElem?_eq_some_iff.mp hxy').1
    have Ri := R i
    generalize hes : rowsE (limI t) ((lnsI t ws).take i) = es at Ri
    have til : ((lnsI t ws).take i).length = i := by rw [List.length_take]; omega
    refine ⟨rfl, ?_⟩
    let cand1 : Ent → List Ent := fun e => (qsE (limI t) (x, y) e).map (extE e)
    have kl : ((es.map entE).map (·.1)).length = es.length := by simp
    refine for_by (fun m => [.sh (tupI t), .sh (wishD ws), .sh (.int (limI t : Nat)), .sh (dictE es), .sh (.int x), .sh (optI y), .ow (dictE (((es.take m).flatMap cand1).foldl conE [])), .any, .any, .any, .any, .any, .any, .any, .any])
      ⟨rfl, rfl, rfl, rfl, rfl, rfl, rfl, trivial, trivial, trivial, trivial, trivial, trivial, trivial, trivial, trivial⟩ (fun m d hd2 => ?_) ?_
    · obtain ⟨e, he, rfl⟩ := keys_at hd2
      have hem := List.mem_of_getElem? he
      refine ⟨rfl, valE e, ?_, ?_⟩
      · rw [dGet_E, fnd_mem Ri.nd hem]; rfl
      obtain ⟨pe1, pe2, pe3⟩ := Ri.path e hem
      have pl := pe1.len
      -- the numbers of the line
      have inner : ∀ (P : Po) , P.rt = Q → (∀ e3, EnLe e3 [.sh (tupI t), .sh (wishD ws), .sh (.int (limI t : Nat)), .sh (dictE es), .sh (.int x), .sh (optI y), .ow (dictE (((es.take (m + 1)).flatMap cand1).foldl conE [])), .any, .any, .any, .any, .any, .any, .any, .any] → P.nx e3) →
          ∃ W : Nat → En → Prop, (∃ e0, EnLe [.sh (tupI t), .sh (wishD ws), .sh (.int (limI t : Nat)), .sh (dictE es), .sh (.int x), .sh (optI y), .ow (dictE (((es.take m).flatMap cand1).foldl conE [])), .sh (pairD e.q), .sh (.int e.c), .sh (tupI e.o), .sh (tupI e.n), .any, .any, .any, .any] e0 ∧ W 0 e0) ∧
            (∀ r d e1, ((qsE (limI t) (x, y) e).map pairD)[r]? = some d → W r e1 → bindT (.nm 11) d e1 fun e2 => wpB F (((b_best_counts.tl 2).hd.bd.tl 1).hd.bd.tl 1).hd.bd e2 ⟨fun e3 => ∃ e4, EnLe e3 e4 ∧ W (r + 1) e4, P.rt⟩) ∧ ∀ e1, W ((qsE (limI t) (x, y) e).map pairD).length e1 → P.nx e1 := fun P hP hn => by
        refine for_map (qsE (limI t) (x, y) e) pairD (fun r => [.sh (tupI t), .sh (wishD ws), .sh (.int (limI t : Nat)), .sh (dictE es), .sh (.int x), .sh (optI y), .ow (dictE ((((es.take m).flatMap cand1) ++ ((qsE (limI t) (x, y) e).take r).map (extE e)).foldl conE [])), .sh (pairD e.q), .sh (.int e.c), .sh (tupI e.o), .sh (tupI e.n), .any, .any, .any, .any])
          ⟨rfl, rfl, rfl, rfl, rfl, rfl, ?_, rfl, rfl, rfl, rfl, trivial, trivial, trivial, trivial, trivial⟩ (fun r p hp => ?_) ?_
        · show dictE _ = dictE _
          simp
        · have hpm := List.mem_of_getElem? hp
          -- what was found so far
          have Fn := Fnd.all (((es.take m).flatMap cand1) ++ ((qsE (limI t) (x, y) e).take r).map (extE e)) Fnd.nil
          rw [List.nil_append] at Fn
          have fl := found_len (lim := limI t) (l := (x, y)) Ri.len (fun z hz => by
            rcases List.mem_append.mp hz with hz | hz
            · obtain ⟨a, ha, hz⟩ := List.mem_flatMap.mp hz
              exact List.mem_flatMap.mpr ⟨a, List.mem_of_mem_take ha, hz⟩
            · obtain ⟨b, hb, rfl⟩ := List.mem_map.mp hz
              exact List.mem_flatMap.mpr ⟨e, hem, List.mem_map_of_mem (List.mem_of_mem_take hb)⟩) Fn
          have nxt : (((es.take m).flatMap cand1) ++ ((qsE (limI t) (x, y) e).take (r + 1)).map (extE e)).foldl conE [] = conE ((((es.take m).flatMap cand1) ++ ((qsE (limI t) (x, y) e).take r).map (extE e)).foldl conE []) (extE e p) := by
            rw [take_snoc hp, List.map_append, ← List.append_assoc, List.foldl_append]
            rfl
          generalize hfs : (((es.take m).flatMap cand1) ++ ((qsE (limI t) (x, y) e).take r).map (extE e)).foldl conE [] = fs at fl nxt
          have same : EnLe [.sh (tupI t), .sh (wishD ws), .sh (.int (limI t : Nat)), .sh (dictE es), .sh (.int x), .sh (optI y), .ow (dictE (conE fs (extE e p))), .sh (pairD e.q), .sh (.int e.c), .sh (tupI e.o), .sh (tupI e.n), .sh (pairD p), .sh (.int (extE e p).c), .any, .any]
              [.sh (tupI t), .sh (wishD ws), .sh (.int (limI t : Nat)), .sh (dictE es), .sh (.int x), .sh (optI y), .ow (dictE ((((es.take m).flatMap cand1) ++ ((qsE (limI t) (x, y) e).take (r + 1)).map (extE e)).foldl conE [])), .sh (pairD e.q), .sh (.int e.c), .sh (tupI e.o), .sh (tupI e.n), .any, .any, .any, .any] := by
            rw [nxt]
            exact ⟨rfl, rfl, rfl, rfl, rfl, rfl, rfl, rfl, rfl, rfl, rfl, trivial, trivial, trivial, trivial, trivial⟩
          have put : conE fs (extE e p) = putE fs (extE e p) → wpB F (.seq (.setI 6 (.var 11) (.tup (.cons (.var 12) (.cons (.bin .add (.var 9) (.tup (.cons (.idx (.var 11) (.int 0)) .nil))) (.cons (.bin .add (.var 10) (.tup (.cons (.idx (.var 11) (.int 1)) .nil))) .nil))))) .skip)
              [.sh (tupI t), .sh (wishD ws), .sh (.int (limI t : Nat)), .sh (dictE es), .sh (.int x), .sh (optI y), .ow (dictE fs), .sh (pairD e.q), .sh (.int e.c), .sh (tupI e.o), .sh (tupI e.n), .sh (pairD p), .sh (.int (extE e p).c), .any, .any]
              ⟨fun e3 => EnLe e3 [.sh (tupI t), .sh (wishD ws), .sh (.int (limI t : Nat)), .sh (dictE es), .sh (.int x), .sh (optI y), .ow (dictE ((((es.take m).flatMap cand1) ++ ((qsE (limI t) (x, y) e).take (r + 1)).map (extE e)).foldl conE [])), .sh (pairD e.q), .sh (.int e.c), .sh (tupI e.o), .sh (tupI e.n), .any, .any, .any, .any], P.rt⟩ := fun hcon => by
            refine ⟨_, rfl, ?_, _, rfl, ?_, ⟨rfl, ?_⟩, ?_⟩
            · show _ + 1 ≤ 16777216
              rw [List.length_map]; omega
            · show _ + 1 ≤ 16777216
              rw [List.length_map]; omega
            · rw [List.length_map]; show _ < 16777216; omega
            · have e1 : PyData.tuple [.int (extE e p).c, .tuple (e.o.map PyData.int ++ [.int p.1]), .tuple (e.n.map PyData.int ++ [.int p.2])] = valE (extE e p) := by
                rw [← tupI_snoc, ← tupI_snoc]; rfl
              show EnLe [.sh (tupI t), .sh (wishD ws), .sh (.int (limI t : Nat)), .sh (dictE es), .sh (.int x), .sh (optI y), .ow (.dict (dPut (fs.map entE) (pairD (extE e p).q) (.tuple [.int (extE e p).c, .tuple (e.o.map PyData.int ++ [.int p.1]), .tuple (e.n.map PyData.int ++ [.int p.2])]))), .sh (pairD e.q), .sh (.int e.c), .sh (tupI e.o), .sh (tupI e.n), .sh (pairD p), .sh (.int (extE e p).c), .any, .any] _
              rw [e1, dPut_E, ← hcon]
              exact same
          refine ⟨_, rfl, _, rfl, _, rfl, _, rfl, ?_⟩
          refine ⟨rfl, ?_⟩
          rw [dHas_E]
          cases hfd : fndE fs p with
          | none =>
            have hcon : conE fs (extE e p) = putE fs (extE e p) := by
              unfold conE
              rw [show fndE fs (extE e p).q = Option.none from hfd]
            exact put hcon
          | some z =>
            refine ⟨rfl, valE z, by rw [dGet_E, hfd]; rfl, _, rfl, ?_⟩
            show if decide ((extE e p).c < z.c) = true then _ else _
            by_cases hlt : (extE e p).c < z.c
            · rw [if_pos (decide_eq_true hlt)]
              have hcon : conE fs (extE e p) = putE fs (extE e p) := by
                unfold conE
                rw [show fndE fs (extE e p).q = some z from hfd]
                simp only
                rw [if_pos hlt]
              exact put hcon
            · rw [if_neg (by simpa using hlt)]
              have hcon : conE fs (extE e p) = fs := by
                unfold conE
                rw [show fndE fs (extE e p).q = some z from hfd]
                simp only
                rw [if_neg hlt]
              rw [hcon] at same
              exact same
        · refine hn _ ?_
          rw [List.take_length, flat_snoc cand1 he]
          exact ⟨rfl, rfl, rfl, rfl, rfl, rfl, rfl, trivial, trivial, trivial, trivial, trivial, trivial, trivial, trivial, trivial⟩
      cases y with
      | none => exact inner _ rfl fun e3 h => h
      | some w =>
        refine hc x w (limI t) _ hlim ?_
        exact inner _ rfl fun e3 h => h
    · refine ⟨rfl, rfl, rfl, ?_, trivial, trivial, trivial, trivial, trivial, trivial, trivial, trivial, trivial, trivial, trivial, trivial⟩
      show dictE _ = dictE _
      rw [kl, List.take_length, take_snoc hxy', rows_snoc, hes]
      rfl
  · -- the end
    rw [zl, List.take_length]
    have Rn := rows_ok (limI t) _ (lnsI t ws) rfl
    obtain ⟨_, _, ne⟩ := best_is tw
    have qb : Q (.tuple [tupI (bestE (rowsE (limI t) (lnsI t ws))).o, tupI (bestE (rowsE (limI t) (lnsI t ws))).n]) := q
    generalize rowsE (limI t) (lnsI t ws) = es at Rn ne qb
    obtain ⟨b1, b2, b3, b4⟩ := best_ok ne
    have hln := Rn.len
    have costs : ((es.map entE).map (·.1)).map (fun d => match dGet (es.map entE) d with | some (.tuple (c :: _)) => c | _ => .none) = (costsE es).map PyData.int := by
      rw [costsE, List.map_map, List.map_map, List.map_map]
      refine List.map_congr_left fun e he => ?_
      show (match dGet (es.map entE) (pairD e.q) with | some (.tuple (c :: _)) => c | _ => .none) = PyData.int e.c
      rw [dGet_E, fnd_mem Rn.nd he]
      rfl
    have vals : ((es.map entE).map (·.1)).map (fun d => (dGet (es.map entE) d).getD .none) = es.map valE := by
      rw [List.map_map, List.map_map]
      refine List.map_congr_left fun e he => ?_
      show (dGet (es.map entE) (pairD e.q)).getD .none = valE e
      rw [dGet_E, fnd_mem Rn.nd he]
      rfl
    have kl : ((es.map entE).map (·.1)).length ≤ SZ := by rw [List.length_map, List.length_map]; show _ ≤ 16777216; omega
    refine ⟨(fun d => match dGet (es.map entE) d with | some (.tuple (c :: _)) => c | _ => .none), fun d hd => ?_, kl, ?_⟩
    · obtain ⟨i, hi⟩ := List.getElem?_of_mem hd
      obtain ⟨e, he, rfl⟩ := keys_at hi
      have g : dGet (es.map entE) (pairD e.q) = some (valE e) := by rw [dGet_E, fnd_mem Rn.nd (List.mem_of_getElem? he)]; rfl
      refine ⟨rfl, valE e, g, .int e.c, rfl, ?_⟩
      simp only [g]
    rw [costs]
    refine ⟨(fun d => (dGet (es.map entE) d).getD .none), fun d hd => ?_, kl, ?_⟩
    · obtain ⟨i, hi⟩ := List.getElem?_of_mem hd
      obtain ⟨e, he, rfl⟩ := keys_at hi
      have g : dGet (es.map entE) (pairD e.q) = some (valE e) := by rw [dGet_E, fnd_mem Rn.nd (List.mem_of_getElem? he)]; rfl
      refine ⟨rfl, valE e, g, ?_⟩
      simp only [g, Option.getD_some]
    rw [vals]
    have cne : costsE es ≠ [] := fun z => ne (by simpa [costsE] using z)
    refine ⟨rfl, costsE es, rfl, cne, costsE es, rfl, b4, valE (bestE es), ?_, ?_⟩
    · refine atI_nat ?_
      rw [List.getElem?_map, List.getElem?_eq_getElem b1]
      have : bestE es = es[idxOf (costsE es) (minL (costsE es))] := by
        unfold bestE
        rw [List.getD_eq_getElem?_getD, List.getElem?_eq_getElem b1]
        rfl
      rw [this]
      rfl
    · exact ⟨_, rfl, _, rfl, qb⟩
theorem w_cost (hr : SpRises F) (o n : List Int) {Q : D → Prop} (ho : o.length ≤ 1000) (hn : n.length ≤ 1000) (q : Q (.int (rf 0 o + rf 0 n))) : wpB F b_counts_cost (ent 2 [tupI o, tupI n]) ⟨fun _ => Q .none, Q⟩ :=
  hr o _ ho (hr n _ hn q)
theorem w_dist (hb : SpBest F) (hc : SpCost F) (t : List Int) (ws : List (Option Int)) {Q : D → Prop} (tw : TW t ws) (hl : t.length ≤ 1000) (q : Q (.int (distI t ws))) : wpB F b_distance (ent 4 [tupI t, wishD ws]) ⟨fun _ => Q .none, Q⟩ := by
  refine hb t ws _ tw hl ?_
  obtain ⟨b1, b2, _⟩ := best_is tw
  have pl := b1.len
  have lnl : (lnsI t ws).length ≤ 1000 := by rw [List.length_zip]; omega
  refine hc _ _ _ (by omega) (by omega) ?_
  rw [b2]
  exact q
end
section
variable {T : List Fn} {k : Nat}
theorem i_rises (h : Has T f_rises) : SpRises (FW T (k + 1)) := fun c Q h1 q => run_of h rfl (w_rises c h1 q)
theorem i_choices (h : Has T f_choices) : SpChoices (FW T (k + 1)) := fun d w lim Q h1 q => run_of h rfl (w_choices d w lim h1 q)
theorem i_best (h : Has T f_best_counts) (c : SpChoices (FW T k)) : SpBest (FW T (k + 1)) := fun t ws Q h1 h2 q => run_of h rfl (w_best c t ws h1 h2 q)
theorem i_cost (h : Has T f_counts_cost) (r : SpRises (FW T k)) : SpCost (FW T (k + 1)) := fun o n Q h1 h2 q => run_of h rfl (w_cost r o n h1 h2 q)
theorem i_dist (h : Has T f_distance) (b : SpBest (FW T k)) (c : SpCost (FW T k)) : SpDist (FW T (k + 1)) := fun t ws Q h1 h2 q => run_of h rfl (w_dist b c t ws h1 h2 q)
end
end Z

namespace Z
open PySem
def SpLRises (F : FT) : Prop := ∀ c d Q, (d = tupI c ∨ d = lstI c) → Q (.int (rf 0 c)) → F "_law_rises" [d] Q
theorem rf_take (c : List Int) {i : Nat} {x : Int} (h : c[i]? = some x) : rf 0 (c.take (i + 1)) = rf 0 (c.take i) + max 0 (x - lastI 0 (c.take i)) ∧ lastI 0 (c.take (i + 1)) = x := by
  rw [take_snoc h, rf_snoc, last_snoc]
  exact ⟨rfl, rfl⟩
section
variable {F : FT}
theorem lrises_loop (c : List Int) (d : D) {Q : D → Prop} (q : Q (.int (rf 0 c))) (W : (List D → Prop) → Prop) (hW : ∀ P, P (c.map PyData.int) → W P) :
    W fun ds => ∃ W : Nat → En → Prop, (∃ e0, EnLe [.sh d, .sh (.int 0), .sh (.int 0), .any] e0 ∧ W 0 e0) ∧ (∀ i x e1, ds[i]? = some x → W i e1 → bindT (.nm 3) x e1 fun e2 => wpB F (b_law_rises.tl 1).hd.bd e2 ⟨fun e3 => ∃ e4, EnLe e3 e4 ∧ W (i + 1) e4, Q⟩) ∧ ∀ e1, W ds.length e1 → wpB F (b_law_rises.tl 2) e1 ⟨fun _ => Q .none, Q⟩ := by
  refine hW _ ?_
  refine for_map (P := ⟨fun e1 => wpB F (b_law_rises.tl 2) e1 ⟨fun _ => Q .none, Q⟩, Q⟩) c PyData.int (fun i => [.sh d, .sh (.int (rf 0 (c.take i))), .sh (.int (lastI 0 (c.take i))), .any]) (EnLe.refl _) (fun i x hx => ?_) ?_
  · obtain ⟨e1, e2⟩ := rf_take c hx
    refine ⟨rfl, ?_, ?_, trivial, trivial⟩
    · show PyData.int _ = PyData.int _
      rw [e1]
    · show PyData.int _ = PyData.int _
      rw [e2]
  · show Q _
    rw [List.take_length]
    exact q
theorem w_lrises (c : List Int) (d : D) {Q : D → Prop} (hd : d = tupI c ∨ d = lstI c) (q : Q (.int (rf 0 c))) : wpB F b_law_rises (ent 4 [d]) ⟨fun _ => Q .none, Q⟩ := by
  rcases hd with rfl | rfl
  · exact lrises_loop c _ q (fun P => seqOf (tupI c) P) fun P h => h
  · exact lrises_loop c _ q (fun P => seqOf (lstI c) P) fun P h => h
end
theorem i_lrises {T : List Fn} {k : Nat} (h : Has T f_law_rises) : SpLRises (FW T (k + 1)) := fun c d Q h1 q => run_of h rfl (w_lrises c d h1 q)
theorem zmap {α β γ : Type} (f : α → β → γ) : ∀ (xs : List α) (ys : List β), (xs.zip ys).map (fun p => f p.1 p.2) = xs.zipWith f ys
  | [], _ => rfl
  | _ :: _, [] => rfl
  | x :: xs, y :: ys => congrArg (f x y :: ·) (zmap f xs ys)
/-- a comprehension over the zip of two texts -/
theorem zcomp (g : Int → Int → Int) (f : D → D) (hf : ∀ a b, f (.tuple [.int a, .int b]) = .int (g a b)) (t v : List Int) : (zipD2 (t.map PyData.int) (v.map PyData.int)).map f = (t.zipWith g v).map PyData.int := by
  rw [zipD2_map, List.map_map, ← zmap, List.map_map]
  refine List.map_congr_left fun p _ => ?_
  exact hf p.1 p.2
/-! distances to texts -/
theorem tup_wish (v : List Int) : tupI v = wishD (v.map some) := by
  show PyData.tuple _ = PyData.tuple _
  rw [List.map_map]
  rfl
theorem tw_some {t v : List Int} (ne : t ≠ []) (ht : ∀ x ∈ t, 0 ≤ x ∧ x ≤ 1000) (hv : ∀ x ∈ v, (0 : Int) ≤ x) : TW t (v.map some) := ⟨ne, ht, fun w hw => by
  obtain ⟨x, hx, e⟩ := List.mem_map.mp hw
  exact Option.some.inj e ▸ hv x hx⟩
theorem distT {F : FT} (h : SpDist F) (t v : List Int) (Q : D → Prop) (tw : TW t (v.map some)) (hl : t.length ≤ 1000) (q : Q (.int (distI t (v.map some)))) : F "distance" [tupI t, tupI v] Q := by
  rw [tup_wish v]
  exact h t _ Q tw hl q
/-- the distance is the smallest cost -/
theorem dist_is {t : List Int} {ws : List (Option Int)} (h : TW t ws) : IsDist (lnsI t ws) (distI t ws) := isDist h.ln
/-- a certificate by two functions of the line -/
theorem isC_map (f g : Int → Int → Int) : ∀ (t v : List Int), t.length = v.length → (∀ a ∈ t, ∀ b ∈ v, 0 ≤ f a b ∧ 0 ≤ g a b ∧ max 0 (a - f a b) + g a b = b) → IsC (lnsI t (v.map some)) (t.zipWith f v) (t.zipWith g v)
  | [], [], _, _ => trivial
  | a :: t, b :: v, hl, h => by
    have h1 := h a List.mem_cons_self b List.mem_cons_self
    refine ⟨⟨h1.1, h1.2.1, fun w hw => ?_⟩, isC_map f g t v (by simpa using hl) fun x hx y hy => h x (List.mem_cons_of_mem _ hx) y (List.mem_cons_of_mem _ hy)⟩
    cases hw
    exact h1.2.2
  | [], _ :: _, hl, _ => by simp at hl
  | _ :: _, [], hl, _ => by simp at hl
theorem isC_get : ∀ {ls : List Ln} {os ns : List Int} {i : Nat} {l : Ln}, IsC ls os ns → ls[i]? = some l → ∃ o n, os[i]? = some o ∧ ns[i]? = some n ∧ 0 ≤ o ∧ 0 ≤ n ∧ ∀ w, l.2 = some w → max 0 (l.1 - o) + n = w
  | _ :: _, o :: _, n :: _, 0, _, h, e => by
    simp only [List.getElem?_cons_zero, Option.some.injEq] at e
    subst e
    exact ⟨o, n, rfl, rfl, h.1⟩
  | _ :: _, _ :: _, _ :: _, i + 1, _, h, e => by
    simp only [List.getElem?_cons_succ] at e ⊢
    exact isC_get h.2 e
  | [], _, _, _, _, _, e => by simp at e
  | _ :: _, [], _, _, _, h, _ => h.elim
  | _ :: _, _ :: _, [], _, _, h, _ => h.elim
theorem rf_mem : ∀ {os : List Int} {p x : Int}, x ∈ os → x - p ≤ rf p os
  | a :: os, p, x, h => by
    have h0 := rf_ge os a
    show x - p ≤ max 0 (a - p) + rf a os
    rcases List.mem_cons.mp h with rfl | h
    · omega
    · have := rf_mem (p := a) h
      omega
theorem rf_rep (a : Int) : ∀ (n : Nat) (p : Int), rf p (List.replicate (n + 1) a) = max 0 (a - p)
  | 0, p => by simp [rf]
  | n + 1, p => by
    show max 0 (a - p) + rf a (List.replicate (n + 1) a) = _
    rw [rf_rep a n a]
    omega
theorem zw_const {a : Int} : ∀ {t v : List Int}, t.length = v.length → t.zipWith (fun _ _ => a) v = List.replicate t.length a
  | [], [], _ => rfl
  | _ :: t, _ :: v, h => by
    show a :: t.zipWith (fun _ _ => a) v = a :: List.replicate t.length a
    rw [zw_const (by simpa using h)]
  | [], _ :: _, h => by simp at h
  | _ :: _, [], h => by simp at h
theorem zw_right : ∀ {t v : List Int}, t.length = v.length → t.zipWith (fun _ b => b) v = v
  | [], [], _ => rfl
  | _ :: t, b :: v, h => by
    show b :: t.zipWith (fun _ b => b) v = b :: v
    rw [zw_right (by simpa using h)]
  | [], _ :: _, h => by simp at h
  | _ :: _, [], h => by simp at h
/-- from the margin -/
theorem dist_from0 {v : List Int} (ne : v ≠ []) (hv : ∀ x ∈ v, (0 : Int) ≤ x) : distI (List.replicate v.length 0) (v.map some) = rf 0 v := by
  have tw : TW (List.replicate v.length 0) (v.map some) := tw_some (fun e => ne (by simpa using e)) (fun x hx => by rw [List.eq_of_mem_replicate hx]; decide) hv
  refine (dist_is tw).eq ⟨?_, fun os ns h => ?_⟩
  · refine ⟨_, _, isC_map (fun _ _ => 0) (fun _ b => b) _ v (by simp) fun a ha b hb => ?_, ?_⟩
    · rw [List.eq_of_mem_replicate ha]
      exact ⟨Int.le_refl _, hv b hb, by omega⟩
    · rw [zw_const (by simp), zw_right (by simp), List.length_replicate]
      cases v with
      | nil => exact absurd rfl ne
      | cons x xs =>
        have : rf 0 (List.replicate (xs.length + 1) 0) = 0 := by rw [rf_rep]; omega
        rw [List.length_cons, this]
        omega
  · have e : ns = v := by
      have hl := h.len
      have ll : (lnsI (List.replicate v.length 0) (v.map some)).length = v.length := by simp
      refine List.ext_getElem? fun i => ?_
      by_cases hi : i < v.length
      · have hz : (lnsI (List.replicate v.length 0) (v.map some))[i]? = some (0, some v[i]) := List.getElem?_zip_eq_some.mpr ⟨by rw [List.getElem?_replicate, if_pos hi], by rw [List.getElem?_map, List.getElem?_eq_getElem hi]; rfl⟩
        obtain ⟨o, n, h1, h2, h3, h4, h5⟩ := isC_get h hz
        have := h5 v[i] rfl
        rw [h2, List.getElem?_eq_getElem hi]
        congr 1
        simp only at this
        omega
      · rw [List.getElem?_eq_none (by omega), List.getElem?_eq_none (by omega)]
    rw [e]
    have := rf_ge os 0
    omega
/-- to the margin -/
theorem dist_to0 {t : List Int} (ne : t ≠ []) (ht : ∀ x ∈ t, 0 ≤ x ∧ x ≤ 1000) : distI t ((List.replicate t.length 0).map some) = maxL t := by
  have tw : TW t ((List.replicate t.length 0).map some) := tw_some ne ht fun x hx => by rw [List.eq_of_mem_replicate hx]; decide
  have m0 := (ht _ (maxL_mem ne)).1
  refine (dist_is tw).eq ⟨?_, fun os ns h => ?_⟩
  · refine ⟨_, _, isC_map (fun _ _ => maxL t) (fun _ _ => 0) t _ (by simp) fun a ha b hb => ?_, ?_⟩
    · rw [List.eq_of_mem_replicate hb]
      have := maxL_ge ha
      exact ⟨m0, Int.le_refl _, by omega⟩
    · rw [zw_const (by simp), zw_const (by simp)]
      cases t with
      | nil => exact absurd rfl ne
      | cons x xs =>
        rw [List.length_cons, rf_rep, rf_rep]
        omega
  · obtain ⟨i, hi⟩ := List.getElem?_of_mem (maxL_mem ne)
    have hil := (List.getElem?_eq_some_iff.mp hi).1
    have hz : (lnsI t ((List.replicate t.length 0).map some))[i]? = some (maxL t, some 0) := List.getElem?_zip_eq_some.mpr ⟨hi, by rw [List.getElem?_map, List.getElem?_replicate, if_pos hil]; rfl⟩
    obtain ⟨o, n, h1, h2, h3, h4, h5⟩ := isC_get h hz
    have h5 := h5 0 rfl
    have h6 := rf_mem (p := 0) (List.mem_of_getElem? h1)
    have h7 := rf_ge ns 0
    simp only at h5
    omega
end Z

namespace Z
open PySem
/-! lines put in and taken out -/
theorem rf_tri (p q : Int) : ∀ (xs : List Int), rf p xs ≤ max 0 (q - p) + rf q xs
  | [] => by show 0 ≤ max 0 (q - p) + 0; omega
  | x :: xs => by
    show max 0 (x - p) + rf x xs ≤ max 0 (q - p) + (max 0 (x - q) + rf x xs)
    omega
theorem rf_app : ∀ (xs ys : List Int) (p : Int), rf p (xs ++ ys) = rf p xs + rf (lastI p xs) ys
  | [], ys, p => by simp [rf, lastI]
  | x :: xs, ys, p => by
    show max 0 (x - p) + rf x (xs ++ ys) = max 0 (x - p) + rf x xs + rf (lastI x xs) ys
    rw [rf_app xs ys x]
    omega
theorem rf_last : ∀ (xs : List Int) (p : Int), lastI p xs - p ≤ rf p xs
  | [], p => by show p - p ≤ 0; omega
  | x :: xs, p => by
    have := rf_last xs x
    show lastI x xs - p ≤ max 0 (x - p) + rf x xs
    omega
theorem isC_app : ∀ {A B : List Ln} {o1 n1 o2 n2 : List Int}, IsC A o1 n1 → IsC B o2 n2 → IsC (A ++ B) (o1 ++ o2) (n1 ++ n2)
  | [], _, [], [], _, _, _, h => h
  | _ :: _, _, _ :: _, _ :: _, _, _, h, k => ⟨h.1, isC_app h.2 k⟩
  | [], _, _ :: _, _, _, _, h, _ => h.elim
  | [], _, [], _ :: _, _, _, h, _ => h.elim
  | _ :: _, _, [], _, _, _, h, _ => h.elim
  | _ :: _, _, _ :: _, [], _, _, h, _ => h.elim
theorem isC_split : ∀ {A B : List Ln} {os ns : List Int}, IsC (A ++ B) os ns → ∃ o1 n1 o2 n2, os = o1 ++ o2 ∧ ns = n1 ++ n2 ∧ IsC A o1 n1 ∧ IsC B o2 n2
  | [], _, os, ns, h => ⟨[], [], os, ns, rfl, rfl, trivial, h⟩
  | l :: A, B, o :: os, n :: ns, h => by
    obtain ⟨o1, n1, o2, n2, e1, e2, h1, h2⟩ := isC_split (A := A) h.2
    exact ⟨o :: o1, n :: n1, o2, n2, by rw [e1]; rfl, by rw [e2]; rfl, ⟨h.1, h1⟩, h2⟩
  | _ :: _, _, [], _, h => h.elim
  | _ :: _, _, _ :: _, [], h => h.elim
theorem isC_last : ∀ {A : List Ln} {os ns : List Int} {p q : Int}, IsC A os ns → 0 ≤ p → 0 ≤ q → 0 ≤ lastI p os ∧ 0 ≤ lastI q ns
  | [], [], [], _, _, _, hp, hq => ⟨hp, hq⟩
  | _ :: A, o :: os, n :: ns, p, q, h, _, _ => by
    show 0 ≤ lastI o os ∧ 0 ≤ lastI n ns
    exact isC_last (A := A) h.2 h.1.1 h.1.2.1
  | [], _ :: _, _, _, _, h, _, _ => h.elim
  | [], [], _ :: _, _, _, h, _, _ => h.elim
  | _ :: _, [], _, _, _, h, _, _ => h.elim
  | _ :: _, _ :: _, [], _, _, h, _, _ => h.elim
theorem dist_del {A B : List Ln} {l : Ln} {j k : Int} (h : IsDist (A ++ l :: B) k) (h' : IsDist (A ++ B) j) : j ≤ k := by
  obtain ⟨os, ns, c, e⟩ := h.ex
  obtain ⟨o1, n1, o2, n2, rfl, rfl, c1, c2⟩ := isC_split c
  match o2, n2, c2 with
  | o :: o2, n :: n2, c2 =>
    have := h'.le _ _ (isC_app c1 c2.2)
    rw [rf_app, rf_app] at this e
    have t1 := rf_tri (lastI 0 o1) o o2
    have t2 := rf_tri (lastI 0 n1) n n2
    have e' : rf 0 o1 + (max 0 (o - lastI 0 o1) + rf o o2) + (rf 0 n1 + (max 0 (n - lastI 0 n1) + rf n n2)) = k := e
    omega
  | [], _, c2 => exact c2.elim
  | _ :: _, [], c2 => exact c2.elim
theorem dist_dup {A B : List Ln} {l : Ln} {k : Int} (h : IsDist (A ++ l :: B) k) : IsDist (A ++ l :: l :: B) k := by
  obtain ⟨os, ns, c, e⟩ := h.ex
  obtain ⟨o1, n1, o2, n2, rfl, rfl, c1, c2⟩ := isC_split c
  refine ⟨?_, fun os ns h2 => ?_⟩
  · match o2, n2, c2 with
    | o :: o2, n :: n2, c2 =>
      refine ⟨o1 ++ o :: o :: o2, n1 ++ n :: n :: n2, isC_app c1 ⟨c2.1, c2⟩, ?_⟩
      rw [rf_app, rf_app] at e ⊢
      have e' : rf 0 o1 + (max 0 (o - lastI 0 o1) + rf o o2) + (rf 0 n1 + (max 0 (n - lastI 0 n1) + rf n n2)) = k := e
      show rf 0 o1 + (max 0 (o - lastI 0 o1) + (max 0 (o - o) + rf o o2)) + (rf 0 n1 + (max 0 (n - lastI 0 n1) + (max 0 (n - n) + rf n n2))) = k
      omega
    | [], _, c2 => exact c2.elim
    | _ :: _, [], c2 => exact c2.elim
  · obtain ⟨p1, m1, p2, m2, rfl, rfl, d1, d2⟩ := isC_split h2
    match p2, m2, d2 with
    | o :: p2, n :: m2, d2 =>
      have := h.le _ _ (isC_app d1 d2.2)
      rw [rf_app, rf_app] at this ⊢
      have t1 := rf_tri (lastI 0 p1) o p2
      have t2 := rf_tri (lastI 0 m1) n m2
      show k ≤ rf 0 p1 + (max 0 (o - lastI 0 p1) + rf o p2) + (rf 0 m1 + (max 0 (n - lastI 0 m1) + rf n m2))
      omega
    | [], _, d2 => exact d2.elim
    | _ :: _, [], d2 => exact d2.elim
theorem dist_pre {A : List Ln} {d k : Int} (hd : 0 ≤ d) (h : IsDist A k) : IsDist ((d, some d) :: A) k := by
  obtain ⟨os, ns, c, e⟩ := h.ex
  refine ⟨⟨0 :: os, 0 :: ns, ⟨⟨Int.le_refl _, Int.le_refl _, fun w hw => ?_⟩, c⟩, ?_⟩, fun os ns h2 => ?_⟩
  · cases hw; simp only; omega
  · show max 0 (0 - 0) + rf 0 os + (max 0 (0 - 0) + rf 0 ns) = k
    omega
  · match os, ns, h2 with
    | o :: os, n :: ns, h2 =>
      have := h.le _ _ h2.2
      have t1 := rf_tri 0 o os
      have t2 := rf_tri 0 n ns
      show k ≤ max 0 (o - 0) + rf o os + (max 0 (n - 0) + rf n ns)
      omega
    | [], _, h2 => exact h2.elim
    | _ :: _, [], h2 => exact h2.elim
theorem dist_suf {A : List Ln} {d k : Int} (hd : 0 ≤ d) (h : IsDist A k) : IsDist (A ++ [(d, some d)]) k := by
  obtain ⟨os, ns, c, e⟩ := h.ex
  have cl := isC_last c (p := 0) (q := 0) (Int.le_refl _) (Int.le_refl _)
  refine ⟨⟨os ++ [0], ns ++ [0], isC_app c ⟨⟨Int.le_refl _, Int.le_refl _, fun w hw => ?_⟩, trivial⟩, ?_⟩, fun os ns h2 => ?_⟩
  · cases hw; simp only; omega
  · rw [rf_snoc, rf_snoc]
    omega
  · obtain ⟨o1, n1, o2, n2, rfl, rfl, c1, c2⟩ := isC_split h2
    have := h.le _ _ c1
    rw [rf_app, rf_app]
    have := rf_ge o2 (lastI 0 o1)
    have := rf_ge n2 (lastI 0 n1)
    omega
theorem dist_cut {A B : List Ln} {i j k : Int} (h : IsDist (A ++ B) k) (h1 : IsDist A i) (h2 : IsDist B j) : max i j ≤ k ∧ k ≤ i + j := by
  constructor
  · obtain ⟨os, ns, c, e⟩ := h.ex
    obtain ⟨o1, n1, o2, n2, rfl, rfl, c1, c2⟩ := isC_split c
    have a1 := h1.le _ _ c1
    have a2 := h2.le _ _ c2
    rw [rf_app, rf_app] at e
    have := rf_ge o2 (lastI 0 o1)
    have := rf_ge n2 (lastI 0 n1)
    have t1 := rf_tri 0 (lastI 0 o1) o2
    have t2 := rf_tri 0 (lastI 0 n1) n2
    have l1 := rf_last o1 0
    have l2 := rf_last n1 0
    have := rf_ge o1 0
    have := rf_ge n1 0
    omega
  · obtain ⟨o1, n1, c1, e1⟩ := h1.ex
    obtain ⟨o2, n2, c2, e2⟩ := h2.ex
    have := h.le _ _ (isC_app c1 c2)
    rw [rf_app, rf_app] at this
    have cl := isC_last c1 (p := 0) (q := 0) (Int.le_refl _) (Int.le_refl _)
    have t1 := rf_tri (lastI 0 o1) 0 o2
    have t2 := rf_tri (lastI 0 n1) 0 n2
    omega
/-! a wish: some lines of a target set free -/
def freeI (v dg : List Int) : List (Option Int) := (v.zip dg).map fun p => if p.2 % 4 = 0 then Option.none else some p.1
theorem free_len {v dg : List Int} (h : v.length ≤ dg.length) : (freeI v dg).length = v.length := by
  unfold freeI
  rw [List.length_map, List.length_zip]
  omega
theorem free_mem {v dg : List Int} {w : Int} (h : some w ∈ freeI v dg) : w ∈ v := by
  unfold freeI at h
  obtain ⟨p, hp, e⟩ := List.mem_map.mp h
  have := (List.of_mem_zip (a := p.1) (b := p.2) hp).1
  split at e
  · cases e
  · cases e; exact this
def freeF : D → D := fun d => match d with | .tuple [.int a, .int b] => optI (if b % 4 = 0 then Option.none else some a) | _ => .none
theorem free_comp (v dg : List Int) : (zipD2 (v.map PyData.int) (dg.map PyData.int)).map freeF = (freeI v dg).map optI := by
  rw [zipD2_map, List.map_map, freeI, List.map_map]
  exact List.map_congr_left fun p _ => rfl
theorem wishD_zip_take (t : List Int) (gs : List (Option Int)) (n : Nat) : lnsI (t.take n) (gs.take n) = (lnsI t gs).take n := by
  induction n generalizing t gs with
  | zero => rfl
  | succ n ih =>
    cases t with
    | nil => simp [lnsI]
    | cons a t =>
      cases gs with
      | nil => simp [lnsI]
      | cons g gs => exact congrArg ((a, g) :: ·) (ih t gs)
theorem wishD_zip_drop (t : List Int) (gs : List (Option Int)) (n : Nat) : lnsI (t.drop n) (gs.drop n) = (lnsI t gs).drop n := by
  induction n generalizing t gs with
  | zero => rfl
  | succ n ih =>
    cases t with
    | nil => simp [lnsI]
    | cons a t =>
      cases gs with
      | nil => simp [lnsI]
      | cons g gs => exact ih t gs
theorem lns_app {t u : List Int} {g k : List (Option Int)} (h : t.length = g.length) : lnsI (t ++ u) (g ++ k) = lnsI t g ++ lnsI u k := List.zip_append h
end Z

namespace Z
open PySem
/-! needed counts -/
def outsI (n : Nat) (cs : List Cmd) : List Int := (List.range n).map fun j => (effP cs j).2 - (effP cs j).1
def insI (n : Nat) (cs : List Cmd) : List Int := (List.range n).map fun j => (effP cs j).2
def SpNeeded (F : FT) : Prop := ∀ (n : Nat) cs Q, n ≤ 1000 → (∀ c ∈ cs, c.s ≤ c.e ∧ c.e ≤ n) → Q (.tuple [tupI (outsI n cs), tupI (insI n cs)]) → F "needed_counts" [.int n, scrD cs] Q
def SpFewest (F : FT) : Prop := ∀ (n : Nat) cs Q, n ≤ 1000 → (∀ c ∈ cs, c.s ≤ c.e ∧ c.e ≤ n) → Q (.int (rf 0 (outsI n cs) + rf 0 (insI n cs))) → F "fewest_equal" [.int n, scrD cs] Q
def dbl {α : Type} (xs : List α) : List α := xs.flatMap fun x => [x, x]
def SpTwice (F : FT) : Prop := ∀ ds Q, ds.length ≤ 1000 → Q (.tuple (dbl ds)) → F "_law_repeated" [.tuple ds, .int 2] Q
theorem dbl_len {α : Type} (xs : List α) : (dbl xs).length = 2 * xs.length := by
  induction xs with
  | nil => rfl
  | cons x xs ih => show (x :: x :: dbl xs).length = _; simp only [List.length_cons, ih]; omega
theorem dbl_map {α β : Type} (f : α → β) (xs : List α) : dbl (xs.map f) = (dbl xs).map f := by
  induction xs with
  | nil => rfl
  | cons x xs ih => show f x :: f x :: dbl (xs.map f) = f x :: f x :: (dbl xs).map f; rw [ih]
theorem dbl_get {α : Type} : ∀ (xs : List α) (j : Nat), (dbl xs)[j]? = xs[j / 2]?
  | [], j => by simp [dbl]
  | x :: xs, 0 => rfl
  | x :: xs, 1 => rfl
  | x :: xs, j + 2 => by
    show (x :: x :: dbl xs)[j + 2]? = _
    rw [show (j + 2) / 2 = j / 2 + 1 by omega]
    simp only [List.getElem?_cons_succ]
    exact dbl_get xs j
theorem dbl_app {α : Type} (xs ys : List α) : dbl (xs ++ ys) = dbl xs ++ dbl ys := by simp [dbl]
section
variable {F : FT}
theorem w_needed (he : SpEffects F) (n : Nat) (cs : List Cmd) {Q : D → Prop} (hn : n ≤ 1000) (hc : ∀ c ∈ cs, c.s ≤ c.e ∧ c.e ≤ n) (q : Q (.tuple [tupI (outsI n cs), tupI (insI n cs)])) : wpB F b_needed_counts (ent 5 [.int n, scrD cs]) ⟨fun _ => Q .none, Q⟩ := by
  refine he n cs _ hn hc ?_
  have ll : ((effI n cs).map pairD).length ≤ SZ := by simp only [effI, List.length_map, List.length_range]; show _ ≤ 16777216; omega
  have e1 : ((effI n cs).map pairD).map (fun d => match d with | .tuple [.int a, .int b] => PyData.int (b - a) | _ => .none) = (outsI n cs).map PyData.int := by
    simp only [effI, outsI, List.map_map]
    rfl
  have e2 : ((effI n cs).map pairD).map (fun d => match d with | .tuple [.int a, .int b] => PyData.int b | _ => .none) = (insI n cs).map PyData.int := by
    simp only [effI, insI, List.map_map]
    rfl
  refine ⟨(fun d => match d with | .tuple [.int a, .int b] => .int (b - a) | _ => .none), fun d hd => ?_, ll, (fun d => match d with | .tuple [.int a, .int b] => .int b | _ => .none), fun d hd => ?_, ll, ?_⟩
  · obtain ⟨p, _, rfl⟩ := List.mem_map.mp hd
    exact rfl
  · obtain ⟨p, _, rfl⟩ := List.mem_map.mp hd
    exact rfl
  · show Q (.tuple [.tuple _, .tuple _])
    rw [e1, e2]
    exact q
theorem w_fewest (hn' : SpNeeded F) (hc' : SpCost F) (n : Nat) (cs : List Cmd) {Q : D → Prop} (hn : n ≤ 1000) (hc : ∀ c ∈ cs, c.s ≤ c.e ∧ c.e ≤ n) (q : Q (.int (rf 0 (outsI n cs) + rf 0 (insI n cs)))) : wpB F b_fewest_equal (ent 4 [.int n, scrD cs]) ⟨fun _ => Q .none, Q⟩ := by
  refine hn' n cs _ hn hc ?_
  exact hc' _ _ _ (by simp [outsI]; omega) (by simp [insI]; omega) q
theorem w_twice (ds : List D) {Q : D → Prop} (hl : ds.length ≤ 1000) (q : Q (.tuple (dbl ds))) : wpB F b_law_repeated (ent 4 [.tuple ds, .int 2]) ⟨fun _ => Q .none, Q⟩ := by
  refine for_by (ds := ds) (fun i => [.sh (.tuple ds), .sh (.int 2), .sh (.tuple (dbl (ds.take i))), .any]) (EnLe.refl _) (fun i d hd => ?_) ?_
  · have dl := dbl_len (ds.take i)
    rw [List.length_take] at dl
    refine ⟨⟨by decide, by decide, by show 1 ≤ 1000; decide⟩, ?_, rfl, rfl, ?_, trivial, trivial⟩
    · show _ + 2 ≤ 16777216
      omega
    · show PyData.tuple (dbl (ds.take i) ++ [d, d]) = PyData.tuple (dbl (ds.take (i + 1)))
      rw [take_snoc hd, dbl_app]
      rfl
  · show Q (.tuple (dbl (ds.take ds.length)))
    rw [List.take_length]
    exact q
end
section
variable {T : List Fn} {k : Nat}
theorem i_needed (h : Has T f_needed_counts) (e : SpEffects (FW T k)) : SpNeeded (FW T (k + 1)) := fun n cs Q h1 h2 q => run_of h rfl (w_needed e n cs h1 h2 q)
theorem i_fewest (h : Has T f_fewest_equal) (e : SpNeeded (FW T k)) (c : SpCost (FW T k)) : SpFewest (FW T (k + 1)) := fun n cs Q h1 h2 q => run_of h rfl (w_fewest e c n cs h1 h2 q)
theorem i_twice (h : Has T f_law_repeated) : SpTwice (FW T (k + 1)) := fun ds Q h1 q => run_of h rfl (w_twice ds h1 q)
end
/-! mirrors -/
def dfl : Int → List Int → Int
  | _, [] => 0
  | p, x :: xs => max 0 (p - x) + dfl x xs
theorem rf_dfl : ∀ (xs : List Int) (p : Int), rf p xs - dfl p xs = lastI p xs - p
  | [], p => by show (0 : Int) - 0 = p - p; omega
  | x :: xs, p => by
    have := rf_dfl xs x
    show max 0 (x - p) + rf x xs - (max 0 (p - x) + dfl x xs) = lastI x xs - p
    omega
theorem last_rev (x : Int) (xs : List Int) (p : Int) : lastI p (x :: xs).reverse = x := by
  rw [List.reverse_cons, last_snoc]
theorem rf_rev0 : ∀ (xs : List Int) (p : Int), rf 0 (p :: xs).reverse = max 0 (lastI p xs) + dfl p xs
  | [], p => by show max 0 (p - 0) + 0 = max 0 p + 0; omega
  | x :: xs, p => by
    rw [List.reverse_cons, rf_snoc, rf_rev0 xs x, last_rev]
    show max 0 (lastI x xs) + dfl x xs + max 0 (p - x) = max 0 (lastI x xs) + (max 0 (p - x) + dfl x xs)
    omega
theorem last_ge : ∀ (xs : List Int) (p : Int), 0 ≤ p → (∀ x ∈ xs, 0 ≤ x) → 0 ≤ lastI p xs
  | [], p, hp, _ => hp
  | x :: xs, p, _, h => last_ge xs x (h x List.mem_cons_self) fun y hy => h y (List.mem_cons_of_mem _ hy)
theorem rf_rev (xs : List Int) (h : ∀ x ∈ xs, (0 : Int) ≤ x) : rf 0 xs.reverse = rf 0 xs := by
  cases xs with
  | nil => rfl
  | cons p xs =>
    have hp := h p List.mem_cons_self
    have hl := last_ge xs p hp fun y hy => h y (List.mem_cons_of_mem _ hy)
    rw [rf_rev0]
    have := rf_dfl xs p
    show max 0 (lastI p xs) + dfl p xs = max 0 (p - 0) + rf p xs
    omega
theorem rf_dbl : ∀ (xs : List Int) (p : Int), rf p (dbl xs) = rf p xs
  | [], _ => rfl
  | x :: xs, p => by
    show max 0 (x - p) + (max 0 (x - x) + rf x (dbl xs)) = max 0 (x - p) + rf x xs
    rw [rf_dbl xs x]
    omega
theorem isC_ge : ∀ {ls : List Ln} {os ns : List Int}, IsC ls os ns → (∀ x ∈ os, 0 ≤ x) ∧ ∀ x ∈ ns, 0 ≤ x
  | [], [], [], _ => ⟨fun x h => (by cases h), fun x h => (by cases h)⟩
  | _ :: _, o :: os, n :: ns, h => by
    obtain ⟨h1, h2⟩ := isC_ge h.2
    refine ⟨fun x hx => ?_, fun x hx => ?_⟩
    · rcases List.mem_cons.mp hx with rfl | hx
      · exact h.1.1
      · exact h1 x hx
    · rcases List.mem_cons.mp hx with rfl | hx
      · exact h.1.2.1
      · exact h2 x hx
  | [], _ :: _, _, h => h.elim
  | [], [], _ :: _, h => h.elim
  | _ :: _, [], _, h => h.elim
  | _ :: _, _ :: _, [], h => h.elim
theorem isC_rev : ∀ {ls : List Ln} {os ns : List Int}, IsC ls os ns → IsC ls.reverse os.reverse ns.reverse
  | [], [], [], _ => trivial
  | l :: ls, o :: os, n :: ns, h => by
    rw [List.reverse_cons, List.reverse_cons, List.reverse_cons]
    exact isC_app (isC_rev h.2) ⟨h.1, trivial⟩
  | [], _ :: _, _, h => h.elim
  | [], [], _ :: _, h => h.elim
  | _ :: _, [], _, h => h.elim
  | _ :: _, _ :: _, [], h => h.elim
theorem dist_rev {ls : List Ln} {k : Int} (h : IsDist ls k) : IsDist ls.reverse k := by
  obtain ⟨os, ns, c, e⟩ := h.ex
  obtain ⟨g1, g2⟩ := isC_ge c
  refine ⟨⟨_, _, isC_rev c, by rw [rf_rev os g1, rf_rev ns g2]; exact e⟩, fun os ns c => ?_⟩
  have c' := isC_rev c
  rw [List.reverse_reverse] at c'
  obtain ⟨g1, g2⟩ := isC_ge c
  have := h.le _ _ c'
  rw [rf_rev os g1, rf_rev ns g2] at this
  exact this
theorem isC_dbl : ∀ {ls : List Ln} {os ns : List Int}, IsC ls os ns → IsC (dbl ls) (dbl os) (dbl ns)
  | [], [], [], _ => trivial
  | _ :: _, _ :: _, _ :: _, h => ⟨h.1, h.1, isC_dbl h.2⟩
  | [], _ :: _, _, h => h.elim
  | [], [], _ :: _, h => h.elim
  | _ :: _, [], _, h => h.elim
  | _ :: _, _ :: _, [], h => h.elim
theorem isC_half : ∀ {ls : List Ln} {os ns : List Int}, IsC (dbl ls) os ns → ∃ o' n', IsC ls o' n' ∧ ∀ p q, rf p o' ≤ rf p os ∧ rf q n' ≤ rf q ns
  | [], [], [], _ => ⟨[], [], trivial, fun p q => ⟨Int.le_refl _, Int.le_refl _⟩⟩
  | l :: ls, o1 :: o2 :: os, n1 :: n2 :: ns, h => by
    obtain ⟨_, h2, h3⟩ := (show _ ∧ _ ∧ IsC (dbl ls) os ns from h)
    obtain ⟨o', n', c, r⟩ := isC_half h3
    refine ⟨o2 :: o', n2 :: n', ⟨h2, c⟩, fun p q => ?_⟩
    have r1 := (r o2 n2).1
    have r2 := (r o2 n2).2
    constructor
    · show max 0 (o2 - p) + rf o2 o' ≤ max 0 (o1 - p) + (max 0 (o2 - o1) + rf o2 os)
      omega
    · show max 0 (n2 - q) + rf n2 n' ≤ max 0 (n1 - q) + (max 0 (n2 - n1) + rf n2 ns)
      omega
  | [], _ :: _, _, h => h.elim
  | [], [], _ :: _, h => h.elim
  | _ :: _, [], _, h => h.elim
  | _ :: _, _ :: _, [], h => h.elim
  | _ :: _, [_], _ :: _, h => h.2.elim
  | _ :: _, _ :: _ :: _, [_], h => h.2.elim
theorem dist_dbl {ls : List Ln} {k : Int} (h : IsDist ls k) : IsDist (dbl ls) k := by
  obtain ⟨os, ns, c, e⟩ := h.ex
  refine ⟨⟨_, _, isC_dbl c, by rw [rf_dbl, rf_dbl]; exact e⟩, fun os ns c => ?_⟩
  obtain ⟨o', n', c', r⟩ := isC_half c
  have := h.le _ _ c'
  have := (r 0 0).1
  have := (r 0 0).2
  omega
theorem lns_rev {t : List Int} {g : List (Option Int)} (h : t.length = g.length) : lnsI t.reverse g.reverse = (lnsI t g).reverse := by
  induction t generalizing g with
  | nil => simp [lnsI]
  | cons a t ih =>
    cases g with
    | nil => simp at h
    | cons b g =>
      rw [List.reverse_cons, List.reverse_cons, lns_app (by simpa using h), ih (by simpa using h)]
      show _ ++ [(a, b)] = ((a, b) :: lnsI t g).reverse
      rw [List.reverse_cons]
theorem lns_dbl : ∀ (t : List Int) (g : List (Option Int)), lnsI (dbl t) (dbl g) = dbl (lnsI t g)
  | [], _ => by simp [lnsI, dbl]
  | _ :: _, [] => by simp [lnsI, dbl]
  | a :: t, b :: g => by
    show (a, b) :: (a, b) :: lnsI (dbl t) (dbl g) = (a, b) :: (a, b) :: dbl (lnsI t g)
    rw [lns_dbl t g]
/-- a command mirrored, .. for doubled lines -/
def mirC (n : Nat) (c : Cmd) : Cmd := ⟨c.inn, n - c.e, n - c.s⟩
def dblC (c : Cmd) : Cmd := ⟨c.inn, 2 * c.s, 2 * c.e⟩
theorem after_rev {t : List Int} {c : Cmd} (h1 : c.s ≤ c.e) (h2 : c.e ≤ t.length) : afterI t.reverse (mirC t.length c) = (afterI t c).reverse := by
  have al := after_len (t := t) h1
  refine List.ext_getElem? fun j => ?_
  rw [after_get (c := mirC t.length c) (by show t.length - c.e ≤ t.length - c.s; omega)]
  by_cases hj : j < t.length
  · rw [List.getElem?_reverse hj, List.getElem?_reverse (by omega), after_get h1, al]
    congr 1
    funext x
    show (if t.length - c.e ≤ j ∧ j < t.length - c.s then stepI c.inn x else x) = if c.s ≤ t.length - 1 - j ∧ t.length - 1 - j < c.e then stepI c.inn x else x
    by_cases hc : c.s ≤ t.length - 1 - j ∧ t.length - 1 - j < c.e
    · rw [if_pos hc, if_pos (by omega)]
    · rw [if_neg hc, if_neg (by omega)]
  · rw [List.getElem?_eq_none (by rw [List.length_reverse]; omega), List.getElem?_eq_none (by rw [List.length_reverse]; omega)]
    rfl
theorem apply_rev : ∀ (cs : List Cmd) (t : List Int), (∀ c ∈ cs, c.s ≤ c.e ∧ c.e ≤ t.length) → applyI t.reverse (cs.map (mirC t.length)) = (applyI t cs).reverse
  | [], t, _ => rfl
  | c :: cs, t, h => by
    have hc := h c List.mem_cons_self
    have al := after_len (t := t) hc.1
    have ih := apply_rev cs (afterI t c) fun x hx => by rw [al]; exact h x (List.mem_cons_of_mem _ hx)
    rw [al] at ih
    show applyI (afterI t.reverse (mirC t.length c)) (cs.map (mirC t.length)) = (applyI (afterI t c) cs).reverse
    rw [after_rev hc.1 hc.2, ih]
theorem idle_rev : ∀ (cs : List Cmd) (t : List Int) (k : Nat), (∀ c ∈ cs, c.s ≤ c.e ∧ c.e ≤ t.length) → idleI t.reverse (cs.map (mirC t.length)) k = idleI t cs k
  | [], t, _, _ => rfl
  | c :: cs, t, k, h => by
    have hc := h c List.mem_cons_self
    have al := after_len (t := t) hc.1
    have ih := idle_rev cs (afterI t c) (k + 1) fun x hx => by rw [al]; exact h x (List.mem_cons_of_mem _ hx)
    rw [al] at ih
    show (if afterI t.reverse (mirC t.length c) = t.reverse then [(k : Int)] else []) ++ idleI (afterI t.reverse (mirC t.length c)) (cs.map (mirC t.length)) (k + 1) = (if afterI t c = t then [(k : Int)] else []) ++ idleI (afterI t c) cs (k + 1)
    rw [after_rev hc.1 hc.2, ih]
    congr 1
    by_cases he : afterI t c = t
    · rw [if_pos he, if_pos (by rw [he])]
    · rw [if_neg he, if_neg (fun z => he (List.reverse_inj.mp z))]
theorem eff_rev (n : Nat) (j : Nat) (hj : j < n) : ∀ (cs : List Cmd) (p : Pr), (∀ c ∈ cs, c.s ≤ c.e ∧ c.e ≤ n) → (cs.map (mirC n)).foldl (effF j) p = cs.foldl (effF (n - 1 - j)) p
  | [], p, _ => rfl
  | c :: cs, p, h => by
    have hc := h c List.mem_cons_self
    have e : effF j p (mirC n c) = effF (n - 1 - j) p c := by
      show (if n - c.e ≤ j ∧ j < n - c.s then stepP c.inn p else p) = if c.s ≤ n - 1 - j ∧ n - 1 - j < c.e then stepP c.inn p else p
      by_cases hh : c.s ≤ n - 1 - j ∧ n - 1 - j < c.e
      · rw [if_pos hh, if_pos (by omega)]
      · rw [if_neg hh, if_neg (by omega)]
    show (cs.map (mirC n)).foldl (effF j) (effF j p (mirC n c)) = cs.foldl (effF (n - 1 - j)) (effF (n - 1 - j) p c)
    rw [e]
    exact eff_rev n j hj cs _ fun x hx => h x (List.mem_cons_of_mem _ hx)
theorem range_rev {α : Type} (n : Nat) (g : Nat → α) : ((List.range n).map g).reverse = (List.range n).map fun j => g (n - 1 - j) := by
  refine List.ext_getElem? fun j => ?_
  by_cases hj : j < n
  · rw [List.getElem?_reverse (by simpa using hj), rm_get n _ hj, List.length_map, List.length_range, rm_get n _ (by omega)]
  · rw [List.getElem?_eq_none (by simp; omega), List.getElem?_eq_none (by simp; omega)]
theorem rm_rev {α : Type} (n : Nat) (cs : List Cmd) (hc : ∀ c ∈ cs, c.s ≤ c.e ∧ c.e ≤ n) (f : Pr → α) : ((List.range n).map fun j => f (effP (cs.map (mirC n)) j)) = ((List.range n).map fun j => f (effP cs j)).reverse := by
  rw [range_rev]
  refine List.map_congr_left fun j hj => ?_
  exact congrArg f (eff_rev n j (List.mem_range.mp hj) cs (0, 0) hc)
theorem after_dbl {t : List Int} {c : Cmd} (h1 : c.s ≤ c.e) : afterI (dbl t) (dblC c) = dbl (afterI t c) := by
  refine List.ext_getElem? fun j => ?_
  rw [after_get (c := dblC c) (by show 2 * c.s ≤ 2 * c.e; omega), dbl_get, dbl_get, after_get h1]
  congr 1
  funext x
  show (if 2 * c.s ≤ j ∧ j < 2 * c.e then stepI c.inn x else x) = if c.s ≤ j / 2 ∧ j / 2 < c.e then stepI c.inn x else x
  by_cases hc : c.s ≤ j / 2 ∧ j / 2 < c.e
  · rw [if_pos hc, if_pos (by omega)]
  · rw [if_neg hc, if_neg (by omega)]
theorem apply_dbl : ∀ (cs : List Cmd) (t : List Int), (∀ c ∈ cs, c.s ≤ c.e) → applyI (dbl t) (cs.map dblC) = dbl (applyI t cs)
  | [], t, _ => rfl
  | c :: cs, t, h => by
    show applyI (afterI (dbl t) (dblC c)) (cs.map dblC) = dbl (applyI (afterI t c) cs)
    rw [after_dbl (h c List.mem_cons_self), apply_dbl cs (afterI t c) fun x hx => h x (List.mem_cons_of_mem _ hx)]
theorem eff_dbl (j : Nat) : ∀ (cs : List Cmd) (p : Pr), (cs.map dblC).foldl (effF j) p = cs.foldl (effF (j / 2)) p
  | [], p => rfl
  | c :: cs, p => by
    have e : effF j p (dblC c) = effF (j / 2) p c := by
      show (if 2 * c.s ≤ j ∧ j < 2 * c.e then stepP c.inn p else p) = if c.s ≤ j / 2 ∧ j / 2 < c.e then stepP c.inn p else p
      by_cases hh : c.s ≤ j / 2 ∧ j / 2 < c.e
      · rw [if_pos hh, if_pos (by omega)]
      · rw [if_neg hh, if_neg (by omega)]
    show (cs.map dblC).foldl (effF j) (effF j p (dblC c)) = cs.foldl (effF (j / 2)) (effF (j / 2) p c)
    rw [e]
    exact eff_dbl j cs _
theorem rm_dbl {α : Type} (n : Nat) (cs : List Cmd) (f : Pr → α) : ((List.range (2 * n)).map fun j => f (effP (cs.map dblC) j)) = dbl ((List.range n).map fun j => f (effP cs j)) := by
  refine List.ext_getElem? fun j => ?_
  rw [dbl_get]
  by_cases hj : j < 2 * n
  · rw [rm_get _ _ hj, rm_get _ _ (by omega)]
    exact congrArg (fun p => some (f p)) (eff_dbl j cs (0, 0))
  · rw [List.getElem?_eq_none (by simp; omega), List.getElem?_eq_none (by simp; omega)]
end Z

namespace Z.k17
open Z PySem
theorem s_dist : SpDist (FW tab 3) := i_dist rfl (i_best rfl (i_choices (k := 0) rfl)) (i_cost rfl (i_rises (k := 0) rfl))
theorem s_apply : SpApply (FW tab 3) := i_apply rfl (i_after rfl (i_changed (k := 0) rfl))
theorem s_idle : SpIdle (FW tab 3) := i_idle rfl (i_after rfl (i_changed (k := 0) rfl))
theorem s_effects : SpEffects (FW tab 3) := i_effects (k := 2) rfl
theorem s_fewest : SpFewest (FW tab 3) := i_fewest rfl (i_needed rfl (i_effects (k := 0) rfl)) (i_cost rfl (i_rises (k := 0) rfl))
theorem s_twice : SpTwice (FW tab 3) := i_twice (k := 2) rfl
theorem s_digits : SpDigits (FW tab 3) := i_digits rfl (i_cell (k := 1) rfl)
theorem s_text : SpText (FW tab 3) := i_text (k := 2) rfl
theorem s_near : SpNear (FW tab 3) := i_near rfl (i_lchanged (k := 1) rfl) (i_command (k := 1) rfl)
theorem s_script : SpScript (FW tab 3) := i_script rfl (i_command (k := 1) rfl)
theorem goal_ok (ns dg t v : List Int) (gs ws : List (Option Int)) (i : Nat) (ht1 : 1 ≤ t.length) (tl : t.length ≤ 9) (t1000 : ∀ x ∈ t, 0 ≤ x ∧ x ≤ 20) (hg : gs.length = t.length) (hw : ∀ w, some w ∈ gs → 0 ≤ w) (a6 a7 a10 a11 a12 a13 a14 a15 a16 : Sl) (Q : D → Prop) :
    wpB (FW tab 3) (b_law.hd.bd.tl 5).hd.bd [.sh (lstI ns), .sh (.int (0 + (i : Nat))), .sh (lstI dg), .sh (tupI t), .sh (tupI v), .sh (wishD ws), a6, a7, .sh (.int t.length), .sh (wishD gs), a10, a11, a12, a13, a14, a15, a16]
      ⟨fun e3 => EnLe e3 [.sh (lstI ns), .sh (.int (0 + (i : Nat))), .sh (lstI dg), .sh (tupI t), .sh (tupI v), .sh (wishD ws), .any, .any, .sh (.int t.length), .any, .any, .any, .any, .any, .any, .any, .any], Q⟩ := by
  have tne : t ≠ [] := fun e => by rw [e] at ht1; simp at ht1
  have tw : TW t gs := ⟨tne, fun x hx => by have := t1000 x hx; omega, hw⟩
  have Dk := dist_is tw
  refine s_dist t gs _ tw (by omega) ?_
  generalize hk : distI t gs = k at Dk
  have lt : (t.map PyData.int).length = t.length := List.length_map _
  have lg : (gs.map optI).length = gs.length := List.length_map _
  have tw1 : TW t.reverse gs.reverse := ⟨fun e => tne (by simpa using e), fun x hx => tw.ge x (by simpa using hx), fun w hx => hw w (by simpa using hx)⟩
  have e1 : distI t.reverse gs.reverse = k := (dist_is tw1).eq (by rw [lns_rev (by omega)]; exact dist_rev Dk)
  show FW tab 3 "distance" [.tuple (t.map PyData.int).reverse, .tuple (gs.map optI).reverse] _
  rw [← List.map_reverse, ← List.map_reverse]
  refine s_dist _ _ _ tw1 (by rw [List.length_reverse]; omega) ⟨⟨(ok_int _).shp, (ok_int _).shp⟩, ?_⟩
  rw [eqvT (ok_int _) (ok_int _) (by rw [e1])]
  have memd : ∀ {α : Type} (xs : List α) x, x ∈ dbl xs → x ∈ xs := fun xs x hx => by
    unfold dbl at hx
    obtain ⟨y, hy, h⟩ := List.mem_flatMap.mp hx
    simp only [List.mem_cons, List.not_mem_nil, or_false] at h
    rcases h with rfl | rfl <;> exact hy
  have tw2 : TW (dbl t) (dbl gs) := ⟨fun e => by
    have := congrArg List.length e
    rw [dbl_len, List.length_nil] at this
    omega, fun x hx => tw.ge x (memd t x hx), fun w hx => hw w (memd gs _ hx)⟩
  have e2 : distI (dbl t) (dbl gs) = k := (dist_is tw2).eq (by rw [lns_dbl]; exact dist_dbl Dk)
  refine s_twice (t.map PyData.int) _ (by omega) (s_twice (gs.map optI) _ (by omega) ?_)
  show FW tab 3 "distance" [.tuple (dbl (t.map PyData.int)), .tuple (dbl (gs.map optI))] _
  rw [dbl_map, dbl_map]
  refine s_dist _ _ _ tw2 (by rw [dbl_len]; omega) ⟨⟨(ok_int _).shp, (ok_int _).shp⟩, ?_⟩
  rw [eqvT (ok_int _) (ok_int _) (by rw [e2])]
  exact ⟨rfl, rfl, rfl, rfl, rfl, rfl, SlLe.any _, SlLe.any _, rfl, SlLe.any _, SlLe.any _, SlLe.any _, SlLe.any _, SlLe.any _, SlLe.any _, SlLe.any _, SlLe.any _, trivial⟩
theorem law_holds (ns : List Int) (h : ns.length ≤ 63) : FW tab 4 "law" [.list (ns.map PyData.int)] fun d => d = .bool true := by
  refine run_of (x := f_law) rfl rfl ?_
  refine ⟨⟨by decide, by decide⟩, ?_⟩
  refine for_rng (fun i => [.sh (lstI ns), .any, .any, .any, .any, .any, .any, .any, .any, .any, .any, .any, .any, .any, .any, .any, .any]) (EnLe.refl _) (fun i hi => ?_) rfl
  refine s_digits ns _ 130 27720 _ (by omega) (by have : i < 8 := hi; omega) (by decide) (by decide) (by decide) fun dg hdl hdg => ?_
  refine s_text dg 9 20 _ (by omega) (by decide) (by decide) (by decide) fun t ht1 ht2 ht3 => ?_
  have tl : t.length ≤ 9 := by omega
  have tge : ∀ x ∈ t, (0 : Int) ≤ x := fun x hx => (ht3 x hx).1
  show FW tab 3 "_law_near" [.list (cut (dg.map PyData.int) (some ((15 : Nat) : Int)) .none), tupI t, .int 20] _
  rw [cut_map, cut_lo]
  refine s_near (dg.drop 15) t 20 _ (by rw [List.length_drop]; omega) (by omega) ht1 (by decide) tge fun v hv1 hv2 => ?_
  show ∃ f : D → D, (∀ d ∈ zipD2 (v.map PyData.int) (cut (dg.map PyData.int) (some ((40 : Nat) : Int)) .none), _) ∧ (zipD2 (v.map PyData.int) (cut (dg.map PyData.int) (some ((40 : Nat) : Int)) .none)).length ≤ SZ ∧ _
  have dl : (dg.drop 40).length = 90 := by rw [List.length_drop]; omega
  have ec : cut (dg.map PyData.int) (some ((40 : Nat) : Int)) .none = (dg.drop 40).map PyData.int := by rw [cut_map, cut_lo]
  refine ⟨freeF, fun d hd => ?_, ?_, ?_⟩
  · rw [ec] at hd
    obtain ⟨m, hm⟩ := List.getElem?_of_mem hd
    obtain ⟨a, b, _, rfl⟩ := zip_at hm
    refine ⟨by decide, ⟨(ok_int _).shp, (ok_int _).shp⟩, ?_⟩
    rw [eqvE (decide (b % 4 = 0)) (ok_int _) (ok_int _) (by rw [decide_eq_true_eq, int_inj])]
    by_cases hb : b % 4 = 0
    · rw [decide_eq_true hb]
      show PyData.none = optI (if b % 4 = 0 then Option.none else some a)
      rw [if_pos hb]
      rfl
    · rw [decide_eq_false hb]
      show PyData.int a = optI (if b % 4 = 0 then Option.none else some a)
      rw [if_neg hb]
      rfl
  · rw [ec, zipD2, List.length_map, List.length_zip, List.length_map, List.length_map]
    show _ ≤ 16777216
    omega
  have ef : PyData.tuple ((zipD2 (v.map PyData.int) (cut (dg.map PyData.int) (some ((40 : Nat) : Int)) .none)).map freeF) = wishD (freeI v (dg.drop 40)) := by rw [ec, free_comp]
  have ln : (t.map PyData.int).length = t.length := List.length_map _
  refine for_by (fun _ => [.sh (lstI ns), .sh (.int (0 + (i : Nat))), .sh (lstI dg), .sh (tupI t), .sh (tupI v), .sh (wishD (freeI v (dg.drop 40))), .any, .any, .sh (.int t.length), .any, .any, .any, .any, .any, .any, .any, .any])
    ⟨rfl, rfl, rfl, rfl, rfl, ef, trivial, trivial, by rw [ln]; exact rfl, trivial, trivial, trivial, trivial, trivial, trivial, trivial, trivial, trivial⟩ (fun m d hm => ?_) ?_
  · obtain ⟨gs, rfl, hg1, hg2⟩ : ∃ gs : List (Option Int), d = wishD gs ∧ gs.length = t.length ∧ ∀ w, some w ∈ gs → 0 ≤ w := by
      have hm := List.mem_of_getElem? hm
      simp only [List.mem_cons, List.not_mem_nil, or_false] at hm
      rcases hm with rfl | rfl
      · refine ⟨v.map some, tup_wish v, by rw [List.length_map, hv1], fun w hw => ?_⟩
        obtain ⟨x, hx, e⟩ := List.mem_map.mp hw
        exact Option.some.inj e ▸ (hv2 x hx).1
      · exact ⟨_, ef, by rw [free_len (by omega), hv1], fun w hw => (hv2 w (free_mem hw)).1⟩
    exact goal_ok ns dg t v gs _ i ht1 tl ht3 hg1 hg2 _ _ _ _ _ _ _ _ _ _
  · -- mirrored and doubled scripts
    show FW tab 3 "_law_script" [.list (cut (dg.map PyData.int) (some ((50 : Nat) : Int)) .none), .int (t.length : Nat), .int 20] _
    rw [cut_map, cut_lo]
    refine s_script (dg.drop 50) t.length 20 _ (by rw [List.length_drop]; omega) (by omega) (by decide) (by decide) fun cs hc1 hc2 => ?_
    have hc3 : ∀ c ∈ cs, c.s ≤ c.e ∧ c.e ≤ t.length := fun c hc => by have := hc2 c hc; omega
    have hc4 : ∀ c ∈ cs, c.s ≤ c.e := fun c hc => (hc3 c hc).1
    have hm3 : ∀ c ∈ cs.map (mirC t.length), c.s ≤ c.e ∧ c.e ≤ t.length := fun c hc => by
      obtain ⟨a, ha, rfl⟩ := List.mem_map.mp hc
      have := hc3 a ha
      show t.length - a.e ≤ t.length - a.s ∧ t.length - a.s ≤ t.length
      omega
    have hd3 : ∀ c ∈ cs.map dblC, c.s ≤ c.e ∧ c.e ≤ 2 * t.length := fun c hc => by
      obtain ⟨a, ha, rfl⟩ := List.mem_map.mp hc
      have := hc3 a ha
      show 2 * a.s ≤ 2 * a.e ∧ 2 * a.e ≤ 2 * t.length
      omega
    have lc : (cs.map cmdD).length = cs.length := List.length_map _
    let fm : D → D := fun d => match d with | .tuple [x, .int s, .int e] => .tuple [x, .int ((t.length : Int) - e), .int ((t.length : Int) - s)] | _ => .none
    let fd : D → D := fun d => match d with | .tuple [x, .int s, .int e] => .tuple [x, .int (2 * s), .int (2 * e)] | _ => .none
    have em : PyData.tuple ((cs.map cmdD).map fm) = scrD (cs.map (mirC t.length)) := by
      rw [scrD, List.map_map, List.map_map]
      congr 1
      refine List.map_congr_left fun c hc => ?_
      have := hc3 c hc
      show PyData.tuple [nmD c.inn, .int ((t.length : Int) - c.e), .int ((t.length : Int) - c.s)] = PyData.tuple [nmD c.inn, .int ((t.length - c.e : Nat) : Int), .int ((t.length - c.s : Nat) : Int)]
      rw [show ((t.length - c.e : Nat) : Int) = (t.length : Int) - c.e by omega, show ((t.length - c.s : Nat) : Int) = (t.length : Int) - c.s by omega]
    have ed : PyData.tuple ((cs.map cmdD).map fd) = scrD (cs.map dblC) := by
      rw [scrD, List.map_map, List.map_map]
      congr 1
    refine ⟨fm, fun d hd => ?_, by rw [lc]; show _ ≤ 16777216; omega, ?_⟩
    · obtain ⟨c, _, rfl⟩ := List.mem_map.mp hd
      exact rfl
    have ok1 : (applyI t cs).length = t.length := apply_len hc4
    -- the mirrored script
    show FW tab 3 "apply" [.tuple (t.map PyData.int).reverse, PyData.tuple ((cs.map cmdD).map fm)] _
    rw [em, ← List.map_reverse]
    refine s_apply t.reverse _ _ (by rw [List.length_reverse]; omega) (fun c hc => (hm3 c hc).1) ?_
    refine s_apply t cs _ (by omega) hc4 ?_
    show (Shp (tupI (applyI t.reverse (cs.map (mirC t.length)))) ∧ Shp (PyData.tuple ((applyI t cs).map PyData.int).reverse)) ∧ _
    rw [← List.map_reverse]
    refine ⟨⟨(ok_tupI _).shp, (ok_tupI _).shp⟩, ?_⟩
    rw [eqvT (ok_tupI _) (ok_tupI _) (by rw [apply_rev cs t hc3])]
    show FW tab 3 "idle" [.tuple (t.map PyData.int).reverse, scrD (cs.map (mirC t.length))] _
    rw [← List.map_reverse]
    refine s_idle t.reverse _ _ (by rw [List.length_reverse]; omega) (by rw [List.length_map]; omega) (fun c hc => (hm3 c hc).1) ?_
    refine s_idle t cs _ (by omega) (by omega) hc4 ⟨⟨(ok_lstI _).shp, (ok_lstI _).shp⟩, ?_⟩
    rw [eqvT (ok_lstI _) (ok_lstI _) (by rw [idle_rev cs t 0 hc3])]
    refine s_effects t.length _ _ (by omega) hm3 ?_
    refine s_effects t.length cs _ (by omega) hc3 ?_
    show (Shp (lstP (effI t.length (cs.map (mirC t.length)))) ∧ Shp (PyData.list ((effI t.length cs).map pairD).reverse)) ∧ _
    rw [← List.map_reverse]
    refine ⟨⟨(ok_lstP _).shp, (ok_lstP _).shp⟩, ?_⟩
    rw [eqvT (ok_lstP _) (ok_lstP _) (by rw [show effI t.length (cs.map (mirC t.length)) = (effI t.length cs).reverse from rm_rev t.length cs hc3 fun p => p])]
    -- the doubled script
    refine ⟨fd, fun d hd => ?_, by rw [lc]; show _ ≤ 16777216; omega, ?_⟩
    · obtain ⟨c, _, rfl⟩ := List.mem_map.mp hd
      exact ⟨small_mul ⟨by decide, by decide⟩, small_mul ⟨by decide, by decide⟩, rfl⟩
    refine s_twice (t.map PyData.int) _ (by omega) ?_
    show FW tab 3 "apply" [.tuple (dbl (t.map PyData.int)), PyData.tuple ((cs.map cmdD).map fd)] _
    rw [ed, dbl_map]
    refine s_apply (dbl t) _ _ (by rw [dbl_len]; omega) (fun c hc => (hd3 c hc).1) ?_
    refine s_apply t cs _ (by omega) hc4 ?_
    refine s_twice ((applyI t cs).map PyData.int) _ (by rw [List.length_map]; omega) ?_
    show (Shp (tupI (applyI (dbl t) (cs.map dblC))) ∧ Shp (PyData.tuple (dbl ((applyI t cs).map PyData.int)))) ∧ _
    rw [dbl_map]
    refine ⟨⟨(ok_tupI _).shp, (ok_tupI _).shp⟩, ?_⟩
    rw [eqvT (ok_tupI _) (ok_tupI _) (by rw [apply_dbl cs t hc4])]
    -- the fewest commands
    have po : ∀ x ∈ outsI t.length cs, (0 : Int) ≤ x := fun x hx => by
      obtain ⟨j, _, rfl⟩ := List.mem_map.mp hx
      have := effP_ge cs j
      omega
    have pi : ∀ x ∈ insI t.length cs, (0 : Int) ≤ x := fun x hx => by
      obtain ⟨j, _, rfl⟩ := List.mem_map.mp hx
      exact (effP_ge cs j).1
    have f1 : rf 0 (outsI t.length (cs.map (mirC t.length))) + rf 0 (insI t.length (cs.map (mirC t.length))) = rf 0 (outsI t.length cs) + rf 0 (insI t.length cs) := by
      rw [show outsI t.length (cs.map (mirC t.length)) = (outsI t.length cs).reverse from rm_rev t.length cs hc3 fun p => p.2 - p.1, show insI t.length (cs.map (mirC t.length)) = (insI t.length cs).reverse from rm_rev t.length cs hc3 fun p => p.2, rf_rev _ po, rf_rev _ pi]
    have f2 : rf 0 (outsI (2 * t.length) (cs.map dblC)) + rf 0 (insI (2 * t.length) (cs.map dblC)) = rf 0 (outsI t.length cs) + rf 0 (insI t.length cs) := by
      rw [show outsI (2 * t.length) (cs.map dblC) = dbl (outsI t.length cs) from rm_dbl t.length cs fun p => p.2 - p.1, show insI (2 * t.length) (cs.map dblC) = dbl (insI t.length cs) from rm_dbl t.length cs fun p => p.2, rf_dbl, rf_dbl]
    refine s_fewest t.length _ _ (by omega) hm3 (s_fewest t.length cs _ (by omega) hc3 ⟨⟨(ok_int _).shp, (ok_int _).shp⟩, ?_⟩)
    rw [eqvT (ok_int _) (ok_int _) (by rw [f1])]
    refine ⟨small_mul ⟨by decide, by decide⟩, ?_⟩
    show FW tab 3 "fewest_equal" [.int (2 * (t.length : Int)), scrD (cs.map dblC)] _
    rw [show (2 * (t.length : Int)) = ((2 * t.length : Nat) : Int) by omega]
    refine s_fewest (2 * t.length) _ _ (by omega) hd3 (s_fewest t.length cs _ (by omega) hc3 ⟨⟨(ok_int _).shp, (ok_int _).shp⟩, ?_⟩)
    rw [eqvT (ok_int _) (ok_int _) (by rw [f2])]
    exact ⟨rfl, trivial, trivial, trivial, trivial, trivial, trivial, trivial, trivial, trivial, trivial, trivial, trivial, trivial, trivial, trivial, trivial, trivial⟩
end Z.k17

namespace Z
open PySem PySem.Spec PyProof.Rows L2
/-! the state relation: G the frozen part of the heap H -/
def kD : Key → D
  | .inl i => .int i
  | .inr s => .str s
def keyD (k : List Key) : D := .tuple (k.map kD)
mutual
inductive Rep (K : PySem.W.Frag) (G : Hp) : V → D → Prop
  | non : Rep K G .non .none
  | bl (b : Bool) : Rep K G (.bl b) (.bool b)
  | int (i : Int) : Rep K G (.int i) (.int i)
  | str (x : Str) : Rep K G (.str x) (.str x)
  | lst {a : Addr} {xs : List V} {ds : List D} : SqL K G a xs → RepAll K G xs ds → Rep K G (.ref a) (.list ds)
  | tup {a : Addr} {xs : List V} {ds : List D} : G a = some (.tup xs) → RepAll K G xs ds → Rep K G (.ref a) (.tuple ds)
  | dic {a : Addr} {kvs : List (List Key × V)} {dk : List (D × D)} : G a = some (.dT kvs) → RepKV K G kvs dk → Rep K G (.ref a) (.dict dk)
inductive RepAll (K : PySem.W.Frag) (G : Hp) : List V → List D → Prop
  | nil : RepAll K G [] []
  | cons {v : V} {vs : List V} {d : D} {ds : List D} : Rep K G v d → RepAll K G vs ds → RepAll K G (v :: vs) (d :: ds)
inductive RepKV (K : PySem.W.Frag) (G : Hp) : List (List Key × V) → List (D × D) → Prop
  | nil : RepKV K G [] []
  | cons {k : List Key} {v : V} {kvs : List (List Key × V)} {d : D} {dk : List (D × D)} : Rep K G v d → RepKV K G kvs dk → RepKV K G ((k, v) :: kvs) ((keyD k, d) :: dk)
end
theorem Same.tup {K : PySem.W.Frag} {H H' : Hp} {a : Addr} {xs : List V} (e : Same H H') (h : SqT K H a xs) : SqT K H' a xs := by
  rcases h with (h | ⟨o, h⟩) | h
  · exact .inl (.inl (e _ _ h))
  · exact .inl (.inr ⟨o, e _ _ h⟩)
  · exact .inr h
section
variable {K : PySem.W.Frag} {G G' : Hp}
mutual
theorem Rep.mono (g : Same G G') : ∀ {v : V} {d : D}, Rep K G v d → Rep K G' v d
  | _, _, .non => .non
  | _, _, .bl b => .bl b
  | _, _, .int b => .int b
  | _, _, .str b => .str b
  | _, _, .lst h r => .lst (g.seq h) (RepAll.mono g r)
  | _, _, .tup h r => .tup (g _ _ h) (RepAll.mono g r)
  | _, _, .dic h r => .dic (g _ _ h) (RepKV.mono g r)
theorem RepAll.mono (g : Same G G') : ∀ {v : List V} {d : List D}, RepAll K G v d → RepAll K G' v d
  | _, _, .nil => .nil
  | _, _, .cons h r => .cons (Rep.mono g h) (RepAll.mono g r)
theorem RepKV.mono (g : Same G G') : ∀ {v : List (List Key × V)} {d : List (D × D)}, RepKV K G v d → RepKV K G' v d
  | _, _, .nil => .nil
  | _, _, .cons h r => .cons (Rep.mono g h) (RepKV.mono g r)
end
theorem RepAll.length : ∀ {v : List V} {d : List D}, RepAll K G v d → v.length = d.length
  | _, _, .nil => rfl
  | _, _, .cons _ r => congrArg (· + 1) r.length
theorem RepAll.get : ∀ {v : List V} {ds : List D} {i : Nat} {d : D}, RepAll K G v ds → ds[i]? = some d → ∃ x, v[i]? = some x ∧ Rep K G x d
  | _, _, _, _, .nil, e => by simp at e
  | _, _, 0, _, .cons h r, e => by simp at e; subst e; exact ⟨_, rfl, h⟩
  | _, _, i + 1, _, .cons h r, e => by
    obtain ⟨x, h1, h2⟩ := RepAll.get (i := i) r (by simpa using e)
    exact ⟨x, by simpa using h1, h2⟩
theorem RepAll.append : ∀ {v w : List V} {d e : List D}, RepAll K G v d → RepAll K G w e → RepAll K G (v ++ w) (d ++ e)
  | _, _, _, _, .nil, s => s
  | _, _, _, _, .cons h r, s => .cons h (r.append s)
theorem RepAll.take : ∀ {v : List V} {d : List D} (n : Nat), RepAll K G v d → RepAll K G (v.take n) (d.take n)
  | _, _, 0, _ => .nil
  | _, _, _ + 1, .nil => .nil
  | _, _, n + 1, .cons h r => .cons h (r.take n)
theorem RepAll.drop : ∀ {v : List V} {d : List D} (n : Nat), RepAll K G v d → RepAll K G (v.drop n) (d.drop n)
  | _, _, 0, r => r
  | _, _, _ + 1, .nil => .nil
  | _, _, n + 1, .cons _ r => r.drop n
theorem RepAll.set {x : V} {y : D} (h : Rep K G x y) : ∀ {v : List V} {d : List D} (n : Nat), RepAll K G v d → RepAll K G (v.set n x) (d.set n y)
  | _, _, _, .nil => .nil
  | _, _, 0, .cons _ r => .cons h r
  | _, _, n + 1, .cons h' r => .cons h' (r.set h n)
theorem RepAll.reverse : ∀ {v : List V} {d : List D}, RepAll K G v d → RepAll K G v.reverse d.reverse
  | _, _, .nil => .nil
  | _, _, .cons h r => by rw [List.reverse_cons, List.reverse_cons]; exact r.reverse.append (.cons h .nil)
theorem RepAll.rep {v : List V} {d : List D} (h : RepAll K G v d) : ∀ k : Nat, RepAll K G (List.replicate k v).flatten (List.replicate k d).flatten
  | 0 => .nil
  | k + 1 => by
    rw [List.replicate_succ, List.replicate_succ, List.flatten_cons, List.flatten_cons]
    exact h.append (h.rep k)
theorem RepAll.cut {v : List V} {d : List D} (h : RepAll K G v d) (lo hi : Option Int) : RepAll K G (cutV v lo hi) (cut d lo hi) := by
  unfold cutV Z.cut
  have e : ∀ n d o, HT.sIx n d o = Z.sIx n d o := fun n d o => by cases o <;> rfl
  rw [h.length, e, e]
  exact (h.drop _).take _
theorem RepAll.ints : ∀ {v : List V} {ns : List Int}, RepAll K G v (ns.map PyData.int) → v = ns.map V.int
  | _, [], .nil => rfl
  | _, _ :: _, .cons (.int _) r => by rw [List.map_cons, r.ints]
theorem RepAll.bools : ∀ {v : List V} {ns : List Bool}, RepAll K G v (ns.map PyData.bool) → v = ns.map V.bl
  | _, [], .nil => rfl
  | _, _ :: _, .cons (.bl _) r => by rw [List.map_cons, r.bools]
theorem RepKV.length : ∀ {v : List (List Key × V)} {d : List (D × D)}, RepKV K G v d → v.length = d.length
  | _, _, .nil => rfl
  | _, _, .cons _ r => congrArg (· + 1) r.length
end

def Sub (G H : Hp) : Prop := ∀ a o, G a = some o → H a = some o ∨ ∃ od kvs, o = .dT kvs ∧ H a = some (.frz od (.dT kvs))
structure Ext (G H G' H' : Hp) : Prop where
  gg : Same G G'
  hh : Same H H'
  sub : Sub G' H'
  new : ∀ a o, G' a = some o → G a = some o ∨ H a = none ∨ ∃ xs, H a = some (.tup xs)
theorem Same.refl' (G : Hp) : Same G G := fun _ _ h => h
section
variable {K : PySem.W.Frag} {G H G1 H1 G2 H2 : Hp} {a : Addr}
theorem Sub.refl : Sub H H := fun _ _ h => .inl h
theorem Ext.refl (s : Sub G H) : Ext G H G H := ⟨Same.refl' _, Same.refl' _, s, fun _ _ h => .inl h⟩
theorem Ext.trans (x : Ext G H G1 H1) (y : Ext G1 H1 G2 H2) : Ext G H G2 H2 := by
  refine ⟨fun b o h => y.gg b o (x.gg b o h), fun b o h => y.hh b o (x.hh b o h), y.sub, fun b o h => ?_⟩
  have key : ∀ {o'}, H1 b = none ∨ H1 b = some o' → H b = none ∨ H b = some o' := fun {o'} h => by
    cases q : H b with
    | none => exact .inl rfl
    | some u =>
      have := x.hh b u q
      rcases h with h | h
      · rw [h] at this; cases this
      · rw [h] at this; cases this; exact .inr rfl
  rcases y.new b o h with h | h | ⟨xs, h⟩
  · exact x.new b o h
  · rcases key (o' := .tup []) (.inl h) with h | h
    · exact .inr (.inl h)
    · exact .inr (.inr ⟨_, h⟩)
  · rcases key (.inr h) with h | h
    · exact .inr (.inl h)
    · exact .inr (.inr ⟨_, h⟩)
theorem Sub.seq (s : Sub G H) {xs : List V} (h : SqL K G a xs) : SqL K H a xs := by
  rcases h with (h | ⟨o, h⟩) | h
  · rcases s _ _ h with h | ⟨_, _, e, _⟩
    · exact .inl (.inl h)
    · cases e
  · rcases s _ _ h with h | ⟨_, _, e, _⟩
    · exact .inl (.inr ⟨o, h⟩)
    · cases e
  · exact .inr h
theorem Sub.tup (s : Sub G H) {xs : List V} (h : SqT K G a xs) : SqT K H a xs := by
  rcases h with (h | ⟨o, h⟩) | h
  · rcases s _ _ h with h | ⟨_, _, e, _⟩
    · exact .inl (.inl h)
    · cases e
  · rcases s _ _ h with h | ⟨_, _, e, _⟩
    · exact .inl (.inr ⟨o, h⟩)
    · cases e
  · exact .inr h
theorem Sub.dt (s : Sub G H) {kvs : List (List Key × V)} (h : G a = some (.dT kvs)) : Rd H a (.dT kvs) := by
  rcases s _ _ h with h | ⟨od, _, e, h⟩
  · exact .inl h
  · cases e; exact .inr ⟨od, h⟩
/-- one new object, not frozen -/
theorem Ext.laid {p : Addr} {o : HO} (s : Sub G H) (hp : H p = none) : Ext G H G (upd H p o) := by
  refine ⟨Same.refl' _, fun b u h => ?_, fun b u h => ?_, fun b u h => .inl h⟩
  · rw [upd_ne (ne_of_none h hp)]; exact h
  · rcases s _ _ h with h | ⟨od, kvs, e, h⟩
    · rw [upd_ne (ne_of_none h hp)]; exact .inl h
    · rw [upd_ne (ne_of_none h hp)]; exact .inr ⟨od, kvs, e, h⟩
theorem Sub.none (s : Sub G H) (h : H a = none) : G a = none := by
  cases q : G a with
  | none => rfl
  | some o =>
    rcases s _ _ q with e | ⟨_, _, _, e⟩ <;> rw [h] at e <;> cases e
/-- .. frozen -/
theorem Ext.laidF {p : Addr} {o : HO} (s : Sub G H) (hp : H p = none) : Ext G H (upd G p o) (upd H p o) := by
  have gp := s.none hp
  refine ⟨fun b u h => ?_, fun b u h => ?_, fun b u h => ?_, fun b u h => ?_⟩
  · rw [upd_ne (ne_of_none h gp)]; exact h
  · rw [upd_ne (ne_of_none h hp)]; exact h
  · by_cases e : b = p
    · subst e; rw [upd_same] at h ⊢; exact .inl h
    · rw [upd_ne e] at h ⊢; exact s _ _ h
  · by_cases e : b = p
    · subst e; exact .inr (.inl hp)
    · rw [upd_ne e] at h; exact .inl h
/-- an object of H that is new since H0 is frozen -/
theorem Ext.freeze {H0 G0 : Hp} {p : Addr} {o : HO} (x : Ext G0 H0 G H) (h0 : H0 p = none) (hp : H p = some o) (gp : G p = none) : Ext G0 H0 (upd G p o) H := by
  refine ⟨fun b u h => ?_, x.hh, fun b u h => ?_, fun b u h => ?_⟩
  · rw [upd_ne (ne_of_none (x.gg _ _ h) gp)]; exact x.gg _ _ h
  · by_cases e : b = p
    · subst e; rw [upd_same] at h; cases h; exact .inl hp
    · rw [upd_ne e] at h; exact x.sub _ _ h
  · by_cases e : b = p
    · subst e; exact .inr (.inl h0)
    · rw [upd_ne e] at h; exact x.new _ _ h
/-- a tuple of H is taken into G -/
theorem Ext.freezeT {p : Addr} {xs : List V} (s : Sub G H) (hp : H p = some (.tup xs)) : Ext G H (upd G p (.tup xs)) H := by
  refine ⟨fun b u h => ?_, Same.refl' _, fun b u h => ?_, fun b u h => ?_⟩
  · by_cases e : b = p
    · subst e
      rcases s _ _ h with z | ⟨_, _, _, z⟩
      · rw [hp] at z; cases z; exact upd_same
      · rw [hp] at z; cases z
    · rw [upd_ne e]; exact h
  · by_cases e : b = p
    · subst e; rw [upd_same] at h; cases h; exact .inl hp
    · rw [upd_ne e] at h; exact s _ _ h
  · by_cases e : b = p
    · subst e; exact .inr (.inr ⟨xs, hp⟩)
    · rw [upd_ne e] at h; exact .inl h
end

/-- what an owned place holds -/
def OwnAt (K : PySem.W.Frag) (G H : Hp) (a : Addr) : D → Prop
  | .list ds => ∃ xs, H a = some (.lst xs) ∧ RepAll K G xs ds
  | .dict dk => ∃ kvs, H a = some (.dT kvs) ∧ RepKV K G kvs dk
  | _ => False
theorem OwnAt.ext {K : PySem.W.Frag} {G H G' H' : Hp} {a : Addr} {d : D} (o : OwnAt K G H a d) (x : Ext G H G' H') : OwnAt K G' H' a d := by
  cases d with
  | list ds => obtain ⟨xs, h, r⟩ := o; exact ⟨xs, x.hh _ _ h, r.mono x.gg⟩
  | dict dk => obtain ⟨xs, h, r⟩ := o; exact ⟨xs, x.hh _ _ h, r.mono x.gg⟩
  | _ => exact o.elim
theorem OwnAt.ex {K : PySem.W.Frag} {G H : Hp} {a : Addr} {d : D} (o : OwnAt K G H a d) : ∃ u, H a = some u ∧ (∀ xs, u ≠ .tup xs) ∧ Mut (some u) := by
  cases d with
  | list ds => obtain ⟨xs, h, r⟩ := o; exact ⟨_, h, (fun _ z => by cases z), trivial⟩
  | dict dk => obtain ⟨xs, h, r⟩ := o; exact ⟨_, h, (fun _ z => by cases z), trivial⟩
  | _ => exact o.elim
theorem OwnAt.keep {K : PySem.W.Frag} {G H G' H' : Hp} {a : Addr} {d : D} (o : OwnAt K G H a d) (g : Same G G') (h : ∀ u, H a = some u → H' a = some u) : OwnAt K G' H' a d := by
  cases d with
  | list ds => obtain ⟨xs, e, r⟩ := o; exact ⟨xs, h _ e, r.mono g⟩
  | dict dk => obtain ⟨xs, e, r⟩ := o; exact ⟨xs, h _ e, r.mono g⟩
  | _ => exact o.elim
/-- its content frozen -/
theorem OwnAt.frz {K : PySem.W.Frag} {G H : Hp} {a : Addr} {d : D} (o : OwnAt K G H a d) (gn : G a = none) : ∃ u, H a = some u ∧ Rep K (upd G a u) (.ref a) d := by
  have g : ∀ u, Same G (upd G a u) := fun u b w h => by rw [upd_ne (ne_of_none h gn)]; exact h
  cases d with
  | list ds => obtain ⟨xs, h, r⟩ := o; exact ⟨_, h, .lst (.inl (.inl upd_same)) (r.mono (g _))⟩
  | dict dk => obtain ⟨xs, h, r⟩ := o; exact ⟨_, h, .dic upd_same (r.mono (g _))⟩
  | _ => exact o.elim
/-- to be read -/
def RdD (K : PySem.W.Frag) (G H : Hp) (v : V) (d : D) : Prop := Rep K G v d ∨ ∃ a, v = .ref a ∧ OwnAt K G H a d
theorem RdD.ext {K : PySem.W.Frag} {G H G' H' : Hp} {v : V} {d : D} (o : RdD K G H v d) (x : Ext G H G' H') : RdD K G' H' v d := by
  rcases o with r | ⟨a, e, o⟩
  · exact .inl (r.mono x.gg)
  · exact .inr ⟨a, e, o.ext x⟩
section
variable {K : PySem.W.Frag} {G H : Hp} {v : V}
theorem RdD.int {i : Int} (r : RdD K G H v (.int i)) : v = .int i := by
  rcases r with r | ⟨a, e, o⟩
  · cases r; rfl
  · exact o.elim
theorem RdD.bl {i : Bool} (r : RdD K G H v (.bool i)) : v = .bl i := by
  rcases r with r | ⟨a, e, o⟩
  · cases r; rfl
  · exact o.elim
theorem RdD.str {i : Str} (r : RdD K G H v (.str i)) : v = .str i := by
  rcases r with r | ⟨a, e, o⟩
  · cases r; rfl
  · exact o.elim
theorem RdD.non (r : RdD K G H v .none) : v = .non := by
  rcases r with r | ⟨a, e, o⟩
  · cases r; rfl
  · exact o.elim
theorem RdD.lst {ds : List D} (r : RdD K G H v (.list ds)) (s : Sub G H) : ∃ a xs, v = .ref a ∧ SqL K H a xs ∧ RepAll K G xs ds := by
  rcases r with r | ⟨a, e, xs, h, o⟩
  · cases r with
    | lst h r => exact ⟨_, _, rfl, s.seq h, r⟩
  · exact ⟨a, xs, e, .inl (.inl h), o⟩
theorem Sub.tp {a : Addr} {xs : List V} (s : Sub G H) (h : G a = some (.tup xs)) : H a = some (.tup xs) := by
  rcases s _ _ h with h | ⟨_, _, e, _⟩
  · exact h
  · cases e
theorem RdD.tup {ds : List D} (r : RdD K G H v (.tuple ds)) (s : Sub G H) : ∃ a xs, v = .ref a ∧ SqT K H a xs ∧ RepAll K G xs ds ∧ G a = some (.tup xs) := by
  rcases r with r | ⟨a, e, o⟩
  · cases r with
    | tup h r => exact ⟨_, _, rfl, .inl (.inl (s.tp h)), r, h⟩
  · exact o.elim
theorem RdD.dic {ds : List (D × D)} (r : RdD K G H v (.dict ds)) (s : Sub G H) : ∃ a kvs, v = .ref a ∧ Rd H a (.dT kvs) ∧ RepKV K G kvs ds := by
  rcases r with r | ⟨a, e, kvs, h, o⟩
  · cases r with
    | dic h r => exact ⟨_, _, rfl, s.dt h, r⟩
  · exact ⟨a, kvs, e, .inl h, o⟩
end

/-- the slots -/
def SlotR (K : PySem.W.Frag) (H0 G H : Hp) (v : Option V) : Sl → Prop
  | .any => True
  | .sh d => ∃ x, v = some x ∧ Rep K G x d
  | .ow d => ∃ a, v = some (.ref a) ∧ H0 a = none ∧ G a = none ∧ OwnAt K G H a d
def Ows (σ : L2.St) (e : En) (i : Nat) (a : Addr) : Prop := (∃ d, e[i]? = some (.ow d)) ∧ σ[i]? = some (some (.ref a))
structure SR (K : PySem.W.Frag) (H0 G0 G H : Hp) (σ : L2.St) (e : En) : Prop where
  x : Ext G0 H0 G H
  len : σ.length = e.length
  slot : ∀ (i : Nat) (s : Sl), e[i]? = some s → ∃ v, σ[i]? = some v ∧ SlotR K H0 G H v s
  apart : ∀ (i j : Nat) (a : Addr), Ows σ e i a → Ows σ e j a → i = j
section
variable {K : PySem.W.Frag} {H0 G0 G H G' H' : Hp} {σ : L2.St} {e : En}
theorem SR.ext (r : SR K H0 G0 G H σ e) (x : Ext G H G' H') : SR K H0 G0 G' H' σ e := by
  refine ⟨r.x.trans x, r.len, fun i s h => ?_, r.apart⟩
  obtain ⟨v, h1, h2⟩ := r.slot i s h
  refine ⟨v, h1, ?_⟩
  cases s with
  | any => trivial
  | sh d => obtain ⟨y, h3, h4⟩ := h2; exact ⟨y, h3, h4.mono x.gg⟩
  | ow d =>
    obtain ⟨a, h3, h4, h5, h6⟩ := h2
    refine ⟨a, h3, h4, ?_, h6.ext x⟩
    obtain ⟨u, hu, hn, _⟩ := h6.ex
    cases q : G' a with
    | none => rfl
    | some o =>
      rcases x.new a o q with z | z | ⟨xs, z⟩
      · rw [h5] at z; cases z
      · rw [hu] at z; cases z
      · rw [hu] at z; cases z; exact absurd rfl (hn xs)
theorem gS_get : ∀ {e : En} {i : Nat} {Q : D → Prop}, gS e i Q → ∃ d, e[i]? = some (.sh d) ∧ Q d
  | [], i, Q, h => by cases i <;> exact h.elim
  | s :: e, 0, Q, h => by
    cases s with
    | sh d => exact ⟨d, rfl, h⟩
    | _ => exact h.elim
  | _ :: e, i + 1, Q, h => by
    obtain ⟨d, h1, h2⟩ := gS_get (e := e) (i := i) (Q := Q) h
    exact ⟨d, by simpa using h1, h2⟩
theorem gO_get : ∀ {e : En} {i : Nat} {Q : D → Prop}, gO e i Q → ∃ d, e[i]? = some (.ow d) ∧ Q d
  | [], i, Q, h => by cases i <;> exact h.elim
  | s :: e, 0, Q, h => by
    cases s with
    | ow d => exact ⟨d, rfl, h⟩
    | _ => exact h.elim
  | _ :: e, i + 1, Q, h => by
    obtain ⟨d, h1, h2⟩ := gO_get (e := e) (i := i) (Q := Q) h
    exact ⟨d, by simpa using h1, h2⟩
/-- a slot is given a shared value -/
theorem SR.setS (r : SR K H0 G0 G H σ e) (i : Nat) {v : V} {d : D} (h : Rep K G v d) : SR K H0 G0 G H (σ.set i (some v)) (e.set i (.sh d)) := by
  refine ⟨r.x, by simp [r.len], fun j s hj => ?_, fun j k a h1 h2 => ?_⟩
  · by_cases hij : i = j
    · subst hij
      have hl : i < e.length := by
        have := (List.getElem?_eq_some_iff.mp hj).1
        simpa using this
      rw [List.getElem?_set_self hl] at hj
      cases hj
      exact ⟨some v, List.getElem?_set_self (by rw [r.len]; exact hl), v, rfl, h⟩
    · rw [List.getElem?_set_ne hij] at hj ⊢
      exact r.slot j s hj
  · have key : ∀ {j}, Ows (σ.set i (some v)) (e.set i (.sh d)) j a → Ows σ e j a := fun {j} ⟨⟨d', hd⟩, hv⟩ => by
      by_cases hij : i = j
      · subst hij
        have hl : i < e.length := by
          have := (List.getElem?_eq_some_iff.mp hd).1
          simpa using this
        rw [List.getElem?_set_self hl] at hd
        cases hd
      · rw [List.getElem?_set_ne hij] at hd hv
        exact ⟨⟨d', hd⟩, hv⟩
    exact r.apart j k a (key h1) (key h2)
/-- .. an owned one -/
theorem SR.setO (r : SR K H0 G0 G H σ e) (i : Nat) {a : Addr} {d : D} (h0 : H0 a = none) (hg : G a = none) (ho : OwnAt K G H a d)
    (new : ∀ j, j ≠ i → ¬ Ows σ e j a) : SR K H0 G0 G H (σ.set i (some (.ref a))) (e.set i (.ow d)) := by
  refine ⟨r.x, by simp [r.len], fun j s hj => ?_, fun j k b h1 h2 => ?_⟩
  · by_cases hij : i = j
    · subst hij
      have hl : i < e.length := by
        have := (List.getElem?_eq_some_iff.mp hj).1
        simpa using this
      rw [List.getElem?_set_self hl] at hj
      cases hj
      exact ⟨_, List.getElem?_set_self (by rw [r.len]; exact hl), a, rfl, h0, hg, ho⟩
    · rw [List.getElem?_set_ne hij] at hj ⊢
      exact r.slot j s hj
  · have key : ∀ {j}, Ows (σ.set i (some (.ref a))) (e.set i (.ow d)) j b → (j = i ∧ b = a) ∨ (j ≠ i ∧ Ows σ e j b) := fun {j} ⟨⟨d', hd⟩, hv⟩ => by
      by_cases hij : i = j
      · subst hij
        have hl : i < σ.length := by
          have := (List.getElem?_eq_some_iff.mp hv).1
          simpa using this
        rw [List.getElem?_set_self hl] at hv
        cases hv
        exact .inl ⟨rfl, rfl⟩
      · rw [List.getElem?_set_ne hij] at hd hv
        exact .inr ⟨Ne.symm hij, ⟨d', hd⟩, hv⟩
    rcases key h1 with ⟨e1, b1⟩ | ⟨n1, o1⟩
    · rcases key h2 with ⟨e2, _⟩ | ⟨n2, o2⟩
      · rw [e1, e2]
      · subst b1; exact absurd o2 (new k n2)
    · rcases key h2 with ⟨e2, b2⟩ | ⟨n2, o2⟩
      · subst b2; exact absurd o1 (new j n1)
      · exact r.apart j k b o1 o2
/-- an owned place is rewritten -/
theorem SR.wr (r : SR K H0 G0 G H σ e) {i : Nat} {a : Addr} {d : D} {o : HO} {d' : D} (ho : Ows σ e i a) (h0 : H0 a = none) (hg : G a = none) (hu : ∃ u, H a = some u ∧ Mut (some u)) (new : OwnAt K G (upd H a o) a d') :
    SR K H0 G0 G (upd H a o) σ (e.set i (.ow d')) := by
  obtain ⟨u, hu, mu⟩ := hu
  have he : e[i]?.isSome = true := by obtain ⟨⟨d, h⟩, _⟩ := ho; rw [h]; rfl
  have hl : i < e.length := by
    obtain ⟨⟨d, h⟩, _⟩ := ho
    exact (List.getElem?_eq_some_iff.mp h).1
  refine ⟨⟨r.x.gg, fun b w h => ?_, fun b w h => ?_, r.x.new⟩, by simp [r.len], fun j s hj => ?_, fun j k b h1 h2 => ?_⟩
  · rw [upd_ne (ne_of_none h h0)]; exact r.x.hh _ _ h
  · have : b ≠ a := ne_of_none h hg
    rw [upd_ne this]
    exact r.x.sub _ _ h
  · by_cases hij : i = j
    · subst hij
      rw [List.getElem?_set_self hl] at hj
      cases hj
      exact ⟨_, ho.2, a, rfl, h0, hg, new⟩
    · rw [List.getElem?_set_ne hij] at hj
      obtain ⟨v, h1, h2⟩ := r.slot j s hj
      refine ⟨v, h1, ?_⟩
      cases s with
      | any => trivial
      | sh d => exact h2
      | ow d =>
        obtain ⟨b, h3, h4, h5, h6⟩ := h2
        refine ⟨b, h3, h4, h5, h6.keep (Same.refl' _) fun u q => ?_⟩
        have : b ≠ a := fun z => by
          subst z
          exact hij (r.apart i j b ho ⟨⟨d, hj⟩, by rw [h1, h3]⟩)
        rw [upd_ne this]; exact q
  · have key : ∀ {j}, Ows σ (e.set i (.ow d')) j b → Ows σ e j b := fun {j} ⟨⟨d2, hd⟩, hv⟩ => by
      by_cases hij : i = j
      · subst hij; exact ⟨ho.1, hv⟩
      · rw [List.getElem?_set_ne hij] at hd; exact ⟨⟨d2, hd⟩, hv⟩
    exact r.apart j k b (key h1) (key h2)
/-- an owned slot is frozen -/
theorem SR.frz (r : SR K H0 G0 G H σ e) {i : Nat} {d : D} (he : e[i]? = some (.ow d)) : ∃ G', Same G G' ∧ SR K H0 G0 G' H σ (e.set i (.sh d)) := by
  obtain ⟨v, hv, a, rfl, h0, hg, ho⟩ := r.slot i _ he
  obtain ⟨u, hu, rep⟩ := ho.frz hg
  have g : Same G (upd G a u) := fun b w h => by rw [upd_ne (ne_of_none h hg)]; exact h
  refine ⟨upd G a u, g, r.x.freeze h0 hu hg, by simp [r.len], fun j s hj => ?_, fun j k b h1 h2 => ?_⟩
  · by_cases hij : i = j
    · subst hij
      have hl : i < e.length := (List.getElem?_eq_some_iff.mp he).1
      rw [List.getElem?_set_self hl] at hj
      cases hj
      exact ⟨_, hv, _, rfl, rep⟩
    · rw [List.getElem?_set_ne hij] at hj
      obtain ⟨v, h1, h2⟩ := r.slot j s hj
      refine ⟨v, h1, ?_⟩
      cases s with
      | any => trivial
      | sh d => obtain ⟨y, h3, h4⟩ := h2; exact ⟨y, h3, h4.mono g⟩
      | ow d' =>
        obtain ⟨b, h3, h4, h5, h6⟩ := h2
        have : b ≠ a := fun z => by
          subst z
          exact hij (r.apart i j b ⟨⟨d, he⟩, hv⟩ ⟨⟨d', hj⟩, by rw [h1, h3]⟩)
        exact ⟨b, h3, h4, by rw [upd_ne this]; exact h5, h6.keep g fun _ q => q⟩
  · have key : ∀ {j}, Ows σ (e.set i (.sh d)) j b → Ows σ e j b := fun {j} ⟨⟨d2, hd⟩, hv⟩ => by
      by_cases hij : i = j
      · subst hij
        have hl : i < e.length := (List.getElem?_eq_some_iff.mp he).1
        rw [List.getElem?_set_self hl] at hd; cases hd
      · rw [List.getElem?_set_ne hij] at hd; exact ⟨⟨d2, hd⟩, hv⟩
    exact r.apart j k b (key h1) (key h2)
/-- a slot is forgotten -/
theorem SR.any (r : SR K H0 G0 G H σ e) (i : Nat) : SR K H0 G0 G H σ (e.set i .any) := by
  refine ⟨r.x, by simp [r.len], fun j s hj => ?_, fun j k b h1 h2 => ?_⟩
  · by_cases hij : i = j
    · subst hij
      have hl : i < e.length := by
        have := (List.getElem?_eq_some_iff.mp hj).1
        simpa using this
      rw [List.getElem?_set_self hl] at hj
      cases hj
      have : i < σ.length := by rw [r.len]; exact hl
      exact ⟨σ[i], by simp [this], trivial⟩
    · rw [List.getElem?_set_ne hij] at hj
      exact r.slot j s hj
  · have key : ∀ {j}, Ows σ (e.set i .any) j b → Ows σ e j b := fun {j} ⟨⟨d2, hd⟩, hv⟩ => by
      by_cases hij : i = j
      · subst hij
        have hl : i < e.length := by
          have := (List.getElem?_eq_some_iff.mp hd).1
          simpa using this
        rw [List.getElem?_set_self hl] at hd; cases hd
      · rw [List.getElem?_set_ne hij] at hd; exact ⟨⟨d2, hd⟩, hv⟩
    exact r.apart j k b (key h1) (key h2)
end
end Z

namespace Z
open PySem PySem.Spec PyProof.Rows L2
def Frs (K : PySem.W.Frag) (H G' H' : Hp) (v : V) (d : D) : Prop :=
  (isLD d = true ∧ ∃ a, v = .ref a ∧ H a = none ∧ G' a = none ∧ OwnAt K G' H' a d) ∨ (isLD d = false ∧ Rep K G' v d)
def VP (K : PySem.W.Frag) (G H : Hp) (R : D → Prop) (Q : VK) : Prop := ∀ v H' G' d, R d → Ext G H G' H' → Rep K G' v d → Q v H'
def VX (K : PySem.W.Frag) (G H : Hp) (R : D → Prop) (Q : VK) : Prop := ∀ v H' G' d, R d → Ext G H G' H' → Frs K H G' H' v d → Q v H'
section
variable {K : PySem.W.Frag} {G H : Hp} {R : D → Prop} {Q : VK}
theorem VP.x (h : VP K G H R Q) : VX K G H R Q := fun v H' G' d r x f => by
  rcases f with ⟨hl, a, rfl, ha, hg, o⟩ | ⟨_, rep⟩
  · obtain ⟨u, hu, rep⟩ := o.frz hg
    exact h _ H' _ d r (x.freeze ha hu hg) rep
  · exact h v H' G' d r x rep
/-- a plain result, the heap as it was -/
theorem VX.now {v : V} {d : D} (h : VX K G H R Q) (s : Sub G H) (r : R d) (hl : isLD d = false) (rep : Rep K G v d) : Q v H := h v H G d r (.refl s) (.inr ⟨hl, rep⟩)
theorem VP.now {v : V} {d : D} (h : VP K G H R Q) (s : Sub G H) (r : R d) (rep : Rep K G v d) : Q v H := h v H G d r (.refl s) rep
/-- a new list -/
theorem VX.lst {p : Addr} {xs : List V} {ds : List D} (h : VX K G H R Q) (s : Sub G H) (r : R (.list ds)) (hp : H p = none) (rep : RepAll K G xs ds) : Q (.ref p) (upd H p (.lst xs)) :=
  h _ _ G _ r (Ext.laid s hp) (.inl ⟨rfl, p, rfl, hp, s.none hp, xs, upd_same, rep⟩)
theorem VX.tup {p : Addr} {xs : List V} {ds : List D} (h : VX K G H R Q) (s : Sub G H) (r : R (.tuple ds)) (hp : H p = none) (rep : RepAll K G xs ds) : Q (.ref p) (upd H p (.tup xs)) :=
  h _ _ (upd G p (.tup xs)) _ r (Ext.laidF s hp) (.inr ⟨rfl, .tup upd_same (rep.mono (Ext.laidF s hp).gg)⟩)
theorem VP.tup {p : Addr} {xs : List V} {ds : List D} (h : VP K G H R Q) (s : Sub G H) (r : R (.tuple ds)) (hp : H p = none) (rep : RepAll K G xs ds) : Q (.ref p) (upd H p (.tup xs)) := h.x.tup s r hp rep
theorem VP.lst {p : Addr} {xs : List V} {ds : List D} (h : VP K G H R Q) (s : Sub G H) (r : R (.list ds)) (hp : H p = none) (rep : RepAll K G xs ds) : Q (.ref p) (upd H p (.lst xs)) := h.x.lst s r hp rep
end

/-! ### list + list, tuple * int, list * int by any readable place -/
section
variable {X : Cx}
def rCatL (K : PySem.W.Frag) : R2 := fun x y H Q => ∃ l b xs zs, x = .ref l ∧ y = .ref b ∧ SqL K H l xs ∧ SqL K H b zs ∧ xs.length + zs.length ≤ sizeLine ∧ ∀ p, H p = none → Q (.ref p) (upd H p (.lst (xs ++ zs)))
theorem op_catL : OpR X (binaryOp .Add) (rCatL X.K) := by
  intro pins s σ H x y v u Q I rx ry h
  obtain ⟨l, b, xs, zs, rfl, rfl, hH, hB, hz, q⟩ := h
  cases rx
  cases ry
  obtain ⟨its, r, pl, _⟩ := I.list hH
  obtain ⟨its2, r2, pl2, _⟩ := I.list hB
  obtain ⟨⟨cls, dd, data, sl⟩, ho, hc, n, hd⟩ := id pl.isList
  obtain ⟨⟨cls2, dd2, data2, sl2⟩, ho2, hc2, n2, hd2⟩ := id pl2.isList
  simp only at hc hd hc2 hd2
  subst hc hd hc2 hd2
  have e : its.toArray ++ its2.toArray = (its ++ its2).toArray := by simp
  refine concat_meets ⟨_, ho, rfl⟩ ⟨_, ho2, rfl⟩ noFill_list_add seq_list_add PySem.F.slot_list_add PySem.F.entry_list_add (PySem.F.args_list_add_2 _ _) (list_addW l b its.toArray its2.toArray n n2 dd dd2 sl sl2 (by simp only [List.size_toArray]; rw [← r.length, ← r2.length]; exact hz)) ⟨ho, ho2, ?_⟩
  rw [e]
  exact ⟨.ref _, _, I.lnew (t' := s.toks) (r.append r2) (by rw [List.length_append]; omega), rfl, q _ I.fresh⟩
end
open PySem.AutoSeq1 (wpAny_loadPart')
theorem tuple_mul0 (l : Addr) (items : Array Value) (n : Nat) (dd : Option Addr) (sl : Array (Option Value)) (x : Int) (u : Tok) (c0 : (decide (x < -(2 ^ 63)) || decide (x ≥ 2 ^ 63)) = false) (c1 : (items.isEmpty || x == 1) = false) (c2 : (decide (x ≤ 0) || items.isEmpty) = true) :
    Meets (Builtin.«tuple.__mul__» ⟨[.ref l, .int x u], []⟩) (fun _ R s => s.heap.get? l = some { cls := .type "tuple", dict := dd, data := .seq items n, slots := sl } ∧
      R (.ok (.ret (Value.ref s.heap.objs.size))) { s with heap := s.heap.push { cls := Value.type "tuple", data := Data.seq #[] }, toks := s.toks }) :=
  .of_wp fun prog w A R s h => by
    obtain ⟨hp, g, d, tk, os⟩ := s
    obtain ⟨hl, h⟩ := h
    have f1 := AutoSeq1.idx_int
    wp_walk using wpAny_loadPart' hl
    repeat (first
      | (refine wpAny_ite_false (decide_eq_false (by rw [c0]; exact Bool.false_ne_true)) ?_; wp_walk using wpAny_loadPart' hl)
      | (refine wpAny_ite_false (decide_eq_false (by rw [c1]; exact Bool.false_ne_true)) ?_; wp_walk using wpAny_loadPart' hl)
      | (refine wpAny_ite_true (decide_eq_true c2) ?_; wp_walk using wpAny_loadPart' hl))
    exact ⟨_, rfl, h⟩
theorem tuple_mul1 (l : Addr) (items : Array Value) (n : Nat) (dd : Option Addr) (sl : Array (Option Value)) (x : Int) (u : Tok) (c0 : (decide (x < -(2 ^ 63)) || decide (x ≥ 2 ^ 63)) = false) (c1 : (items.isEmpty || x == 1) = true) :
    Meets (Builtin.«tuple.__mul__» ⟨[.ref l, .int x u], []⟩) (fun _ R s => s.heap.get? l = some { cls := .type "tuple", dict := dd, data := .seq items n, slots := sl } ∧
      R (.ok (.ret (Value.ref l))) s) :=
  .of_wp fun prog w A R s h => by
    obtain ⟨hp, g, d, tk, os⟩ := s
    obtain ⟨hl, h⟩ := h
    have f1 := AutoSeq1.idx_int
    wp_walk using wpAny_loadPart' hl
    repeat (first
      | (refine wpAny_ite_false (decide_eq_false (by rw [c0]; exact Bool.false_ne_true)) ?_; wp_walk using wpAny_loadPart' hl)
      | (refine wpAny_ite_true (decide_eq_true c1) ?_; wp_walk using wpAny_loadPart' hl))
    exact ⟨_, rfl, h⟩

theorem int_rmul_listG (a : Int) (t : Tok) (l : Addr) (items : Array Value) (n : Nat) (dd : Option Addr) (sl : Array (Option Value)) :
    Meets (Builtin.«int.__rmul__» ⟨[.int a t, .ref l], []⟩) (fun _ R s => s.heap.get? l = some { cls := .type "list", dict := dd, data := .seq items n, slots := sl } ∧ R (.ok (.ret Value.notImplemented)) s) :=
  .of_wp fun prog w A R s h => by obtain ⟨hp, g, d, tk, os⟩ := s; obtain ⟨hl, h⟩ := h; wp_walk using wpAny_loadPart' hl; exact ⟨_, rfl, h⟩
theorem list_mulG (l : Addr) (items : Array Value) (n : Nat) (dd : Option Addr) (sl : Array (Option Value)) (x : Int) (u : Tok) (hc0 : ¬(!Builtin.List.listFitsIndex x) = true) (hc1 : ¬items.size * x.toNat > (2 ^ 63 - 1) / 8) (hc2 : ¬Builtin.List.listTooLong (items.size * x.toNat) = true) :
    Meets (Builtin.«list.__mul__» ⟨[.ref l, .int x u], []⟩) (fun _ R s => s.heap.get? l = some { cls := .type "list", dict := dd, data := .seq items n, slots := sl } ∧ R (.ok (.ret (Value.ref s.heap.objs.size))) { s with heap := s.heap.push { cls := Value.type "list", data := Data.seq (List.foldl (fun x1 x2 => x1 ++ x2) #[] (List.replicate (if items.isEmpty = true then 0 else x.toNat) items)) }, toks := s.toks }) :=
  .of_wp fun prog w A R s h => by
    obtain ⟨hp, g, d, tk, os⟩ := s; obtain ⟨hl, h⟩ := h
    have hsz := PySem.AutoListH.joined_fits hc2
    have f1 := AutoSeq1.idx_int
    wp_walk using wpAny_loadPart' hl; refine wpAny_ite_false (decide_eq_false (Nat.not_lt.mpr hsz)) ?_; wp_walk using wpAny_loadPart' hl; exact ⟨_, rfl, h⟩
section
variable {X : Cx}
theorem flat0 {α : Type} (k : Nat) : (List.replicate k ([] : List α)).flatten = [] := by
  induction k with
  | zero => rfl
  | succ n ih => rw [List.replicate_succ, List.flatten_cons, ih]; rfl
/-- t * k, any small k -/
def rRepA (K : PySem.W.Frag) : R2 := fun x y H Q => ∃ l k xs, x = .ref l ∧ y = .int k ∧ SqT K H l xs ∧ -1000 ≤ k ∧ k ≤ 1000 ∧ xs.length ≤ 1000 ∧
  (∀ ys, ys = (List.replicate k.toNat xs).flatten → ys = xs → Q (.ref l) H) ∧ ∀ p, H p = none → Q (.ref p) (upd H p (.tup (List.replicate k.toNat xs).flatten))
theorem op_repA : OpR X (binaryOp .Mult) (rRepA X.K) := by
  intro pins s σ H x y v u Q I rx ry h
  obtain ⟨l, k, xs, rfl, rfl, hT, h1, h2, hz, q1, q2⟩ := h
  by_cases hbig : xs ≠ [] ∧ 2 ≤ k
  · exact op_repT pins s σ H _ _ v u Q I rx ry ⟨l, k, xs, rfl, rfl, hT, hbig.1, hbig.2, h2, hz, q2⟩
  cases rx
  obtain ⟨t, rfl⟩ := ry
  obtain ⟨its, r, ⟨⟨cls, dd, data, sl⟩, ho, hc, n, hd⟩, hs⟩ := I.tuple hT
  simp only at hc hd
  subst hc hd
  have hle : its.length = xs.length := r.length.symm
  have c0 : (decide (k < -(2 ^ 63)) || decide (k ≥ 2 ^ 63)) = false := by
    rw [decide_eq_false (by omega), decide_eq_false (by omega)] <;> rfl
  have road : ∀ {R : Value → Shared → Prop}, codeAny (model X.prog X.w) X.A (.call (.builtin "tuple.__mul__") ⟨[.ref l, .int k t], []⟩) (fun r s' => ∃ v, r = .ok (.ret v) ∧ R v s') s → True := fun _ => trivial
  by_cases hsame : (its.toArray.isEmpty || k == 1) = true
  · refine wpAny_binaryOp_repeat_ref (T := "tuple") (U := "int") (by decide) ⟨_, ho, rfl⟩ (fun s' => typeIs_int s' k t) noFill_tuple_mul F.fills_int_mul F.slot_int_rmul repeat_tuple F.slot_int_index.lookup
      (call_meets F.slot_int_rmul (typeIs_int s k t) F.entry_int_rmul (F.args_int_rmul_2 _ _) (int_rmul_tuple k t l its.toArray n dd sl)
        ⟨ho, rfl, ⟨_, ho, rfl⟩, call_meets F.slot_tuple_mul ⟨_, ho, rfl⟩ F.entry_tuple_mul (F.args_tuple_mul_2 _ _) (tuple_mul1 l its.toArray n dd sl k t c0 hsame) ⟨ho, ?_⟩⟩)
    refine ⟨.ref l, H, I, rfl, q1 _ rfl ?_⟩
    rw [Bool.or_eq_true] at hsame
    rcases hsame with e | e
    · have e1 : its = [] := by simpa using e
      have e2 : xs = [] := List.eq_nil_of_length_eq_zero (by rw [← hle, e1]; rfl)
      rw [e2, flat0]
    · have e1 : k = 1 := eq_of_beq e
      rw [e1]
      simp
  · have hsame' : (its.toArray.isEmpty || k == 1) = false := by simpa using hsame
    have e1 : its.toArray.isEmpty = false := (Bool.or_eq_false_iff.mp hsame').1
    have e2 : (k == 1) = false := (Bool.or_eq_false_iff.mp hsame').2
    have hne : xs ≠ [] := fun z => by
      rw [z] at hle
      have : its = [] := List.eq_nil_of_length_eq_zero hle
      rw [this] at e1
      simp at e1
    have hk : k ≤ 0 := by
      have n1 : k ≠ 1 := by simpa using e2
      by_cases h : 2 ≤ k
      · exact absurd ⟨hne, h⟩ hbig
      · omega
    have c2 : (decide (k ≤ 0) || its.toArray.isEmpty) = true := by rw [decide_eq_true hk]; rfl
    refine wpAny_binaryOp_repeat_ref (T := "tuple") (U := "int") (by decide) ⟨_, ho, rfl⟩ (fun s' => typeIs_int s' k t) noFill_tuple_mul F.fills_int_mul F.slot_int_rmul repeat_tuple F.slot_int_index.lookup
      (call_meets F.slot_int_rmul (typeIs_int s k t) F.entry_int_rmul (F.args_int_rmul_2 _ _) (int_rmul_tuple k t l its.toArray n dd sl)
        ⟨ho, rfl, ⟨_, ho, rfl⟩, call_meets F.slot_tuple_mul ⟨_, ho, rfl⟩ F.entry_tuple_mul (F.args_tuple_mul_2 _ _) (tuple_mul0 l its.toArray n dd sl k t c0 hsame' c2) ⟨ho, ?_⟩⟩)
    have hnil : (List.replicate k.toNat xs).flatten = [] := by
      have : k.toNat = 0 := by omega
      rw [this]; rfl
    rw [hnil] at q2
    refine ⟨.ref s.heap.objs.size, _, I.laid (t' := s.toks) (o := .tup []) (fun b ob q => Heap.get?_push_of_some _ q) (Nat.le_refl _) ?_, rfl, q2 _ (I.hok.fresh (Nat.le_refl _))⟩
    exact ⟨Nat.zero_le _, [], .nil, IsTup.new _ _⟩
/-- xs * k -/
def rRepL (K : PySem.W.Frag) : R2 := fun x y H Q => ∃ l k xs, x = .ref l ∧ y = .int k ∧ SqL K H l xs ∧ -1000 ≤ k ∧ k ≤ 1000 ∧ xs.length ≤ 1000 ∧
  ∀ p, H p = none → Q (.ref p) (upd H p (.lst (List.replicate k.toNat xs).flatten))
theorem op_repL : OpR X (binaryOp .Mult) (rRepL X.K) := by
  intro pins s σ H x y v u Q I rx ry h
  obtain ⟨l, k, xs, rfl, rfl, hH, h1, h2, hz, q⟩ := h
  cases rx
  obtain ⟨t, rfl⟩ := ry
  obtain ⟨its, r, pl, _⟩ := I.list hH
  have hl : its.length = xs.length := r.length.symm
  obtain ⟨⟨cls, dd, data, sl⟩, ho, hc, n, hd⟩ := id pl.isList
  simp only at hc hd
  subst hc hd
  have hm : xs.length * k.toNat ≤ 1000 * 1000 := Nat.mul_le_mul ‹xs.length ≤ 1000› (by omega)
  have hcap : ¬ its.toArray.size * k.toNat > (2 ^ 63 - 1) / 8 := by
    rw [List.size_toArray, hl]
    omega
  have hfit : ¬ (!Builtin.List.listFitsIndex k) = true := by
    rw [fitsIndex_both (by omega) (by omega)]
    exact Bool.false_ne_true
  have hlong : ¬ Builtin.List.listTooLong (its.toArray.size * k.toNat) = true := by
    rw [notLongL (by rw [List.size_toArray, hl, sizeLine_eq]; omega)]
    exact Bool.false_ne_true
  have hnew : List.foldl (fun x1 x2 => x1 ++ x2) #[] (List.replicate (if its.toArray.isEmpty = true then 0 else k.toNat) its.toArray) = (List.replicate k.toNat its).flatten.toArray := by
    have f0 : ∀ m : Nat, List.foldl (fun x1 x2 => x1 ++ x2) #[] (List.replicate m its.toArray) = (List.replicate m its).flatten.toArray := fun m => by
      have := foldl_rep its m []
      rw [List.nil_append] at this
      exact this
    rw [f0]
    cases its with
    | nil => simp
    | cons a r' => rw [if_neg (by simp)]
  refine wpAny_binaryOp_repeat_ref (T := "list") (U := "int") (by decide) ⟨_, ho, rfl⟩ (fun s' => typeIs_int s' k t) noFill_list_mul F.fills_int_mul F.slot_int_rmul repeat_list F.slot_int_index.lookup
    (call_meets F.slot_int_rmul (typeIs_int s k t) F.entry_int_rmul (F.args_int_rmul_2 _ _) (int_rmul_listG k t l its.toArray n dd sl)
      ⟨ho, rfl, ⟨_, ho, rfl⟩, call_meets F.slot_list_mul ⟨_, ho, rfl⟩ F.entry_list_mul (F.args_list_mul_2 _ _) (list_mulG l its.toArray n dd sl k t hfit hcap hlong) ⟨ho, ?_⟩⟩)
  rw [hnew]
  exact ⟨.ref _, _, I.lnew (t' := s.toks) (r.rep k.toNat) (by rw [PyProof.Rows.lm_len_rep_flat, Nat.mul_comm, sizeLine_eq]; omega), rfl, q _ I.fresh⟩
/-! ### the binary operators -/
def opc : BOp → Operator
  | .add => .Add | .sub => .Sub | .mul => .Mult | .fdiv => .FloorDiv | .mod => .Mod | .pow => .Pow
def rB (K : PySem.W.Frag) (op : BOp) : R2 := fun x y H Q => ∃ G d1 d2 R, Sub G H ∧ RdD K G H x d1 ∧ RdD K G H y d2 ∧ bopW op d1 d2 R ∧ VX K G H R Q
theorem cmul_ok {i j : Int} (h : (-(2 ^ 64) < i ∧ i < 2 ^ 64) ∨ (-(2 ^ 64) < j ∧ j < 2 ^ 64)) : CMul i j := h
theorem op_B (op : BOp) : OpR X (binaryOp (opc op)) (rB X.K op) := by
  intro pins s σ H x y v u Q I rx ry h
  obtain ⟨G, d1, d2, R, sb, r1, r2, hw, hv⟩ := h
  cases op with
  | add =>
    cases d1 with
    | int i =>
      cases d2 with
      | int j => exact op_add pins s σ H x y v u Q I rx ry ⟨i, j, r1.int, r2.int, hv.now sb hw rfl (.int _)⟩
      | _ => exact False.elim hw
    | tuple xs =>
      cases d2 with
      | tuple ys =>
        obtain ⟨hz, hw⟩ := hw
        obtain ⟨a, vs, rfl, h1, a1, g1⟩ := r1.tup sb
        obtain ⟨b, ws, rfl, h2, a2, g2⟩ := r2.tup sb
        refine op_catA pins s σ H _ _ v u Q I rx ry ⟨a, b, vs, ws, rfl, rfl, h1, h2, by rw [a1.length, a2.length, sizeLine_eq]; exact hz, fun e => ?_, fun _ e => ?_, fun _ _ p hp => hv.tup sb hw hp (a1.append a2)⟩
        · subst e
          cases a1
          exact hv.now sb hw rfl (.tup g2 a2)
        · subst e
          cases a2
          rw [List.append_nil] at hw
          exact hv.now sb hw rfl (.tup g1 a1)
      | _ => exact False.elim hw
    | list xs =>
      cases d2 with
      | list ys =>
        obtain ⟨hz, hw⟩ := hw
        obtain ⟨a, vs, rfl, h1, a1⟩ := r1.lst sb
        obtain ⟨b, ws, rfl, h2, a2⟩ := r2.lst sb
        exact op_catL pins s σ H _ _ v u Q I rx ry ⟨a, b, vs, ws, rfl, rfl, h1, h2, by rw [a1.length, a2.length, sizeLine_eq]; exact hz, fun p hp => hv.lst sb hw hp (a1.append a2)⟩
      | _ => exact False.elim hw
    | _ => exact False.elim hw
  | sub =>
    cases d1 with
    | int i =>
      cases d2 with
      | int j => exact op_sub pins s σ H x y v u Q I rx ry ⟨i, j, r1.int, r2.int, hv.now sb hw rfl (.int _)⟩
      | _ => exact False.elim hw
    | _ => exact False.elim hw
  | mul =>
    cases d1 with
    | int i =>
      cases d2 with
      | int j => exact op_mul pins s σ H x y v u Q I rx ry ⟨i, j, r1.int, r2.int, hw.1, hv.now sb hw.2 rfl (.int _)⟩
      | _ => exact False.elim hw
    | tuple xs =>
      cases d2 with
      | int k =>
        obtain ⟨⟨k1, k2, k3⟩, hw⟩ := hw
        obtain ⟨a, vs, rfl, h1, a1, g1⟩ := r1.tup sb
        refine op_repA pins s σ H _ _ v u Q I rx ry ⟨a, k, vs, rfl, r2.int, h1, k1, k2, by rw [a1.length]; exact k3, fun ys e1 e2 => ?_, fun p hp => hv.tup sb hw hp (a1.rep _)⟩
        have a2 := a1.rep k.toNat
        rw [← e1, e2] at a2
        exact hv.now sb hw rfl (.tup g1 a2)
      | _ => exact False.elim hw
    | list xs =>
      cases d2 with
      | int k =>
        obtain ⟨⟨k1, k2, k3⟩, hw⟩ := hw
        obtain ⟨a, vs, rfl, h1, a1⟩ := r1.lst sb
        exact op_repL pins s σ H _ _ v u Q I rx ry ⟨a, k, vs, rfl, r2.int, h1, k1, k2, by rw [a1.length]; exact k3, fun p hp => hv.lst sb hw hp (a1.rep _)⟩
      | _ => exact False.elim hw
    | _ => exact False.elim hw
  | fdiv =>
    cases d1 with
    | int i =>
      cases d2 with
      | int j => exact op_fdiv pins s σ H x y v u Q I rx ry ⟨i, j, r1.int, r2.int, hw.1, hv.now sb hw.2 rfl (.int _)⟩
      | _ => exact False.elim hw
    | _ => exact False.elim hw
  | mod =>
    cases d1 with
    | int i =>
      cases d2 with
      | int j => exact op_mod pins s σ H x y v u Q I rx ry ⟨i, j, r1.int, r2.int, hw.1, hv.now sb hw.2 rfl (.int _)⟩
      | _ => exact False.elim hw
    | _ => exact False.elim hw
  | pow =>
    cases d1 with
    | int i =>
      cases d2 with
      | int j => exact op_pow pins s σ H x y v u Q I rx ry ⟨i, j, r1.int, r2.int, ⟨hw.1.1, by have := hw.1.2.1; omega, hw.1.2.2⟩, hv.now sb hw.2 rfl (.int _)⟩
      | _ => exact False.elim hw
    | _ => exact False.elim hw
end
end Z

namespace Z
open PySem PySem.Spec PyProof.Rows L2
/-! ### slices -/
def rSlD (K : PySem.W.Frag) : V → Option Int → Option Int → Hp → VK → Prop := fun x lo hi H Q => ∃ G d R, Sub G H ∧ RdD K G H x d ∧ slcW d lo hi R ∧ VX K G H R Q
section
variable {X : Cx}
theorem sIx_eq (n d : Nat) (o : Option Int) : HT.sIx n d o = Z.sIx n d o := by cases o <;> rfl
theorem sl_D : SlR X (rSlD X.K) := by
  intro pins s σ H x v vl vu lo hi sl Q I rx hs pl pu h
  obtain ⟨G, d, R, sb, r, hw, hv⟩ := h
  cases d with
  | list ds =>
    obtain ⟨a, xs, rfl, h1, a1⟩ := r.lst sb
    exact sl_list pins s σ H _ v vl vu lo hi sl Q I rx hs pl pu ⟨a, xs, rfl, h1, fun p hp => hv.lst sb hw hp (a1.cut lo hi)⟩
  | tuple ds =>
    obtain ⟨a, xs, rfl, h1, a1, g1⟩ := r.tup sb
    refine sl_tupA pins s σ H _ v vl vu lo hi sl Q I rx hs pl pu ⟨a, xs, rfl, h1, fun e => ?_, fun _ p hp => hv.tup sb hw hp (a1.cut lo hi)⟩
    have ec : cut ds lo hi = ds := by
      unfold Z.cut
      rw [← sIx_eq, ← sIx_eq, ← a1.length, e.1, e.2, List.drop_zero, Nat.sub_zero, a1.length, List.take_length]
    have hw' : R (.tuple (cut ds lo hi)) := hw
    rw [ec] at hw'
    exact hv.now sb hw' rfl (.tup g1 a1)
  | _ => exact False.elim hw

/-! ### t[::-1] of a tuple -/
theorem pick_rev (xs : Array Value) : ((List.range xs.size).filterMap fun (k : Nat) => xs[((xs.size : Int) - 1 + (k : Int) * (-1)).toNat]?).toArray = xs.toList.reverse.toArray := by
  have h := PySem.W.krv_pick xs
  rw [← h]
  unfold slicePick
  rw [PySem.W.krv_bounds]
  show _ = ((sliceRange ((xs.size : Int) - 1) (-1) (-1)).filterMap (xs[·]?)).toArray
  rw [PySem.W.krv_sliceRange, List.filterMap_map]
  congr 2
  funext k
  have e1 : ((xs.size : Int) - 1 + (k : Int) * (-1)).toNat = xs.size - 1 - k := by omega
  rw [e1]
  rfl
theorem sliceApplied_rev {prog : Program} {w : World} {A : Around} {E : Value → Shared → Prop} {s : Shared} {sl : Addr} {n : Nat} {tk : Tok} {Q : Int × Int × Nat → Shared → Prop} (hs : s.heap.IsSliceOf sl .none .none (.int (-1) tk))
    (h : Q ((n : Int) - 1, -1, n) s) : wpAny (model prog w) A (Builtin.Slice.sliceApplied (.ref sl) (pure (n : Int))) Q E s := by
  obtain ⟨os, hos, hcs, hds⟩ := id hs
  unfold Builtin.Slice.sliceApplied Builtin.Slice.sliceFields
  refine wpAny_bind (wpAny_bind (wpAny_field hos hds (x := .none) rfl (wpAny_bind (wpAny_field hos hds (x := .none) rfl (wpAny_bind (wpAny_field hos hds (x := .int (-1) tk) rfl (wpAny_pure ?_)))))))
  refine wpAny_bind (slicePart_int ?_)
  show wpAny _ _ (if ((-1 : Int) == 0) = true then _ else _) _ _ s
  rw [if_neg (by decide)]
  refine wpAny_bind (slicePart_none (wpAny_bind (slicePart_none (wpAny_bind (wpAny_pure ?_)))))
  show wpAny _ _ (pure ((n : Int) - 1, (-1 : Int), Builtin.Slice.slicePlaces ((n : Int) - 1) (-1) (-1))) _ _ s
  have e : Builtin.Slice.slicePlaces ((n : Int) - 1) (-1) (-1) = n := by
    unfold Builtin.Slice.slicePlaces
    rw [if_neg (by decide)]
    by_cases h : (n : Int) - 1 > -1
    · rw [if_pos h, show (- -1 : Int) = 1 by decide, Int.ediv_one]
      omega
    · rw [if_neg h]
      omega
  rw [e]
  exact wpAny_pure h
theorem getItem_tuple_rev {prog : Program} {w : World} {A : Around} {E : Value → Shared → Prop} {s : Shared} {t sl : Addr} {items : Array Value} {tk : Tok} {Q : Value → Shared → Prop} (ht : IsTup s.heap t items) (hs : s.heap.IsSliceOf sl .none .none (.int (-1) tk))
    (h : Q (.ref s.heap.objs.size) { s with heap := s.heap.push { cls := .type "tuple", data := .seq items.toList.reverse.toArray } }) (hsz : items.size ≤ sizeLine) : wpAny (model prog w) A (getItem (.ref t) (.ref sl)) Q E s := by
  obtain ⟨os, hos, hcs, hds⟩ := id hs
  have hTs : s.TypeIs (.ref sl) "slice" := ⟨os, hos, hcs⟩
  unfold getItem
  try with_reducible refine wpAny_holding ?_
  first | refine wpAny_bind (wpAny_pure ?_) | skip
  refine wpAny_bind (wpAny_sequenceKey ht.typeIs (by decide) ?_)
  refine wpAny_bind (wpAny_callSpecial?_slot (name := Str.ofString "__getitem__") ht.typeIs PyProof.Rows.slot_tuple_getitem
    (wpAny_call_entry PyProof.Rows.slot_tuple_getitem ht.typeIs entry_tuple_getitem ?_ (args_tuple_getitem _ _)))
  show wpAny _ _ (Builtin.Tuple.tupleItemsOf (.ref t) >>= _) _ _ s
  refine wpAny_bind (tupleItemsOf_ ht ?_)
  refine wpAny_bind (wpAny_typeOf hTs ?_)
  rw [if_pos (by decide)]
  refine wpAny_bind (sliceApplied_rev hs ?_)
  have hno : ¬ ((((items.size : Nat) : Int) - 1 == 0 && (-1 : Int) == 1 && items.size == items.size) = true) := by
    intro q
    rw [Bool.and_eq_true, Bool.and_eq_true] at q
    exact absurd (eq_of_beq q.1.2) (by decide)
  show wpAny _ _ (if (((items.size : Nat) : Int) - 1 == 0 && (-1 : Int) == 1 && items.size == items.size) = true then _ else _) _ _ s
  rw [if_neg hno, pick_rev]
  have htake : sizeOk (.seq items.toList.reverse.toArray) := by
    show items.toList.reverse.toArray.size ≤ sizeLine
    rw [List.size_toArray, List.length_reverse, Array.length_toList]
    exact hsz
  first
    | exact wpAny_bind (m := Builtin.Tuple.tupleExact _) (wpAny_newObj_type (wpAny_pure ⟨_, rfl, wpAny_pure h⟩) htake)
    | exact wpAny_bind (m := Builtin.Tuple.tupleExact _) (wpAny_newObj_type (wpAny_bind (wpAny_pure (wpAny_pure ⟨_, rfl, wpAny_pure h⟩))) htake)
    | exact wpAny_bind (wpAny_bind (m := Builtin.Tuple.tupleExact _) (wpAny_newObj_type (wpAny_pure (wpAny_pure ⟨_, rfl, wpAny_pure h⟩)) htake))
    | exact wpAny_bind (wpAny_bind (m := Builtin.Tuple.tupleExact _) (wpAny_newObj_type (wpAny_pure ⟨_, rfl, wpAny_pure h⟩) htake))
/-- x[::-1] of a list or a tuple -/
def tRevD (K : PySem.W.Frag) (te : TE) : TE := fun σ H Q => te σ H fun x H1 => ∃ G d R, Sub G H1 ∧ RdD K G H1 x d ∧ revW d R ∧ VX K G H1 R Q
theorem pe_revD {e : Expr} {te : TE} {k : Nat} {p1 p2 p3 pos : Pos} (he : PE X e te) : PE X (.Subscript e (.Slice none none (some (.UnaryOp .USub (.Constant (.int 1) k p1) p2)) p3) pos) (tRevD X.K te) := by
  refine ⟨fun pins s σ H Q I h => ?_⟩
  refine Subscript_ (thn (he.run pins s σ H _ I h) fun v s1 ⟨x, H1, I1, r1, q1⟩ => ?_)
  obtain ⟨G, d, R, sb, r, hw, hv⟩ := q1
  have hst : PO X (some (.UnaryOp .USub (.Constant (.int 1) k p1) p2)) (tPart (tUn (rU fun i => .int (-i)) (tC (.int 1)))) := po_some (pe_un un_neg pe_int)
  refine wpAny_Slice (thn (po_none.run pins s1 σ H1 (fun o H2 => o = none ∧ H2 = H1) I1 ⟨rfl, rfl⟩) fun vl s2 ⟨l, H2, I2, pl, el, e2⟩ => ?_)
  subst el e2
  refine thn (po_none.run pins s2 σ H2 (fun o H3 => o = none ∧ H3 = H2) I2 ⟨rfl, rfl⟩) fun vu s3 ⟨u, H3, I3, pu, eu, e3⟩ => ?_
  subst eu e3
  refine thn (hst.run pins s3 σ H3 (fun o H4 => o = some (-1) ∧ H4 = H3) I3 ⟨1, rfl, -1, rfl, rfl, rfl⟩) fun vs s4 ⟨o, H4, I4, ps, eo, e4⟩ => ?_
  subst eo e4
  have I5 : Inv X pins σ H4 { s4 with heap := s4.heap.push { cls := .type "slice", data := .fields #[vl, vu, vs] } } := I4.kept (t' := s4.toks) fun b ob q => Heap.get?_push_of_some _ q
  cases d with
  | list ds =>
    obtain ⟨a, xs, rfl, hx, a1⟩ := r.lst sb
    cases r1
    obtain ⟨its, rr, ht, hz⟩ := I5.list hx
    have hlen := rr.length
    show wpAny (model X.prog X.w) X.A (subscriptTail e (.Slice none none (some (.UnaryOp .USub (.Constant (.int 1) k p1) p2)) p3) (.ref a) (.ref s4.heap.objs.size)) (EP X pins σ Q) X.xe { s4 with heap := s4.heap.push { cls := .type "slice", data := .fields #[vl, vu, vs] } }
    refine tail_any (ops := [.ref a, .ref s4.heap.objs.size]) ht.isList.typeIs (PySem.slot_list_getitem.lookup) ?_ (by with_unfolding_all rfl)
    refine wpAny_getItem_list_slice ht.isList (Heap.IsSliceOf.new _ vl vu vs) pl pu ps (by decide) ?_ (by rw [List.size_toArray]; omega)
    rw [PySem.W.krv_pick]
    refine ⟨.ref _, _, I5.laid (t' := s4.toks) (o := .lst xs.reverse) (fun b ob q => Heap.get?_push_of_some _ q) (Nat.le_refl _) ?_, rfl, hv.lst sb hw (I5.hok.fresh (Nat.le_refl _)) a1.reverse⟩
    exact ⟨by rw [List.length_reverse]; exact hz, _, 0, rr.reverse, Heap.get?_push_size _ rfl⟩
  | tuple ds =>
    obtain ⟨a, xs, rfl, hx, a1, g1⟩ := r.tup sb
    cases r1
    cases pl
    cases pu
    obtain ⟨its, rr, ht, hz⟩ := I5.tuple hx
    have hlen := rr.length
    cases ps with
    | int _ tk =>
    show wpAny (model X.prog X.w) X.A (subscriptTail e (.Slice none none (some (.UnaryOp .USub (.Constant (.int 1) k p1) p2)) p3) (.ref a) (.ref s4.heap.objs.size)) (EP X pins σ Q) X.xe { s4 with heap := s4.heap.push { cls := .type "slice", data := .fields #[Value.none, Value.none, .int (-1) tk] } }
    refine tail_any (ops := [.ref a, .ref s4.heap.objs.size]) ht.typeIs (PyProof.Rows.slot_tuple_getitem.lookup) ?_ (by with_unfolding_all rfl)
    refine getItem_tuple_rev ht (Heap.IsSliceOf.new ..) ?_ (by rw [List.size_toArray]; omega)
    refine ⟨.ref _, _, I5.laid (t' := s4.toks) (o := .tup xs.reverse) (fun b ob q => Heap.get?_push_of_some _ q) (Nat.le_refl _) ?_, rfl, hv.tup sb hw (I5.hok.fresh (Nat.le_refl _)) a1.reverse⟩
    exact ⟨by rw [List.length_reverse]; exact hz, its.reverse, rr.reverse, ⟨_, Heap.get?_push_size _ rfl, rfl, 0, rfl⟩⟩
  | _ => exact False.elim hw
end
end Z

namespace Z
open PySem PySem.Spec PyProof.Rows L2
/-! ### equality of data -/
section
variable {K : PySem.W.Frag} {G H : Hp}
mutual
theorem Rep.dp (s : Sub G H) : ∀ {d : D} {v : V}, Rep K G v d → d.canLay0 = true → Dp K H v d
  | _, _, .non, _ => .non
  | _, _, .bl b, _ => .bl b
  | _, _, .int i, _ => .int i
  | _, _, .str x, _ => .str x
  | _, _, .lst h r, c => .lst (s.seq h) (RepAll.dp s r (by simpa [PyData.canLay0] using c))
  | _, _, .tup h r, c => .tup (SqT.of (s.tp h)) (RepAll.dp s r (by simpa [PyData.canLay0] using c))
  | _, _, .dic _ _, c => by simp [PyData.canLay0] at c
theorem RepAll.dp (s : Sub G H) : ∀ {d : List D} {v : List V}, RepAll K G v d → PyData.canLayAll0 d = true → DpAll K H v d
  | _, _, .nil, _ => .nil
  | _, _, .cons h r, c => by
    simp only [PyData.canLayAll0, Bool.and_eq_true] at c
    exact .cons (Rep.dp s h c.1) (RepAll.dp s r c.2)
end
theorem RdD.dp (s : Sub G H) {v : V} {d : D} (r : RdD K G H v d) (c : d.canLay0 = true) : Dp K H v d := by
  rcases r with r | ⟨a, rfl, o⟩
  · exact r.dp s c
  · cases d with
    | list ds =>
      obtain ⟨xs, h, r⟩ := o
      exact .lst (SqL.of h) (r.dp s (by simpa [PyData.canLay0] using c))
    | dict dk => simp [PyData.canLay0] at c
    | _ => exact o.elim
theorem Shp.sh {d : D} (h : Shp d) : SeqAt.shaped d = true := by
  unfold SeqAt.shaped
  rw [h.1, Bool.true_and]
  exact decide_eq_true h.2
/-! ### keys -/
theorem eqv_kD (a b : Key) : PyData.eqv (kD a) (kD b) = decide (a = b) := by
  cases a with
  | inl i =>
    cases b with
    | inl j => simp only [kD, PyData.eqv, Sum.inl.injEq]; rfl
    | inr y => simp [kD, PyData.eqv]
  | inr x =>
    cases b with
    | inl j => simp [kD, PyData.eqv]
    | inr y =>
      simp only [kD, PyData.eqv, Sum.inr.injEq]
      by_cases h : x = y
      · subst h; simp
      · rw [decide_eq_false h]; simpa using h
theorem eqvAll_kD : ∀ a b : List Key, PyData.eqvAll (a.map kD) (b.map kD) = decide (a = b)
  | [], [] => by simp [PyData.eqvAll]
  | [], _ :: _ => by simp [PyData.eqvAll]
  | _ :: _, [] => by simp [PyData.eqvAll]
  | x :: a, y :: b => by
    rw [List.map_cons, List.map_cons, PyData.eqvAll, eqv_kD, eqvAll_kD a b]
    by_cases h1 : x = y <;> by_cases h2 : a = b <;> simp [h1, h2]
theorem eqv_key (a b : List Key) : PyData.eqv (keyD a) (keyD b) = decide (a = b) := by
  unfold keyD
  rw [PyData.eqv]
  exact eqvAll_kD a b
theorem RepAll.keys : ∀ {ds : List D} {xs : List V}, RepAll K G xs ds → ds.all keyAtom = true → ∃ k : List Key, xs = k.map kV ∧ ds = k.map kD
  | _, _, .nil, _ => ⟨[], rfl, rfl⟩
  | _, _, .cons h r, c => by
    rw [List.all_cons, Bool.and_eq_true] at c
    obtain ⟨k, e1, e2⟩ := RepAll.keys r c.2
    cases h with
    | int i => exact ⟨.inl i :: k, by rw [e1]; rfl, by rw [e2]; rfl⟩
    | str x => exact ⟨.inr x :: k, by rw [e1]; rfl, by rw [e2]; rfl⟩
    | _ => exact absurd c.1 (by simp [keyAtom])
theorem RdD.key (s : Sub G H) {v : V} {d : D} (r : RdD K G H v d) (c : isKey d = true) : ∃ (b : Addr) (k : List Key), v = .ref b ∧ G b = some (.tup (k.map kV)) ∧ H b = some (.tup (k.map kV)) ∧ d = keyD k := by
  cases d with
  | tuple ds =>
    obtain ⟨a, xs, rfl, h, r, g⟩ := r.tup s
    obtain ⟨k, e1, e2⟩ := r.keys c
    subst e1 e2
    exact ⟨a, k, rfl, g, s.tp g, rfl⟩
  | _ => exact absurd c (by simp [isKey])
theorem RepKV.get : ∀ {kvs : List (List Key × V)} {dk : List (D × D)}, RepKV K G kvs dk → ∀ k, (∃ v d, valV kvs k = some v ∧ dGet dk (keyD k) = some d ∧ Rep K G v d) ∨ (valV kvs k = none ∧ dGet dk (keyD k) = none)
  | _, _, .nil, k => .inr ⟨rfl, rfl⟩
  | _, _, @RepKV.cons _ _ k' v kvs d dk h r, k => by
    by_cases e : k' = k
    · refine .inl ⟨v, d, valV_pos e, ?_, h⟩
      unfold dGet
      rw [List.find?_cons, eqv_key, decide_eq_true e]
      rfl
    · have e1 : valV ((k', v) :: kvs) k = valV kvs k := valV_neg e
      have e2 : dGet ((keyD k', d) :: dk) (keyD k) = dGet dk (keyD k) := by
        unfold dGet
        rw [List.find?_cons, eqv_key, decide_eq_false e]
      rw [e1, e2]
      exact r.get k
theorem RepKV.any : ∀ {kvs : List (List Key × V)} {dk : List (D × D)}, RepKV K G kvs dk → ∀ k, dHas dk (keyD k) = kvs.any fun kv => decide (kv.1 = k)
  | _, _, .nil, k => rfl
  | _, _, @RepKV.cons _ _ k' v kvs d dk h r, k => by
    unfold dHas
    rw [List.any_cons, List.any_cons, eqv_key]
    have := r.any k
    unfold dHas at this
    rw [this]
theorem RepKV.has {kvs : List (List Key × V)} {dk : List (D × D)} (r : RepKV K G kvs dk) (k : List Key) : dHas dk (keyD k) = (valV kvs k).isSome := by
  rw [r.any, valV_any]
theorem RepKV.append : ∀ {kvs kvs' : List (List Key × V)} {dk dk' : List (D × D)}, RepKV K G kvs dk → RepKV K G kvs' dk' → RepKV K G (kvs ++ kvs') (dk ++ dk')
  | _, _, _, _, .nil, s => s
  | _, _, _, _, .cons h r, s => .cons h (r.append s)
theorem RepKV.repl {x : V} {y : D} (hx : Rep K G x y) (k : List Key) : ∀ {kvs : List (List Key × V)} {dk : List (D × D)}, RepKV K G kvs dk →
    RepKV K G (kvs.map fun kv => if kv.1 = k then (kv.1, x) else kv) (dk.map fun p => if PyData.eqv p.1 (keyD k) = true then (p.1, y) else p)
  | _, _, .nil => .nil
  | _, _, @RepKV.cons _ _ k' v kvs d dk h r => by
    rw [List.map_cons, List.map_cons]
    have ih := RepKV.repl hx k r
    by_cases e : k' = k
    · have e1 : PyData.eqv (keyD k') (keyD k) = true := by rw [eqv_key, decide_eq_true e]
      simp only [e1, if_true, if_pos e]
      exact .cons hx ih
    · have e1 : PyData.eqv (keyD k') (keyD k) = false := by rw [eqv_key, decide_eq_false e]
      simp only [e1, if_neg e, Bool.false_eq_true, if_false]
      exact .cons h ih
theorem RepKV.put {x : V} {y : D} (hx : Rep K G x y) (k : List Key) {kvs : List (List Key × V)} {dk : List (D × D)} (r : RepKV K G kvs dk) : RepKV K G (putK kvs k x) (dPut dk (keyD k) y) := by
  unfold putK dPut
  rw [r.any k]
  by_cases h : (kvs.any fun kv => decide (kv.1 = k)) = true
  · rw [if_pos h, if_pos h]
    exact r.repl hx k
  · rw [if_neg h, if_neg h]
    exact r.append (.cons hx .nil)
end
/-! ### comparisons -/
def cpc : COp → CmpOp
  | .eq => .Eq | .ne => .NotEq | .lt => .Lt | .le => .LtE | .gt => .Gt | .ge => .GtE | .is => .Is | .isn => .IsNot | .inn => .In | .nin => .NotIn
def rC (K : PySem.W.Frag) (op : COp) : R2 := fun x y H Q => ∃ G d1 d2 R, Sub G H ∧ RdD K G H x d1 ∧ RdD K G H y d2 ∧ copW op d1 d2 R ∧ ∀ c, R c → Q (.bl c) H
section
variable {X : Cx}
theorem samePairs0 {prog : Program} {w : World} {A : Around} {E : Value → Shared → Prop} {s : Shared} {nm : String} {a b : Addr} {oa ob : Obj} {es : Array DictEntry} {ep ep' : Nat} {Q : Bool → Shared → Prop} (ha : (a == sysModules) = false) (hb : (b == sysModules) = false)
    (hoa : s.heap.get? a = some oa) (hda : oa.data = .dict es ep) (hob : s.heap.get? b = some ob) (hdb : ob.data = .dict #[] ep') (h : Q es.isEmpty s) : wpAny (model prog w) A (Builtin.Dict.samePairs nm a b) Q E s := by
  unfold Builtin.Dict.samePairs Builtin.Dict.showsAll
  rw [if_neg (show ¬ (a == sysModules) = true by rw [ha]; exact Bool.false_ne_true), if_neg (show ¬ (b == sysModules) = true by rw [hb]; exact Bool.false_ne_true)]
  refine wpAny_bind (wpAny_pure (wpAny_bind (wpAny_pure ?_)))
  refine wpAny_bind (wpAny_dictEntries hoa hda ?_)
  dsimp only
  refine wpAny_bind (wpAny_dictEntries hob hdb ?_)
  by_cases hsz : es.size = 0
  case neg =>
    rw [if_pos (by simpa using hsz)]
    have hbf : es.isEmpty = false := by
      rw [Array.isEmpty]
      simpa using hsz
    rw [hbf] at h
    exact wpAny_bind (wpAny_rule (wpAny_pure h))
  case pos =>
    have he : es = #[] := Array.eq_empty_of_size_eq_zero hsz
    subst he
    rw [if_neg (by simp)]
    refine wpAny_bind (wpAny_dictEpoch hoa hda ?_)
    refine wpAny_bind ?_
    rw [Std.Legacy.Range.forIn_eq_forIn_range']
    exact wpAny_pure (wpAny_pure h)
theorem dictEq_empty (ne : Bool) (hu : X.A.units + 65 < cLine) {pins : List (Addr × Obj)} {s : Shared} {σ : L2.St} {H : Hp} {a b : Addr} {kvs : List (List Key × V)} {Q : Value → Shared → Prop} {E : Value → Shared → Prop} (I : Inv X pins σ H s)
    (ha : Rd H a (.dT kvs)) (hb : Rd H b (.dT [])) (h : Q (.bool (if ne then !kvs.isEmpty else kvs.isEmpty)) s) : wpAny (model X.prog X.w) X.A (compareOp (if ne then .NotEq else .Eq) (.ref a) (.ref b)) Q E s := by
  have hx := I.hok
  obtain ⟨_, sa, xs, p1, o1, es, ep, e1, x1, d1, t1, _⟩ := ha.ok hx
  obtain ⟨_, sb, ys, p2, o2, es2, ep2, e2, x2, d2, t2, _⟩ := hb.ok hx
  cases p2
  have es2e : es2 = #[] := by
    have : es2.toList = [] := t2
    simpa using this
  subst es2e
  have ee : es.isEmpty = kvs.isEmpty := by
    have : es.toList.isEmpty = kvs.isEmpty := by
      rw [t1]
      cases p1 <;> rfl
    rw [← this]
    simp
  have ta : s.TypeIs (.ref a) "dict" := ⟨o1, e1, x1.1⟩
  have tb : s.TypeIs (.ref b) "dict" := ⟨o2, e2, x2.1⟩
  cases ne with
  | false =>
    show wpAny _ _ (richCompare .Eq (.ref a) (.ref b)) Q E s
    refine wpAny_richCompare_same_room (op := .Eq) ta tb PySem.F.slot_dict_eq (wpAny_call_entry PySem.F.slot_dict_eq ta PySem.F.entry_dict_eq ?_ (PySem.F.args_dict_eq_2 _ _)) (by omega)
    show wpAny _ _ (Builtin.Dict.dictSlotArgs "__eq__" ⟨[.ref a, .ref b], []⟩ >>= _) _ _ s
    refine wpAny_bind ?_
    unfold Builtin.Dict.dictSlotArgs
    refine wpAny_bind (wpAny_notOrdered_dict ta ?_)
    show wpAny _ _ (pure (Value.ref a, Value.ref b)) _ _ s
    refine wpAny_pure ?_
    refine wpAny_bind (wpAny_isInstance (T := "dict") tb PySem.F.sub_dict_dict ?_)
    simp only [Bool.not_true, Bool.false_eq_true, if_false]
    refine wpAny_bind (wpAny_pure (wpAny_bind (wpAny_pure ?_)))
    refine wpAny_bind (samePairs0 sa sb e1 d1 e2 d2 ?_)
    refine wpAny_pure ⟨_, rfl, ?_, ?_⟩
    · exact fun x => nomatch x
    · rw [ee]; simpa using h
  | true =>
    show wpAny _ _ (richCompare .NotEq (.ref a) (.ref b)) Q E s
    refine wpAny_richCompare_same_room (op := .NotEq) ta tb PySem.F.slot_dict_ne (wpAny_call_entry PySem.F.slot_dict_ne ta PySem.F.entry_dict_ne ?_ (PySem.F.args_dict_ne_2 _ _)) (by omega)
    show wpAny _ _ (Builtin.Dict.dictSlotArgs "__ne__" ⟨[.ref a, .ref b], []⟩ >>= _) _ _ s
    refine wpAny_bind ?_
    unfold Builtin.Dict.dictSlotArgs
    refine wpAny_bind (wpAny_notOrdered_dict ta ?_)
    show wpAny _ _ (pure (Value.ref a, Value.ref b)) _ _ s
    refine wpAny_pure ?_
    refine wpAny_bind (wpAny_isInstance (T := "dict") tb PySem.F.sub_dict_dict ?_)
    simp only [Bool.not_true, Bool.false_eq_true, if_false]
    refine wpAny_bind (wpAny_pure (wpAny_bind (wpAny_pure ?_)))
    refine wpAny_bind (samePairs0 sa sb e1 d1 e2 d2 ?_)
    refine wpAny_pure ⟨_, rfl, ?_, ?_⟩
    · exact fun x => nomatch x
    · rw [ee]; simpa using h
theorem op_inT (hu : X.A.units + 65 < cLine) (neg : Bool) : OpR X (compareOp (if neg then .NotIn else .In)) (fun x y H Q => ∃ d ds, Dp X.K H x d ∧ Dp X.K H y (.tuple ds) ∧ SeqAt.shaped d = true ∧ SeqAt.shaped (.tuple ds) = true ∧ Q (.bl (if neg then !(ds.any fun z => PyData.eqv z d) else ds.any fun z => PyData.eqv z d)) H) := by
  intro pins s σ H x y v u Q I rx ry h
  obtain ⟨d, ds, hd, he, sd, se, q⟩ := h
  obtain ⟨as, r1⟩ := Dp.reads I d x v hd rx
  obtain ⟨bs, r2⟩ := Dp.reads I (.tuple ds) y u he ry
  cases neg with
  | false => exact SeqAt.in_tuple_reads r2 r1 (SeqAt.canLay_of_shaped se) (SeqAt.canLay_of_shaped sd) (room_in_shaped sd hu) ⟨.bl _, H, I, rfl, q⟩
  | true => exact SeqAt.notIn_tuple_reads r2 r1 (SeqAt.canLay_of_shaped se) (SeqAt.canLay_of_shaped sd) (room_in_shaped sd hu) ⟨.bl _, H, I, rfl, q⟩
theorem op_C (hu : X.A.units + 65 < cLine) (op : COp) : OpR X (compareOp (cpc op)) (rC X.K op) := by
  intro pins s σ H x y v u Q I rx ry h
  obtain ⟨G, d1, d2, R, sb, r1, r2, hw, hv⟩ := h
  have eqCase : ∀ (ne : Bool) (R' : Bool → Prop), eqW d1 d2 R' → (∀ c, R' c → Q (.bl (if ne then !c else c)) H) → wpAny (model X.prog X.w) X.A (compareOp (if ne then .NotEq else .Eq) v u) (EP X pins σ Q) X.xe s := by
    intro ne R' hw hv
    have gen : (Shp d1 ∧ Shp d2) ∧ R' (PyData.eqv d1 d2) → wpAny (model X.prog X.w) X.A (compareOp (if ne then .NotEq else .Eq) v u) (EP X pins σ Q) X.xe s := fun hw => by
      cases ne with
      | false => exact op_eqD (by omega) pins s σ H x y v u Q I rx ry ⟨d1, d2, r1.dp sb hw.1.1.1, r2.dp sb hw.1.2.1, hw.1.1.sh, hw.1.2.sh, hv _ hw.2⟩
      | true => exact op_neD (by omega) pins s σ H x y v u Q I rx ry ⟨d1, d2, r1.dp sb hw.1.1.1, r2.dp sb hw.1.2.1, hw.1.1.sh, hw.1.2.sh, hv _ hw.2⟩
    cases d1 with
    | dict kvs =>
      cases d2 with
      | dict kvs' =>
        cases kvs' with
        | nil =>
          obtain ⟨a, ka, rfl, ha, ra⟩ := r1.dic sb
          obtain ⟨b, kb, rfl, hb, rb⟩ := r2.dic sb
          cases rb
          cases rx
          cases ry
          refine dictEq_empty ne hu I ha hb ⟨.bl _, H, I, rfl, ?_⟩
          have e : ka.isEmpty = kvs.isEmpty := by cases ra <;> rfl
          rw [e]
          exact hv _ hw
        | cons p r => exact gen hw
      | _ => exact gen hw
    | _ => exact gen hw
  have isCase : ∀ (ne : Bool) (R' : Bool → Prop), isW d1 d2 R' → (∀ c, R' c → Q (.bl (if ne then !c else c)) H) → wpAny (model X.prog X.w) X.A (compareOp (if ne then .IsNot else .Is) v u) (EP X pins σ Q) X.xe s := by
    intro ne R' hw hv
    have nonCase : d2 = .none → R' (isNone d1) → wpAny (model X.prog X.w) X.A (compareOp (if ne then .IsNot else .Is) v u) (EP X pins σ Q) X.xe s := fun e hw0 => by
      subst e
      have e2 : isNone d1 = decide (x = .non) := by
        cases d1 with
        | none => rw [r1.non]; rfl
        | bool b => rw [r1.bl]; rfl
        | int b => rw [r1.int]; rfl
        | str b => rw [r1.str]; rfl
        | list ds => obtain ⟨a, _, rfl, _⟩ := r1.lst sb; rfl
        | tuple ds => obtain ⟨a, _, rfl, _⟩ := r1.tup sb; rfl
        | dict ds => obtain ⟨a, _, rfl, _⟩ := r1.dic sb; rfl
      rw [e2] at hw0
      cases ne with
      | false => exact op_isN pins s σ H x y v u Q I rx ry ⟨r2.non, hv _ hw0⟩
      | true => exact op_notN pins s σ H x y v u Q I rx ry ⟨r2.non, hv _ hw0⟩
    cases d2 with
    | none =>
      refine nonCase rfl ?_
      cases d1 <;> exact hw
    | bool b =>
      cases d1 with
      | bool a =>
        have e : (a == b) = decide (a = b) := by cases a <;> cases b <;> rfl
        have hw' : R' (a == b) := hw
        rw [e] at hw'
        cases ne with
        | false => exact op_isBl pins s σ H x y v u Q I rx ry ⟨a, b, r1.bl, r2.bl, hv _ hw'⟩
        | true => exact op_notBl pins s σ H x y v u Q I rx ry ⟨a, b, r1.bl, r2.bl, hv _ hw'⟩
      | _ => exact False.elim hw
    | _ => cases d1 <;> exact False.elim hw
  have inCase : ∀ (ne : Bool) (R' : Bool → Prop), inW d1 d2 R' → (∀ c, R' c → Q (.bl (if ne then !c else c)) H) → wpAny (model X.prog X.w) X.A (compareOp (if ne then .NotIn else .In) v u) (EP X pins σ Q) X.xe s := by
    intro ne R' hw hv
    cases d2 with
    | dict kvs =>
      have hw' : isKey d1 = true ∧ R' (dHas kvs d1) := by cases d1 <;> exact hw
      obtain ⟨b, k, rfl, g, hb, rfl⟩ := r1.key sb hw'.1
      obtain ⟨a, ka, rfl, ha, ra⟩ := r2.dic sb
      cases ry
      have dg : DGet H a (.ref b) (valV ka k) := .inr ⟨ka, k, b, ha, rfl, hb, rfl⟩
      have hq := hv _ hw'.2
      rw [ra.has] at hq
      cases ne with
      | false => exact d_in (by omega) I dg rx fun s' I' => ⟨.bl _, H, I', rfl, hq⟩
      | true => exact d_notIn (by omega) I dg rx fun s' I' => ⟨.bl _, H, I', rfl, hq⟩
    | tuple ds =>
      have hw' : (Shp d1 ∧ Shp (.tuple ds)) ∧ R' (ds.any fun x => PyData.eqv x d1) := by cases d1 <;> exact hw
      exact op_inT hu ne pins s σ H x y v u Q I rx ry ⟨d1, ds, r1.dp sb hw'.1.1.1, r2.dp sb hw'.1.2.1, hw'.1.1.sh, hw'.1.2.sh, hv _ hw'.2⟩
    | list ds =>
      have hw' : (Shp d1 ∧ Shp (.list ds)) ∧ R' (ds.any fun x => PyData.eqv x d1) := by cases d1 <;> exact hw
      cases ne with
      | false => exact op_inD hu pins s σ H x y v u Q I rx ry ⟨d1, ds, r1.dp sb hw'.1.1.1, r2.dp sb hw'.1.2.1, hw'.1.1.sh, hw'.1.2.sh, hv _ hw'.2⟩
      | true => exact op_notInD hu pins s σ H x y v u Q I rx ry ⟨d1, ds, r1.dp sb hw'.1.1.1, r2.dp sb hw'.1.2.1, hw'.1.1.sh, hw'.1.2.sh, hv _ hw'.2⟩
    | _ => cases d1 <;> exact False.elim hw
  cases op with
  | eq => exact eqCase false R hw hv
  | ne => exact eqCase true _ hw fun c r => hv _ r
  | is => exact isCase false R hw hv
  | isn => exact isCase true _ hw fun c r => hv _ r
  | inn => exact inCase false R hw hv
  | nin => exact inCase true _ hw fun c r => hv _ r
  | lt =>
    cases d1 with
    | int i =>
      cases d2 with
      | int j => exact op_lt pins s σ H x y v u Q I rx ry ⟨i, j, r1.int, r2.int, hv _ hw⟩
      | _ => exact False.elim hw
    | _ => exact False.elim hw
  | le =>
    cases d1 with
    | int i =>
      cases d2 with
      | int j => exact op_le pins s σ H x y v u Q I rx ry ⟨i, j, r1.int, r2.int, hv _ hw⟩
      | _ => exact False.elim hw
    | _ => exact False.elim hw
  | gt =>
    cases d1 with
    | int i =>
      cases d2 with
      | int j => exact op_gt pins s σ H x y v u Q I rx ry ⟨i, j, r1.int, r2.int, hv _ hw⟩
      | _ => exact False.elim hw
    | _ => exact False.elim hw
  | ge =>
    cases d1 with
    | int i =>
      cases d2 with
      | int j => exact op_ge pins s σ H x y v u Q I rx ry ⟨i, j, r1.int, r2.int, hv _ hw⟩
      | _ => exact False.elim hw
    | _ => exact False.elim hw
end
end Z

namespace Z
open PySem PySem.Spec PyProof.Rows L2
theorem atI_eq {α : Type} (xs : List α) (i : Int) : Z.atI xs i = L2.atI xs i := rfl
theorem ixN_eq (n : Nat) (i : Int) : Z.ixN n i = L2.ixN n i := rfl
section
variable {K : PySem.W.Frag} {G H : Hp}
theorem RepAll.at {xs : List V} {ds : List D} (r : RepAll K G xs ds) {i : Int} {d : D} (h : Z.atI ds i = some d) : ∃ v, L2.atI xs i = some v ∧ Rep K G v d := by
  unfold Z.atI at h
  unfold L2.atI
  rw [r.length]
  show ∃ v, (Z.ixN ds.length i).bind _ = some v ∧ _
  cases e : Z.ixN ds.length i with
  | none => rw [e] at h; cases h
  | some j =>
    rw [e] at h
    obtain ⟨v, h1, h2⟩ := r.get (i := j) (d := d) h
    exact ⟨v, h1, h2⟩
end
/-! ### a[b] -/
def rIxD (K : PySem.W.Frag) : R2 := fun x y H Q => ∃ G d1 d2 R, Sub G H ∧ RdD K G H x d1 ∧ RdD K G H y d2 ∧ idxW d1 d2 R ∧ VP K G H R Q
section
variable {X : Cx}
theorem ix_D (hu : X.A.units + 65 < cLine) : IxR X (rIxD X.K) := by
  intro value slice pins s σ H x y v u Q I rx ry h hs
  obtain ⟨G, d1, d2, R, sb, r1, r2, hw, hv⟩ := h
  cases d1 with
  | list ds =>
    cases d2 with
    | int i =>
      obtain ⟨d, hd, hw⟩ := hw
      obtain ⟨a, xs, rfl, h1, a1⟩ := r1.lst sb
      obtain ⟨w, e1, e2⟩ := a1.at hd
      exact ix_list value slice pins s σ H _ y v u Q I rx ry ⟨a, xs, i, w, rfl, r2.int, h1, e1, hv.now sb hw e2⟩ hs
    | _ => exact False.elim hw
  | tuple ds =>
    cases d2 with
    | int i =>
      obtain ⟨d, hd, hw⟩ := hw
      obtain ⟨a, xs, rfl, h1, a1, g1⟩ := r1.tup sb
      obtain ⟨w, e1, e2⟩ := a1.at hd
      exact ix_tup value slice pins s σ H _ y v u Q I rx ry ⟨a, xs, i, w, rfl, r2.int, h1, e1, hv.now sb hw e2⟩ hs
    | _ => exact False.elim hw
  | dict dk =>
    obtain ⟨hk, d, hd, hw⟩ := hw
    obtain ⟨b, k, rfl, gb, hb, rfl⟩ := r2.key sb hk
    obtain ⟨a, ka, rfl, ha, ra⟩ := r1.dic sb
    rcases ra.get k with ⟨w, d', e1, e2, e3⟩ | ⟨_, e2⟩
    · rw [hd] at e2
      cases e2
      have dg : DGet H a (.ref b) (some w) := .inr ⟨ka, k, b, ha, rfl, hb, e1.symm⟩
      cases rx
      have hT := dict_typeIs I dg
      unfold subscriptTail
      refine wpAny_bind ?_
      rw [getitemInPython_of_ne hT.not_modules]
      refine wpAny_bind (wpAny_specialOf hT PySem.F.slot_dict_getitem.lookup ?_)
      have fin : wpAny (model X.prog X.w) X.A (subscripted slice false (.ref a) u) (fun r s₃ => wpAny (model X.prog X.w) X.A (letTemporaryGo value (.ref a) r >>= fun _ => pure r) (EP X pins σ Q) X.xe s₃) X.xe s := by
        rw [hs]
        refine wpAny_operating (d_getItem (by omega) I dg ry fun w' s' I' rw' => wpAny_bind (wpAny_letTemporaryGo (wpAny_pure ⟨w, H, I', rw', hv.now sb hw e3⟩)))
      first
        | exact wpAny_pure (wpAny_bind fin)
        | exact wpAny_bind (wpAny_pure (wpAny_bind fin))
        | exact wpAny_bind fin
    · rw [hd] at e2; cases e2
  | _ => cases d2 <;> exact False.elim hw
end
/-! ### built-in functions -/
def RdA (K : PySem.W.Frag) (G H : Hp) : List V → List D → Prop := Paired (fun v d => RdD K G H v d)
theorem RdA.one {K : PySem.W.Frag} {G H : Hp} {vs : List V} {d : D} (r : RdA K G H vs [d]) : ∃ v, vs = [v] ∧ RdD K G H v d := by
  unfold RdA at r
  cases r with
  | cons h t => cases t; exact ⟨_, rfl, h⟩
theorem RdA.two {K : PySem.W.Frag} {G H : Hp} {vs : List V} {d e : D} (r : RdA K G H vs [d, e]) : ∃ v w, vs = [v, w] ∧ RdD K G H v d ∧ RdD K G H w e := by
  unfold RdA at r
  cases r with
  | cons h t =>
    cases t with
    | cons h' t => cases t; exact ⟨_, _, rfl, h, h'⟩
def rCB (K : PySem.W.Frag) (b : Bl) : List V → Hp → VK → Prop := fun vs H Q => ∃ G ds R, Sub G H ∧ RdA K G H vs ds ∧ bltW b ds R ∧ VX K G H R Q
def blV : Bl → Value
  | .len => .builtin "len" | .max => .builtin "max" | .min => .builtin "min" | .sum => .builtin "sum" | .all => .builtin "all"
  | .list => .type "list" | .tuple => .type "tuple" | .int => .type "int" | .bool => .type "bool"
theorem maxL_of : ∀ {ns : List Int} {m : Int}, m ∈ ns → (∀ y, y ∈ ns → y ≤ m) → m = maxL ns := by
  have key : ∀ (ns : List Int) (a : Int), (ns.foldl max a = a ∨ ns.foldl max a ∈ ns) ∧ a ≤ ns.foldl max a ∧ ∀ y ∈ ns, y ≤ ns.foldl max a := by
    intro ns
    induction ns with
    | nil => intro a; exact ⟨.inl rfl, Int.le_refl _, fun y h => by cases h⟩
    | cons n ns ih =>
      intro a
      obtain ⟨h1, h2, h3⟩ := ih (max a n)
      rw [List.foldl_cons]
      refine ⟨?_, by omega, fun y hy => ?_⟩
      · rcases h1 with h1 | h1
        · by_cases h : a ≤ n
          · exact .inr (by rw [h1, show max a n = n by omega]; exact List.mem_cons_self)
          · exact .inl (by rw [h1]; omega)
        · exact .inr (List.mem_cons_of_mem _ h1)
      · rcases List.mem_cons.mp hy with rfl | hy
        · omega
        · exact h3 y hy
  intro ns m h1 h2
  cases ns with
  | nil => cases h1
  | cons n ns =>
    show m = ns.foldl max n
    obtain ⟨k1, k2, k3⟩ := key ns n
    have a1 : m ≤ ns.foldl max n := by
      rcases List.mem_cons.mp h1 with rfl | h
      · exact k2
      · exact k3 m h
    have a2 : ns.foldl max n ≤ m := by
      rcases k1 with k1 | k1
      · rw [k1]; exact h2 n List.mem_cons_self
      · exact h2 _ (List.mem_cons_of_mem _ k1)
    omega
theorem minL_of : ∀ {ns : List Int} {m : Int}, m ∈ ns → (∀ y, y ∈ ns → m ≤ y) → m = minL ns := by
  have key : ∀ (ns : List Int) (a : Int), (ns.foldl min a = a ∨ ns.foldl min a ∈ ns) ∧ ns.foldl min a ≤ a ∧ ∀ y ∈ ns, ns.foldl min a ≤ y := by
    intro ns
    induction ns with
    | nil => intro a; exact ⟨.inl rfl, Int.le_refl _, fun y h => by cases h⟩
    | cons n ns ih =>
      intro a
      obtain ⟨h1, h2, h3⟩ := ih (min a n)
      rw [List.foldl_cons]
      refine ⟨?_, by omega, fun y hy => ?_⟩
      · rcases h1 with h1 | h1
        · by_cases h : n ≤ a
          · exact .inr (by rw [h1, show min a n = n by omega]; exact List.mem_cons_self)
          · exact .inl (by rw [h1]; omega)
        · exact .inr (List.mem_cons_of_mem _ h1)
      · rcases List.mem_cons.mp hy with rfl | hy
        · omega
        · exact h3 y hy
  intro ns m h1 h2
  cases ns with
  | nil => cases h1
  | cons n ns =>
    show m = ns.foldl min n
    obtain ⟨k1, k2, k3⟩ := key ns n
    have a1 : ns.foldl min n ≤ m := by
      rcases List.mem_cons.mp h1 with rfl | h
      · exact k2
      · exact k3 m h
    have a2 : m ≤ ns.foldl min n := by
      rcases k1 with k1 | k1
      · rw [k1]; exact h2 n List.mem_cons_self
      · exact h2 _ (List.mem_cons_of_mem _ k1)
    omega
section
variable {X : Cx}
theorem max_tuple {pins : List (Addr × Obj)} {s : Shared} {σ : L2.St} {H : Hp} {a : Addr} {ns : List Int} {Q : VK} (hc : X.calm = true) (hu : X.A.units + 65 < cLine) (I : Inv X pins σ H s) (ha : SqT X.K H a (ns.map V.int)) (hne : ns ≠ []) (q : Q (.int (maxL ns)) H) :
    wpAny (model X.prog X.w) X.A (call (.builtin "max") [.ref a]) (EP X pins σ Q) X.xe s := by
  obtain ⟨its, r, ht, hz⟩ := I.tuple ha
  cases ns with
  | nil => exact absurd rfl hne
  | cons n ns =>
    have hi : IntsAre its (n :: ns) := intsAre_of r
    have dp : ∀ (ms : List Int) (us : List Value), IntsAre us ms → ∃ as, ReadsAll s.heap us (ms.map PyData.int) as := by
      intro ms us h
      induction h with
      | nil => exact ⟨_, ReadsAll.nil⟩
      | cons m t _ ih => obtain ⟨as, h⟩ := ih; exact ⟨_, ReadsAll.cons (Reads.int m t) h⟩
    obtain ⟨as, hr⟩ := dp _ _ hi
    have hal : PySem.W.AlikeAll (PyData.int n :: ns.map PyData.int) := by
      have hm : ∀ x ∈ (PyData.int n :: ns.map PyData.int), ∃ i, x = .int i := fun x hx => by
        rcases List.mem_cons.mp hx with rfl | hx
        · exact ⟨_, rfl⟩
        · obtain ⟨i, _, rfl⟩ := List.mem_map.mp hx
          exact ⟨i, rfl⟩
      refine ⟨fun x hx y hy => ?_, fun x hx => ?_⟩
      · obtain ⟨i, rfl⟩ := hm x hx
        obtain ⟨j, rfl⟩ := hm y hy
        rfl
      · obtain ⟨i, rfl⟩ := hm x hx
        exact fun z => nomatch z
    have hdep : PyData.depthAll (PyData.int n :: ns.map PyData.int) = 0 := by
      have : ∀ ms : List Int, PyData.depthAll (ms.map PyData.int) = 0 := by
        intro ms
        induction ms with
        | nil => rfl
        | cons m ms ih => rw [List.map_cons, PyData.depthAll, ih]; rfl
      exact this (n :: ns)
    refine PySem.W.max_tuple_data (x := .int n) (xs := ns.map .int) (I.ok.hd hc) (show s.heap.IsTuple a its.toArray from ht) (by simpa using hr) hal (by rw [hdep]; omega) fun i v h' tk bs _ hv hk => ?_
    rw [PySem.W.maxD_ints] at hv
    cases hv with
    | int _ t => exact ⟨.int _, H, I.kept hk, ⟨t, rfl⟩, q⟩
theorem index_of {ns : List Int} {i : Int} (h : i ∈ ns) : (ns.map V.int)[idxOf ns i]? = some (.int i) ∧ ∀ (m : Nat) (z : V), m < idxOf ns i → (ns.map V.int)[m]? = some z → eqV z (.int i) = false := by
  have hlt : ns.findIdx (· == i) < ns.length := List.findIdx_lt_length_of_exists ⟨i, h, by simp⟩
  constructor
  · show (ns.map V.int)[ns.findIdx (· == i)]? = _
    rw [List.getElem?_map, List.getElem?_eq_getElem hlt]
    have := List.findIdx_getElem (p := (· == i)) (xs := ns) (w := hlt)
    simp only [beq_iff_eq] at this
    rw [this]
    rfl
  · intro m z hm hz
    have hm' : m < ns.findIdx (· == i) := hm
    have hml : m < ns.length := by omega
    rw [List.getElem?_map, List.getElem?_eq_getElem hml] at hz
    have hz' : V.int ns[m] = z := Option.some.inj hz
    subst hz'
    have := List.not_of_lt_findIdx (p := (· == i)) (xs := ns) hm'
    simpa [eqV] using this
theorem cr_B (hc : X.calm = true) (hu : X.A.units + 65 < cLine) (b : Bl) : CallR X (blV b) (rCB X.K b) := by
  intro pins s σ H vs us Q I r h
  obtain ⟨G, ds, R, sb, ra, hw, hv⟩ := h
  cases b with
  | len =>
    match ds, hw, ra with
    | [.list xs], hw, ra =>
      obtain ⟨v, rfl, r1⟩ := ra.one
      obtain ⟨a, ys, rfl, h1, a1⟩ := r1.lst sb
      have hw' : R (.int xs.length) := hw
      rw [← a1.length] at hw'
      exact call_len pins s σ H _ us Q I r ⟨.ref a, ys.length, rfl, .inl ⟨ys, h1, rfl⟩, hv.now sb hw' rfl (.int _)⟩
    | [.tuple xs], hw, ra =>
      obtain ⟨v, rfl, r1⟩ := ra.one
      obtain ⟨a, ys, rfl, h1, a1, _⟩ := r1.tup sb
      have hw' : R (.int xs.length) := hw
      rw [← a1.length] at hw'
      exact call_len pins s σ H _ us Q I r ⟨.ref a, ys.length, rfl, .inr ⟨ys, h1, rfl⟩, hv.now sb hw' rfl (.int _)⟩
    | [], hw, _ => exact False.elim hw
    | [.none], hw, _ => exact False.elim hw
    | [.bool _], hw, _ => exact False.elim hw
    | [.int _], hw, _ => exact False.elim hw
    | [.str _], hw, _ => exact False.elim hw
    | [.dict _], hw, _ => exact False.elim hw
    | _ :: _ :: _, hw, _ => exact False.elim (by simpa [bltW] using hw)
  | max =>
    match ds, hw, ra with
    | [.int i, .int j], hw, ra =>
      obtain ⟨v, w, rfl, r1, r2⟩ := ra.two
      have e : (if j > i then j else i) = max i j := by split <;> omega
      rw [r1.int, r2.int] at r
      exact call_max2 hc pins s σ H _ us Q I r ⟨i, j, rfl, by rw [e]; exact hv.now sb hw rfl (.int _)⟩
    | [.list xs], hw, ra =>
      obtain ⟨v, rfl, r1⟩ := ra.one
      obtain ⟨ns, rfl, hne, hw⟩ := hw
      obtain ⟨a, ys, rfl, h1, a1⟩ := r1.lst sb
      rw [a1.ints] at h1
      refine cr_max hc pins s σ H _ us Q I r ⟨a, ns, rfl, h1, List.length_pos_iff.mpr hne, fun m m1 m2 => ?_⟩
      rw [maxL_of m1 m2]
      exact hv.now sb hw rfl (.int _)
    | [.tuple xs], hw, ra =>
      obtain ⟨v, rfl, r1⟩ := ra.one
      obtain ⟨ns, rfl, hne, hw⟩ := hw
      obtain ⟨a, ys, rfl, h1, a1, _⟩ := r1.tup sb
      rw [a1.ints] at h1
      obtain ⟨u, rfl, ru⟩ := vals1 r
      cases ru
      exact max_tuple hc hu I h1 hne (hv.now sb hw rfl (.int _))
    | [], hw, _ => exact False.elim hw
    | [.none], hw, _ => exact False.elim hw
    | [.bool _], hw, _ => exact False.elim hw
    | [.int _], hw, _ => exact False.elim hw
    | [.str _], hw, _ => exact False.elim hw
    | [.dict _], hw, _ => exact False.elim hw
    | .none :: _ :: _, hw, _ => exact False.elim (by simpa [bltW] using hw)
    | .bool _ :: _ :: _, hw, _ => exact False.elim (by simpa [bltW] using hw)
    | .str _ :: _ :: _, hw, _ => exact False.elim (by simpa [bltW] using hw)
    | .list _ :: _ :: _, hw, _ => exact False.elim (by simpa [bltW] using hw)
    | .tuple _ :: _ :: _, hw, _ => exact False.elim (by simpa [bltW] using hw)
    | .dict _ :: _ :: _, hw, _ => exact False.elim (by simpa [bltW] using hw)
    | [.int _, .none], hw, _ => exact False.elim (by simpa [bltW] using hw)
    | [.int _, .bool _], hw, _ => exact False.elim (by simpa [bltW] using hw)
    | [.int _, .str _], hw, _ => exact False.elim (by simpa [bltW] using hw)
    | [.int _, .list _], hw, _ => exact False.elim (by simpa [bltW] using hw)
    | [.int _, .tuple _], hw, _ => exact False.elim (by simpa [bltW] using hw)
    | [.int _, .dict _], hw, _ => exact False.elim (by simpa [bltW] using hw)
    | .int _ :: _ :: _ :: _, hw, _ => exact False.elim (by simpa [bltW] using hw)
  | min =>
    rcases ds with _ | ⟨d, _ | ⟨d2, _ | ⟨d3, ds⟩⟩⟩
    · exact False.elim hw
    · cases d <;> try exact False.elim hw
      rename_i xs
      obtain ⟨v, rfl, r1⟩ := ra.one
      obtain ⟨ns, rfl, hne, hw⟩ := hw
      obtain ⟨a, ys, rfl, h1, a1⟩ := r1.lst sb
      rw [a1.ints] at h1
      refine cr_min hc pins s σ H _ us Q I r ⟨a, ns, rfl, h1, List.length_pos_iff.mpr hne, fun m m1 m2 => ?_⟩
      rw [minL_of m1 m2]
      exact hv.now sb hw rfl (.int _)
    · cases d <;> cases d2 <;> try exact False.elim hw
      rename_i i j
      obtain ⟨v, w, rfl, r1, r2⟩ := ra.two
      have e : (if j < i then j else i) = min i j := by split <;> omega
      rw [r1.int, r2.int] at r
      exact call_min2 hc pins s σ H _ us Q I r ⟨i, j, rfl, by rw [e]; exact hv.now sb hw rfl (.int _)⟩
    · exact False.elim (by cases d <;> cases d2 <;> simpa [bltW] using hw)
  | sum =>
    rcases ds with _ | ⟨d, _ | ⟨d2, ds⟩⟩
    · exact False.elim hw
    · cases d <;> try exact False.elim hw
      obtain ⟨v, rfl, r1⟩ := ra.one
      obtain ⟨ns, rfl, hw⟩ := hw
      obtain ⟨a, ys, rfl, h1, a1⟩ := r1.lst sb
      rw [a1.ints] at h1
      exact cr_sum hc pins s σ H _ us Q I r ⟨a, ns, rfl, h1, hv.now sb hw rfl (.int _)⟩
    · exact False.elim (by cases d <;> simpa [bltW] using hw)
  | all =>
    rcases ds with _ | ⟨d, _ | ⟨d2, ds⟩⟩
    · exact False.elim hw
    · cases d <;> try exact False.elim hw
      obtain ⟨v, rfl, r1⟩ := ra.one
      obtain ⟨bs, rfl, hw⟩ := hw
      obtain ⟨a, ys, rfl, h1, a1⟩ := r1.lst sb
      rw [a1.bools] at h1
      exact cr_all hc pins s σ H _ us Q I r ⟨a, bs, rfl, h1, hv.now sb hw rfl (.bl _)⟩
    · exact False.elim (by cases d <;> simpa [bltW] using hw)
  | list =>
    rcases ds with _ | ⟨d, _ | ⟨d2, ds⟩⟩
    · exact False.elim hw
    · cases d <;> try exact False.elim hw
      · obtain ⟨v, rfl, r1⟩ := ra.one
        obtain ⟨a, ys, rfl, h1, a1⟩ := r1.lst sb
        exact call_list_of pins s σ H _ us Q I r ⟨a, ys, rfl, .inl h1, fun p hp => hv.lst sb hw hp a1⟩
      · obtain ⟨v, rfl, r1⟩ := ra.one
        obtain ⟨a, ys, rfl, h1, a1, _⟩ := r1.tup sb
        exact call_list_of pins s σ H _ us Q I r ⟨a, ys, rfl, .inr h1, fun p hp => hv.lst sb hw hp a1⟩
    · exact False.elim (by cases d <;> simpa [bltW] using hw)
  | tuple =>
    rcases ds with _ | ⟨d, _ | ⟨d2, ds⟩⟩
    · exact False.elim hw
    · cases d <;> try exact False.elim hw
      · obtain ⟨v, rfl, r1⟩ := ra.one
        obtain ⟨a, ys, rfl, h1, a1⟩ := r1.lst sb
        exact call_tuple_of pins s σ H _ us Q I r ⟨a, ys, rfl, .inl ⟨h1, fun p hp => hv.tup sb hw hp a1⟩⟩
      · obtain ⟨v, rfl, r1⟩ := ra.one
        obtain ⟨a, ys, rfl, h1, a1, g1⟩ := r1.tup sb
        exact call_tuple_of pins s σ H _ us Q I r ⟨a, ys, rfl, .inr ⟨h1, hv.now sb hw rfl (.tup g1 a1)⟩⟩
    · exact False.elim (by cases d <;> simpa [bltW] using hw)
  | int =>
    rcases ds with _ | ⟨d, _ | ⟨d2, ds⟩⟩
    · exact False.elim hw
    · cases d <;> try exact False.elim hw
      · obtain ⟨v, rfl, r1⟩ := ra.one
        rw [r1.bl] at r
        exact call_int1 pins s σ H _ us Q I r (.inr ⟨_, rfl, hv.now sb hw rfl (.int _)⟩)
      · obtain ⟨v, rfl, r1⟩ := ra.one
        rw [r1.int] at r
        exact call_int1 pins s σ H _ us Q I r (.inl ⟨_, rfl, hv.now sb hw rfl (.int _)⟩)
    · exact False.elim (by cases d <;> simpa [bltW] using hw)
  | bool =>
    rcases ds with _ | ⟨d, _ | ⟨d2, ds⟩⟩
    · exact False.elim hw
    · cases d <;> try exact False.elim hw
      · obtain ⟨v, rfl, r1⟩ := ra.one
        rw [r1.bl] at r
        exact call_bool1 pins s σ H _ us Q I r (.inr ⟨_, rfl, hv.now sb hw rfl (.bl _)⟩)
      · obtain ⟨v, rfl, r1⟩ := ra.one
        rw [r1.int] at r
        exact call_bool1 pins s σ H _ us Q I r (.inl ⟨_, rfl, hv.now sb hw rfl (.bl _)⟩)
    · exact False.elim (by cases d <;> simpa [bltW] using hw)
/-! ### isinstance -/
def tyS : Ty → String
  | .int => "int" | .bool => "bool" | .str => "str" | .list => "list" | .tuple => "tuple"
def tyOf : D → String
  | .none => "NoneType" | .bool _ => "bool" | .int _ => "int" | .str _ => "str" | .list _ => "list" | .tuple _ => "tuple" | .dict _ => "dict"
theorem kit_none (t : Ty) : kitB "NoneType" (tyS t) = some false := by cases t <;> decide +kernel
theorem kit_bool (t : Ty) : kitB "bool" (tyS t) = some (match t with | .int => true | .bool => true | _ => false) := by cases t <;> decide +kernel
theorem kit_int (t : Ty) : kitB "int" (tyS t) = some (match t with | .int => true | _ => false) := by cases t <;> decide +kernel
theorem kit_str (t : Ty) : kitB "str" (tyS t) = some (match t with | .str => true | _ => false) := by cases t <;> decide +kernel
theorem kit_list (t : Ty) : kitB "list" (tyS t) = some (match t with | .list => true | _ => false) := by cases t <;> decide +kernel
theorem kit_tuple (t : Ty) : kitB "tuple" (tyS t) = some (match t with | .tuple => true | _ => false) := by cases t <;> decide +kernel
theorem tyX_of {G H : Hp} {v : V} {d : D} {R : D → Prop} (sb : Sub G H) (r : RdD X.K G H v d) (h : isiW d R) : R d ∧ ∃ T : String, TyX X.K H v (.type T) ∧ ∀ t, kitB T (tyS t) = some (isTy t d) := by
  cases d with
  | none => rw [r.non]; exact ⟨h, _, .base .non, fun t => by rw [kit_none]; cases t <;> rfl⟩
  | bool b => rw [r.bl]; exact ⟨h, _, .base (.bl b), fun t => by rw [kit_bool]; cases t <;> rfl⟩
  | int b => rw [r.int]; exact ⟨h, _, .base (.int b), fun t => by rw [kit_int]; cases t <;> rfl⟩
  | str b => rw [r.str]; exact ⟨h, _, .base (.str b), fun t => by rw [kit_str]; cases t <;> rfl⟩
  | list ds =>
    obtain ⟨a, xs, rfl, h1, _⟩ := r.lst sb
    refine ⟨h, "list", ?_, fun t => by rw [kit_list]; cases t <;> rfl⟩
    rcases h1 with (h | ⟨o, h⟩) | ⟨o, its, n, h, c, _⟩
    · exact .base (.lst h)
    · exact .base (.frz h)
    · exact .kList h c
  | tuple ds =>
    obtain ⟨a, xs, rfl, h1, _, g⟩ := r.tup sb
    exact ⟨h, "tuple", .base (.tup (sb.tp g)), fun t => by rw [kit_tuple]; cases t <;> rfl⟩
  | dict dk => exact False.elim h
theorem kitAny_of {K : PySem.W.Frag} {T : String} {d : D} (h : ∀ t, kitB T (tyS t) = some (isTy t d)) : ∀ ts : List Ty, PySem.W.kitAny K (.type T) (ts.map fun t => Value.type (tyS t)) = some (ts.any fun t => isTy t d)
  | [] => kitAny_nil
  | t :: ts => by
    rw [List.map_cons, List.any_cons]
    refine kitAny_cons (kit_ty (h t)) (fun e => ?_) fun e => ?_
    · rw [e, Bool.false_or]; exact kitAny_of h ts
    · rw [e]; rfl
/-- isinstance(x, T) -/
def rIsD1 (K : PySem.W.Frag) (t : Ty) : List V → Hp → VK → Prop := fun vs H Q => ∃ G v d R, vs = [v, .ty (tyS t)] ∧ Sub G H ∧ RdD K G H v d ∧ isiW d R ∧ (R d → Q (.bl (isTy t d)) H)
theorem call_isD1 (t : Ty) : CallR X (.builtin "isinstance") (rIsD1 X.K t) := by
  intro pins s σ H vs us Q I r h
  obtain ⟨G, v, d, R, rfl, sb, rd, hw, hq⟩ := h
  obtain ⟨hr, T, ty, hk⟩ := tyX_of sb rd hw
  exact call_isi pins s σ H _ us Q I r ⟨v, .ty (tyS t), .type T, .type (tyS t), _, rfl, .ty _, ty, kit_ty (hk t), hq hr⟩
/-- isinstance(x, (T1, ..)) -/
def rIsDT (K : PySem.W.Frag) (ts : List Ty) : List V → Hp → VK → Prop := fun vs H Q => ∃ G v tp d R, vs = [v, .ref tp] ∧ H tp = some (.tup (ts.map fun t => V.ty (tyS t))) ∧ Sub G H ∧ RdD K G H v d ∧ isiW d R ∧ (R d → Q (.bl (ts.any fun t => isTy t d)) H)
theorem clsAll : ∀ ts : List Ty, Paired ClsV (ts.map fun t => V.ty (tyS t)) (ts.map fun t => Value.type (tyS t))
  | [] => .nil
  | t :: ts => .cons (.ty _) (clsAll ts)
theorem call_isDT (ts : List Ty) : CallR X (.builtin "isinstance") (rIsDT X.K ts) := by
  intro pins s σ H vs us Q I r h
  obtain ⟨G, v, tp, d, R, rfl, ht, sb, rd, hw, hq⟩ := h
  obtain ⟨hr, T, ty, hk⟩ := tyX_of sb rd hw
  exact call_isiT pins s σ H _ us Q I r ⟨v, tp, _, .type T, _, _, rfl, ht, clsAll ts, ty, kitAny_of hk ts, hq hr⟩
/-! ### list.index -/
def rIdx (K : PySem.W.Frag) : V → List V → Hp → VK → Prop := fun x vs H Q => ∃ G d v ds i ns R, vs = [v] ∧ Sub G H ∧ RdD K G H x (.list ds) ∧ RdD K G H v (.int i) ∧ ds = ns.map PyData.int ∧ i ∈ ns ∧ R (PyData.int (idxOf ns i)) ∧ d = ds ∧ VP K G H R Q
theorem mt_idxD : MtR X "list.index" (rIdx X.K) := by
  intro pins s σ H x xs v us Q I rx rxs h
  obtain ⟨G, d, y, ds, i, ns, R, rfl, sb, r1, r2, rfl, hi, hr, rfl, hv⟩ := h
  obtain ⟨a, ys, rfl, h1, a1⟩ := r1.lst sb
  rw [a1.ints] at h1
  rw [r2.int] at rxs
  obtain ⟨k1, k2⟩ := index_of hi
  refine mt_index pins s σ H _ _ v us Q I rx rxs ⟨a, _, .int i, idxOf ns i, .int i, rfl, rfl, h1, rfl, ?_, k1, by simp [eqV], k2, hv.now sb hr (.int _)⟩
  rw [List.all_map]
  exact List.all_eq_true.mpr fun _ _ => rfl
end
end Z

namespace L2
open PySem PySem.Spec PyProof.Rows
theorem PE.imp {X : Cx} {e : Expr} {t t' : TE} (h : PE X e t) (w : ∀ σ H Q, t' σ H Q → t σ H Q) : PE X e t' := ⟨fun pins s σ H Q I q => h.run pins s σ H Q I (w σ H Q q)⟩
theorem PT.imp {X : Cx} {e : Expr} {t t' : TT} (h : PT X e t) (w : ∀ σ H Q, t' σ H Q → t σ H Q) : PT X e t' := ⟨fun pins s σ H Q I q => h.run pins s σ H Q I (w σ H Q q)⟩
theorem PW.imp {X : Cx} {e : Expr} {t t' : TT} (h : PW X e t) (w : ∀ σ H Q, t' σ H Q → t σ H Q) : PW X e t' := ⟨fun wh pins s σ H Q I q => h.run wh pins s σ H Q I (w σ H Q q)⟩
theorem PA.imp {X : Cx} {e : List Expr} {t t' : TA} (h : PA X e t) (w : ∀ σ H Q, t' σ H Q → t σ H Q) : PA X e t' := ⟨fun pos pins s σ H Q I q => h.run pos pins s σ H Q I (w σ H Q q)⟩
end L2
namespace Z
open PySem PySem.Spec PyProof.Rows L2
/-! ### readings -/
def VB (K : PySem.W.Frag) (G H : Hp) (R : D → Prop) (Q : VK) : Prop := ∀ v H' G' d, R d → Ext G H G' H' → RdD K G' H' v d → Q v H'
def VT (G H : Hp) (R : Bool → Prop) (Q : Bool → Hp → Prop) : Prop := ∀ b H' G', R b → Ext G H G' H' → Q b H'
def VA (K : PySem.W.Frag) (G H : Hp) (n : Nat) (R : List D → Prop) (Q : List V → Hp → Prop) : Prop := ∀ vs H' G' ds, R ds → Ext G H G' H' → RepAll K G' vs ds → vs.length = n → Q vs H'
def VAB (K : PySem.W.Frag) (G H : Hp) (R : List D → Prop) (Q : List V → Hp → Prop) : Prop := ∀ vs H' G' ds, R ds → Ext G H G' H' → RdA K G' H' vs ds → Q vs H'
section
variable (K : PySem.W.Frag) (F : FT)
def tDE (ex : Ex) : TE := fun σ H Q => ∃ H0 G0 G e R, SR K H0 G0 G H σ e ∧ wpE F ex e R ∧ VP K G H R Q
def tDX (ex : Ex) : TE := fun σ H Q => ∃ H0 G0 G e R, SR K H0 G0 G H σ e ∧ wpE F ex e R ∧ VX K G H R Q
def tDB (ex : Ex) : TE := fun σ H Q => ∃ H0 G0 G e R, SR K H0 G0 G H σ e ∧ wpE F ex e R ∧ VB K G H R Q
def tDT (ex : Ex) : TT := fun σ H Q => ∃ H0 G0 G e R, SR K H0 G0 G H σ e ∧ wpE F ex e (fun d => boolOf d R) ∧ VT G H R Q
def tDA (es : Exs) : TA := fun σ H Q => ∃ H0 G0 G e R, SR K H0 G0 G H σ e ∧ wpEs F es e R ∧ VA K G H es.len R Q
def tDAB (es : Exs) : TA := fun σ H Q => ∃ H0 G0 G e R, SR K H0 G0 G H σ e ∧ wpEs F es e R ∧ VAB K G H R Q
end
section
variable {K : PySem.W.Frag} {F : FT} {G H G1 H1 : Hp} {R : D → Prop} {Q : VK}
theorem VP.ext (h : VP K G H R Q) (x : Ext G H G1 H1) : VP K G1 H1 R Q := fun v H' G' d r y rep => h v H' G' d r (x.trans y) rep
theorem Frs.back {G' H' : Hp} {v : V} {d : D} (f : Frs K H1 G' H' v d) (s : Same H H1) : Frs K H G' H' v d := by
  rcases f with ⟨hl, a, e, ha, r⟩ | f
  · exact .inl ⟨hl, a, e, s.free ha, r⟩
  · exact .inr f
theorem VX.ext (h : VX K G H R Q) (x : Ext G H G1 H1) : VX K G1 H1 R Q := fun v H' G' d r y f => h v H' G' d r (x.trans y) (f.back x.hh)
theorem VB.p (h : VB K G H R Q) : VP K G H R Q := fun v H' G' d r x rep => h v H' G' d r x (.inl rep)
theorem VB.ext (h : VB K G H R Q) (x : Ext G H G1 H1) : VB K G1 H1 R Q := fun v H' G' d r y rep => h v H' G' d r (x.trans y) rep
theorem pe_x {X : Cx} {ex : Ex} {e : Expr} (h : PE X e (tDX X.K F ex)) : PE X e (tDE X.K F ex) := h.imp fun σ H Q ⟨H0, G0, G, en, R, sr, hw, hv⟩ => ⟨H0, G0, G, en, R, sr, hw, hv.x⟩
theorem pe_b {X : Cx} {ex : Ex} {e : Expr} (h : PE X e (tDE X.K F ex)) : PE X e (tDB X.K F ex) := h.imp fun σ H Q ⟨H0, G0, G, en, R, sr, hw, hv⟩ => ⟨H0, G0, G, en, R, sr, hw, hv.p⟩
theorem RdA.ext {vs : List V} {ds : List D} (r : RdA K G H vs ds) (x : Ext G H G1 H1) : RdA K G1 H1 vs ds := Paired.mapP r fun _ _ h => h.ext x
end

/-! ### what is looked at in the text -/
def visB (sc : Scope) (x : Str) : Bool := match sc.names.lookup x with | some .local => true | some .cell => true | some .free => true | _ => false
def locB (sc : Scope) (x : Str) : Bool := match sc.names.lookup x with | some .local => true | some .cell => true | _ => false
def lclB (sc : Scope) (x : Str) : Bool := match sc.names.lookup x with | some .local => true | _ => false
def glB (sc : Scope) (x : Str) : Bool := match sc.names.lookup x with | some .globalImplicit => true | _ => false
def okName (x : Str) : Bool := !(x == ("__debug__" : Str)) && !(x == ("__classdict__" : Str)) && !decide (x = ("__name__" : Str))
def nameAt (N : List Str) (i : Nat) (x : Str) : Bool := decide (N[i]? = some x)
theorem vis_of {sc : Scope} {x : Str} (h : visB sc x = true) : Vis sc x := by
  unfold visB at h
  unfold Vis
  split at h
  · exact .inl (by assumption)
  · exact .inr (.inl (by assumption))
  · exact .inr (.inr (by assumption))
  · cases h
theorem loc_of {sc : Scope} {x : Str} (h : locB sc x = true) : L2.Loc sc x := by
  unfold locB at h
  unfold L2.Loc
  split at h
  · exact .inl (by assumption)
  · exact .inr (by assumption)
  · cases h
theorem gl_of {sc : Scope} {x : Str} (h : glB sc x = true) : sc.names.lookup x = some .globalImplicit := by
  unfold glB at h
  split at h
  · assumption
  · cases h
theorem lcl_of {sc : Scope} {x : Str} (h : lclB sc x = true) : sc.names.lookup x = some .local := by
  unfold lclB at h
  split at h
  · assumption
  · cases h
theorem okName_of {x : Str} (h : okName x = true) : (x == ("__debug__" : Str)) = false ∧ (x == ("__classdict__" : Str)) = false ∧ x ≠ "__name__" := by
  unfold okName at h
  simp only [Bool.and_eq_true, Bool.not_eq_true', decide_eq_false_iff_not] at h
  exact ⟨h.1.1, h.1.2, h.2⟩
def notStar : Expr → Bool
  | .Starred _ _ => false
  | _ => true
def notComp : Expr → Bool
  | .ListComp .. => false
  | .SetComp .. => false
  | .DictComp .. => false
  | _ => true
def notSet : Expr → Bool
  | .Set .. => false
  | _ => true
def notSlice : Expr → Bool
  | .Slice .. => false
  | _ => true
def notCall : Expr → Bool
  | .Call .. => false
  | _ => true
def plainT : Expr → Bool
  | .UnaryOp .Not _ _ => false
  | .BoolOp .. => false
  | .IfExp .. => false
  | .Compare .. => false
  | _ => true
theorem star_of {e : Expr} {es : List Expr} {env : Env} (h : notStar e = true) : starEach (e :: es) env = (false, eval e env) :: starEach es env := by
  cases e <;> first | rfl | cases h
theorem mark_of {e : Expr} (h : notSet e = true) (op : CmpOp) : behindInMarks op e = false := by
  cases e <;> first | rfl | cases h
theorem plain_of {e : Expr} {env : Env} (h : plainT e = true) : ∀ whole, isTrue e env whole = (do let v ← whole; standAt e.pos; holding [v] (truthy v)) := by
  intro whole
  cases e with
  | UnaryOp op x p => cases op <;> first | rfl | cases h
  | _ => first | rfl | cases h
theorem plainIx_of {e : Expr} (h : notSlice e = true) : PlainIx e := by
  intro o i
  cases e <;> first | rfl | cases h
theorem swap_of {e : Expr} {t : Option Expr} {l : Nat} {env : Env} (h : notComp e = true) : swapsWith e t l env = pure false := by
  cases e <;> first | rfl | cases h
theorem folded_of {e : Expr} {env : Env} (h : notSet e = true) : ∀ x, foldedSetIterable e env x = pure x := by
  intro x
  cases e <;> first | rfl | cases h
theorem base_of {o : Expr} {m : Str} {env : Env} (h : notCall o = true) : attributeBase o m env (eval o env) = eval o env := by
  cases o <;> first | rfl | cases h

/-! ### the surroundings -/
def blN : Bl → String
  | .len => "len" | .max => "max" | .min => "min" | .sum => "sum" | .all => "all" | .list => "list" | .tuple => "tuple" | .int => "int" | .bool => "bool"
def builtinNames : List String := ["len", "max", "min", "sum", "all", "list", "tuple", "int", "bool", "str", "isinstance", "range", "zip", "enumerate"]
def spF (K : PySem.W.Frag) (F : FT) (f : String) (n : Nat) (fr : Bool) : Sp := fun vs H Q _ => ∃ G ds R, vs.length = n ∧ Sub G H ∧ RepAll K G vs ds ∧ F f ds R ∧ (if fr = true then VX K G H R Q else VP K G H R Q)
structure CallOk (X : Cx) (F : FT) (f : String) (n : Nat) (fr : Bool) : Prop where
  ex : ∃ (k : Nat) (fa : Addr) (fd : FuncData) (ps : List Str), ps.length = n ∧ FnOk X.prog X.w X.K X.mg X.base CX0 k fa fd ps (spF X.K F f n fr) ∧ Room k X.A ∧ X.mg (Str.ofString f) = some (.ref fa) ∧ PySem.W.keepIn X.K (.ref fa) = true ∧ Binds X.K fd ps []
/-- fs: the functions that may be called, with their arity and freshness -/
structure Amb (X : Cx) (F : FT) (fs : List (String × Nat × Bool)) : Prop where
  calm : X.calm = true
  un : X.A.units + 65 < cLine
  blt : ∀ b ∈ builtinNames, X.mg (Str.ofString b) = none
  fn : ∀ p ∈ fs, CallOk X F p.1 p.2.1 p.2.2
structure Here (X : Cx) (sc : Scope) (N : List Str) : Prop where
  n : X.N = N
  sc : X.env.scope = sc
  nd : N.Nodup

/-! ### rules -/
section
variable {X : Cx} {F : FT} {sc : Scope} {N : List Str}
theorem e_var {i : Nat} {x : Str} {pos : Pos} (h : Here X sc N) (h1 : nameAt N i x = true) (h2 : visB sc x = true) (h3 : okName x = true) : PE X (.Name x pos) (tDE X.K F (.var i)) := by
  obtain ⟨k1, k2, k3⟩ := okName_of h3
  refine (pe_var (i := i) (by rw [h.n]; exact of_decide_eq_true h1) (by rw [h.sc]; exact vis_of h2) k1 k2).imp fun σ H Q ⟨H0, G0, G, en, R, sr, hw, hv⟩ => ?_
  obtain ⟨d, hd, hr⟩ := gS_get hw
  obtain ⟨v, e1, x, e2, rep⟩ := sr.slot i _ hd
  subst e2
  exact ⟨x, e1, hv.now sr.x.sub hr rep⟩
theorem e_bor {i : Nat} {x : Str} {pos : Pos} (h : Here X sc N) (h1 : nameAt N i x = true) (h2 : visB sc x = true) (h3 : okName x = true) : PE X (.Name x pos) (tDB X.K F (.bor i)) := by
  obtain ⟨k1, k2, k3⟩ := okName_of h3
  refine (pe_var (i := i) (by rw [h.n]; exact of_decide_eq_true h1) (by rw [h.sc]; exact vis_of h2) k1 k2).imp fun σ H Q ⟨H0, G0, G, en, R, sr, hw, hv⟩ => ?_
  obtain ⟨d, hd, hr⟩ := gO_get hw
  obtain ⟨v, e1, a, e2, h0, hg, o⟩ := sr.slot i _ hd
  subst e2
  exact ⟨.ref a, e1, hv _ _ G d hr (.refl sr.x.sub) (.inr ⟨a, rfl, o⟩)⟩
theorem e_none {j pos} : PE X (.Constant .none j pos) (tDX X.K F .none) := pe_non.imp fun σ H Q ⟨H0, G0, G, en, R, sr, hw, hv⟩ => hv.now sr.x.sub hw rfl .non
theorem e_bool {b j pos} : PE X (.Constant (.bool b) j pos) (tDX X.K F (.bool b)) := pe_bl.imp fun σ H Q ⟨H0, G0, G, en, R, sr, hw, hv⟩ => hv.now sr.x.sub hw rfl (.bl b)
theorem e_int {i j pos} : PE X (.Constant (.int i) j pos) (tDX X.K F (.int i)) := pe_int.imp fun σ H Q ⟨H0, G0, G, en, R, sr, hw, hv⟩ => hv.now sr.x.sub hw rfl (.int i)
theorem e_str {s j pos} : PE X (.Constant (.str s) j pos) (tDX X.K F (.str s)) := pe_str.imp fun σ H Q ⟨H0, G0, G, en, R, sr, hw, hv⟩ => hv.now sr.x.sub hw rfl (.str s)
theorem e_neg {a : Ex} {e : Expr} {pos : Pos} (ha : PE X e (tDB X.K F a)) : PE X (.UnaryOp .USub e pos) (tDX X.K F (.neg a)) :=
  (pe_un un_neg ha).imp fun σ H Q ⟨H0, G0, G, en, R, sr, hw, hv⟩ => ⟨H0, G0, G, en, _, sr, hw, fun v H1 G1 d h1 x1 r1 => by
    cases d with
    | int i => exact ⟨i, r1.int, (hv.ext x1).now x1.sub h1 rfl (.int _)⟩
    | _ => exact False.elim h1⟩
theorem e_bin {op : BOp} {a b : Ex} {l r : Expr} {pos : Pos} (ha : PE X l (tDB X.K F a)) (hb : PE X r (tDB X.K F b)) : PE X (.BinOp l (opc op) r pos) (tDX X.K F (.bin op a b)) :=
  (pe_op (op_B op) ha hb).imp fun σ H Q ⟨H0, G0, G, en, R, sr, hw, hv⟩ => ⟨H0, G0, G, en, _, sr, hw, fun v H1 G1 d1 h1 x1 r1 => ⟨H0, G0, G1, en, _, sr.ext x1, h1, fun w H2 G2 d2 h2 x2 r2 =>
    ⟨G2, d1, d2, R, x2.sub, r1.ext x2, r2, h2, (hv.ext x1).ext x2⟩⟩⟩
theorem e_cmp {op : COp} {a b : Ex} {l r : Expr} {pos : Pos} (hu : X.A.units + 65 < cLine) (hs : notSet r = true) (ha : PE X l (tDB X.K F a)) (hb : PE X r (tDB X.K F b)) : PE X (.Compare l [cpc op] [r] pos) (tDX X.K F (.cmp op a b)) :=
  (pe_cmpR (op_C hu op) ha hb (mark_of hs _)).imp fun σ H Q ⟨H0, G0, G, en, R, sr, hw, hv⟩ => ⟨H0, G0, G, en, _, sr, hw, fun v H1 G1 d1 h1 x1 r1 => ⟨H0, G0, G1, en, _, sr.ext x1, h1, fun w H2 G2 d2 h2 x2 r2 =>
    ⟨G2, d1, d2, _, x2.sub, r1.ext x2, r2, h2, fun c hc => ((hv.ext x1).ext x2).now x2.sub hc rfl (.bl c)⟩⟩⟩
theorem t_cmp {op : COp} {a b : Ex} {l r : Expr} {pos : Pos} (hu : X.A.units + 65 < cLine) (hs : notSet r = true) (ha : PE X l (tDB X.K F a)) (hb : PE X r (tDB X.K F b)) : PT X (.Compare l [cpc op] [r] pos) (tDT X.K F (.cmp op a b)) :=
  (pt_cmpR (op_C hu op) ha hb (mark_of hs _)).imp fun σ H Q ⟨H0, G0, G, en, R, sr, hw, hv⟩ => ⟨H0, G0, G, en, _, sr, hw, fun v H1 G1 d1 h1 x1 r1 => ⟨H0, G0, G1, en, _, sr.ext x1, h1, fun w H2 G2 d2 h2 x2 r2 =>
    ⟨G2, d1, d2, _, x2.sub, r1.ext x2, r2, h2, fun c hc => ⟨c, rfl, hv c H2 G2 hc (x1.trans x2)⟩⟩⟩⟩
theorem e_chain {o1 o2 : COp} {a b c : Ex} {l m r : Expr} {pos : Pos} (hu : X.A.units + 65 < cLine) (hs : notSet r = true) (ha : PE X l (tDB X.K F a)) (hb : PE X m (tDB X.K F b)) (hc : PE X r (tDB X.K F c)) :
    PE X (.Compare l [cpc o1, cpc o2] [m, r] pos) (tDX X.K F (.chain o1 o2 a b c)) := by
  refine (pe_chain (op_C hu o1) (op_C hu o2) ha hb hc (by show behindInMarks (cpc o2) r = false; exact mark_of hs _)).imp fun σ H Q ⟨H0, G0, G, en, R, sr, hw, hv⟩ => ?_
  refine ⟨H0, G0, G, en, _, sr, hw, fun v H1 G1 d1 h1 x1 r1 => ⟨H0, G0, G1, en, _, sr.ext x1, h1, fun w H2 G2 d2 h2 x2 r2 => ⟨G2, d1, d2, _, x2.sub, r1.ext x2, r2, h2, fun k hk => ⟨k, rfl, ?_⟩⟩⟩⟩
  cases k with
  | false =>
    have hk' : R (.bool false) := hk
    exact iteF (((hv.ext x1).ext x2).now x2.sub hk' rfl (.bl _))
  | true =>
    refine iteT ⟨H0, G0, G2, en, _, (sr.ext x1).ext x2, hk, fun z H3 G3 d3 h3 x3 r3 => ⟨G3, d2, d3, _, x3.sub, r2.ext x3, r3, h3, fun c hc => (((hv.ext x1).ext x2).ext x3).now x3.sub hc rfl (.bl c)⟩⟩
theorem t_chain {o1 o2 : COp} {a b c : Ex} {l m r : Expr} {pos : Pos} (hu : X.A.units + 65 < cLine) (hs : notSet r = true) (ha : PE X l (tDB X.K F a)) (hb : PE X m (tDB X.K F b)) (hc : PE X r (tDB X.K F c)) :
    PT X (.Compare l [cpc o1, cpc o2] [m, r] pos) (tDT X.K F (.chain o1 o2 a b c)) := by
  refine (pt_chain (op_C hu o1) (op_C hu o2) ha hb hc (by show behindInMarks (cpc o2) r = false; exact mark_of hs _)).imp fun σ H Q ⟨H0, G0, G, en, R, sr, hw, hv⟩ => ?_
  refine ⟨H0, G0, G, en, _, sr, hw, fun v H1 G1 d1 h1 x1 r1 => ⟨H0, G0, G1, en, _, sr.ext x1, h1, fun w H2 G2 d2 h2 x2 r2 => ⟨G2, d1, d2, _, x2.sub, r1.ext x2, r2, h2, fun k hk => ⟨k, rfl, ?_⟩⟩⟩⟩
  cases k with
  | false => exact iteF ⟨false, rfl, hv false H2 G2 hk (x1.trans x2)⟩
  | true =>
    exact iteT ⟨H0, G0, G2, en, _, (sr.ext x1).ext x2, hk, fun z H3 G3 d3 h3 x3 r3 => ⟨G3, d2, d3, _, x3.sub, r2.ext x3, r3, h3, fun c hc => ⟨c, rfl, hv c H3 G3 hc ((x1.trans x2).trans x3)⟩⟩⟩
/-- and, or, not -/
theorem e_and {a b : Ex} {l : Expr} {rest : List Expr} {y : Expr} {pos : Pos} (ha : PE X l (tDB X.K F a)) (hb : PE X (.BoolOp .And (y :: rest) pos) (tDB X.K F b)) : PE X (.BoolOp .And (l :: y :: rest) pos) (tDX X.K F (.and a b)) := by
  refine (pe_and ha hb).imp fun σ H Q ⟨H0, G0, G, en, R, sr, hw, hv⟩ => ⟨H0, G0, G, en, _, sr, hw, fun v H1 G1 d1 h1 x1 r1 => ?_⟩
  cases d1 with
  | bool k =>
    refine ⟨k, r1.bl, ?_⟩
    cases k with
    | false =>
      have h1' : R (.bool false) := h1
      exact iteF ((hv.ext x1).now x1.sub h1' rfl (.bl _))
    | true =>
      refine iteT ⟨H0, G0, G1, en, _, sr.ext x1, h1, fun w H2 G2 d2 h2 x2 r2 => ?_⟩
      cases d2 with
      | bool k => rw [r2.bl]; exact ((hv.ext x1).ext x2).now x2.sub h2 rfl (.bl _)
      | _ => exact False.elim h2
  | _ => exact False.elim h1
theorem e_or {a b : Ex} {l : Expr} {rest : List Expr} {y : Expr} {pos : Pos} (ha : PE X l (tDB X.K F a)) (hb : PE X (.BoolOp .Or (y :: rest) pos) (tDB X.K F b)) : PE X (.BoolOp .Or (l :: y :: rest) pos) (tDX X.K F (.or a b)) := by
  refine (pe_or ha hb).imp fun σ H Q ⟨H0, G0, G, en, R, sr, hw, hv⟩ => ⟨H0, G0, G, en, _, sr, hw, fun v H1 G1 d1 h1 x1 r1 => ?_⟩
  cases d1 with
  | bool k =>
    refine ⟨k, r1.bl, ?_⟩
    cases k with
    | true =>
      have h1' : R (.bool true) := h1
      exact iteT ((hv.ext x1).now x1.sub h1' rfl (.bl _))
    | false =>
      refine iteF ⟨H0, G0, G1, en, _, sr.ext x1, h1, fun w H2 G2 d2 h2 x2 r2 => ?_⟩
      cases d2 with
      | bool k => rw [r2.bl]; exact ((hv.ext x1).ext x2).now x2.sub h2 rfl (.bl _)
      | _ => exact False.elim h2
  | _ => exact False.elim h1
theorem e_not {a : Ex} {l : Expr} {pos : Pos} (ha : PE X l (tDB X.K F a)) : PE X (.UnaryOp .Not l pos) (tDX X.K F (.not a)) := by
  refine (pe_not ha).imp fun σ H Q ⟨H0, G0, G, en, R, sr, hw, hv⟩ => ⟨H0, G0, G, en, _, sr, hw, fun v H1 G1 d1 h1 x1 r1 => ?_⟩
  cases d1 with
  | bool k => exact ⟨k, r1.bl, (hv.ext x1).now x1.sub h1 rfl (.bl _)⟩
  | _ => exact False.elim h1
theorem t_and {a b : Ex} {l y : Expr} {rest : List Expr} {pos : Pos} (ha : PT X l (tDT X.K F a)) (hb : PW X (.BoolOp .And (y :: rest) pos) (tDT X.K F b)) : PW X (.BoolOp .And (l :: y :: rest) pos) (tDT X.K F (.and a b)) := by
  refine (pw_and ha hb).imp fun σ H Q ⟨H0, G0, G, en, R, sr, hw, hv⟩ => ?_
  have hw' : wpE F a en (fun x => boolOf x fun k => if k = true then wpE F b en fun y => boolOf y fun k => R k else R false) := hw
  refine ⟨H0, G0, G, en, _, sr, hw', fun k H1 G1 h1 x1 => ?_⟩
  cases k with
  | false => exact iteF (hv false H1 G1 h1 x1)
  | true => exact iteT ⟨H0, G0, G1, en, _, sr.ext x1, h1, fun b H2 G2 h2 x2 => hv b H2 G2 h2 (x1.trans x2)⟩
theorem t_or {a b : Ex} {l y : Expr} {rest : List Expr} {pos : Pos} (ha : PT X l (tDT X.K F a)) (hb : PW X (.BoolOp .Or (y :: rest) pos) (tDT X.K F b)) : PW X (.BoolOp .Or (l :: y :: rest) pos) (tDT X.K F (.or a b)) := by
  refine (pw_or ha hb).imp fun σ H Q ⟨H0, G0, G, en, R, sr, hw, hv⟩ => ?_
  have hw' : wpE F a en (fun x => boolOf x fun k => if k = true then R true else wpE F b en fun y => boolOf y fun k => R k) := hw
  refine ⟨H0, G0, G, en, _, sr, hw', fun k H1 G1 h1 x1 => ?_⟩
  cases k with
  | true => exact iteT (hv true H1 G1 h1 x1)
  | false => exact iteF ⟨H0, G0, G1, en, _, sr.ext x1, h1, fun b H2 G2 h2 x2 => hv b H2 G2 h2 (x1.trans x2)⟩
theorem t_not {a : Ex} {l : Expr} {pos : Pos} (ha : PT X l (tDT X.K F a)) : PT X (.UnaryOp .Not l pos) (tDT X.K F (.not a)) :=
  (pt_not ha).imp fun σ H Q ⟨H0, G0, G, en, R, sr, hw, hv⟩ => ⟨H0, G0, G, en, fun k => R (!k), sr, hw, fun k H1 G1 h1 x1 => hv (!k) H1 G1 h1 x1⟩
theorem t_val {a : Ex} {e : Expr} (ha : PE X e (tDB X.K F a)) (hp : plainT e = true) : PT X e (tDT X.K F a) :=
  (pt_val ha (plain_of hp)).imp fun σ H Q ⟨H0, G0, G, en, R, sr, hw, hv⟩ => ⟨H0, G0, G, en, _, sr, hw, fun v H1 G1 d h1 x1 r1 => by
    cases d with
    | bool k => exact ⟨k, r1.bl, hv k H1 G1 h1 x1⟩
    | _ => exact False.elim h1⟩
theorem e_ite {c a b : Ex} {t l r : Expr} {pos : Pos} (hc : PT X t (tDT X.K F c)) (ha : PE X l (tDE X.K F a)) (hb : PE X r (tDE X.K F b)) : PE X (.IfExp t l r pos) (tDE X.K F (.ite c a b)) := by
  refine (pe_ifExp hc ha hb).imp fun σ H Q ⟨H0, G0, G, en, R, sr, hw, hv⟩ => ?_
  have hw' : wpE F c en (fun x => boolOf x fun k => if k = true then wpE F a en R else wpE F b en R) := hw
  refine ⟨H0, G0, G, en, _, sr, hw', fun k H1 G1 h1 x1 => ?_⟩
  cases k with
  | true => exact iteT ⟨H0, G0, G1, en, R, sr.ext x1, h1, hv.ext x1⟩
  | false => exact iteF ⟨H0, G0, G1, en, R, sr.ext x1, h1, hv.ext x1⟩
/-- subscripts -/
theorem e_idx {a b : Ex} {l r : Expr} {pos : Pos} (hu : X.A.units + 65 < cLine) (hs : notSlice r = true) (ha : PE X l (tDB X.K F a)) (hb : PE X r (tDB X.K F b)) : PE X (.Subscript l r pos) (tDE X.K F (.idx a b)) :=
  (pe_ix (ix_D hu) ha hb (plainIx_of hs)).imp fun σ H Q ⟨H0, G0, G, en, R, sr, hw, hv⟩ => ⟨H0, G0, G, en, _, sr, hw, fun v H1 G1 d1 h1 x1 r1 => ⟨H0, G0, G1, en, _, sr.ext x1, h1, fun w H2 G2 d2 h2 x2 r2 =>
    ⟨G2, d1, d2, R, x2.sub, r1.ext x2, r2, h2, (hv.ext x1).ext x2⟩⟩⟩
theorem e_slcL {a b : Ex} {l r : Expr} {pos p2 : Pos} (ha : PE X l (tDB X.K F a)) (hb : PE X r (tDB X.K F b)) : PE X (.Subscript l (.Slice (some r) none none p2) pos) (tDX X.K F (.slcL a b)) :=
  (pe_slice sl_D ha (po_some hb) po_none).imp fun σ H Q ⟨H0, G0, G, en, R, sr, hw, hv⟩ => ⟨H0, G0, G, en, _, sr, hw, fun v H1 G1 d1 h1 x1 r1 => ⟨H0, G0, G1, en, _, sr.ext x1, h1, fun w H2 G2 d2 h2 x2 r2 => by
    cases d2 with
    | int i => exact ⟨i, r2.int, G2, d1, R, x2.sub, r1.ext x2, h2, (hv.ext x1).ext x2⟩
    | _ => exact False.elim h2⟩⟩
theorem e_slcH {a b : Ex} {l r : Expr} {pos p2 : Pos} (ha : PE X l (tDB X.K F a)) (hb : PE X r (tDB X.K F b)) : PE X (.Subscript l (.Slice none (some r) none p2) pos) (tDX X.K F (.slcH a b)) :=
  (pe_slice sl_D ha po_none (po_some hb)).imp fun σ H Q ⟨H0, G0, G, en, R, sr, hw, hv⟩ => ⟨H0, G0, G, en, _, sr, hw, fun v H1 G1 d1 h1 x1 r1 => ⟨H0, G0, G1, en, _, sr.ext x1, h1, fun w H2 G2 d2 h2 x2 r2 => by
    cases d2 with
    | int i => exact ⟨i, r2.int, G2, d1, R, x2.sub, r1.ext x2, h2, (hv.ext x1).ext x2⟩
    | _ => exact False.elim h2⟩⟩
theorem e_slcLH {a b c : Ex} {l r q : Expr} {pos p2 : Pos} (ha : PE X l (tDB X.K F a)) (hb : PE X r (tDB X.K F b)) (hc : PE X q (tDB X.K F c)) : PE X (.Subscript l (.Slice (some r) (some q) none p2) pos) (tDX X.K F (.slcLH a b c)) :=
  (pe_slice sl_D ha (po_some hb) (po_some hc)).imp fun σ H Q ⟨H0, G0, G, en, R, sr, hw, hv⟩ => ⟨H0, G0, G, en, _, sr, hw, fun v H1 G1 d1 h1 x1 r1 => ⟨H0, G0, G1, en, _, sr.ext x1, h1, fun w H2 G2 d2 h2 x2 r2 => by
    cases d2 with
    | int i =>
      refine ⟨i, r2.int, H0, G0, G2, en, _, (sr.ext x1).ext x2, h2, fun z H3 G3 d3 h3 x3 r3 => ?_⟩
      cases d3 with
      | int j => exact ⟨j, r3.int, G3, d1, R, x3.sub, (r1.ext x2).ext x3, h3, ((hv.ext x1).ext x2).ext x3⟩
      | _ => exact False.elim h3
    | _ => exact False.elim h2⟩⟩
theorem e_rev {a : Ex} {e : Expr} {k : Nat} {p1 p2 p3 pos : Pos} (ha : PE X e (tDB X.K F a)) : PE X (.Subscript e (.Slice none none (some (.UnaryOp .USub (.Constant (.int 1) k p1) p2)) p3) pos) (tDX X.K F (.rev a)) :=
  (pe_revD ha).imp fun σ H Q ⟨H0, G0, G, en, R, sr, hw, hv⟩ => ⟨H0, G0, G, en, _, sr, hw, fun v H1 G1 d1 h1 x1 r1 => ⟨G1, d1, R, x1.sub, r1, h1, hv.ext x1⟩⟩
/-- lists of expressions -/
theorem a_nil : PA X [] (tDA X.K F .nil) := pa_nil.imp fun σ H Q ⟨H0, G0, G, en, R, sr, hw, hv⟩ => hv [] H G [] hw (.refl sr.x.sub) .nil rfl
theorem a_cons {a : Ex} {es : Exs} {e : Expr} {l : List Expr} (hs : notStar e = true) (ha : PE X e (tDE X.K F a)) (hr : PA X l (tDA X.K F es)) : PA X (e :: l) (tDA X.K F (.cons a es)) :=
  (pa_cons ha hr (star_of hs)).imp fun σ H Q ⟨H0, G0, G, en, R, sr, hw, hv⟩ => ⟨H0, G0, G, en, _, sr, hw, fun v H1 G1 d1 h1 x1 r1 => ⟨H0, G0, G1, en, _, sr.ext x1, h1, fun vs H2 G2 ds h2 x2 r2 hn =>
    hv _ H2 G2 _ h2 (x1.trans x2) (.cons (r1.mono x2.gg) r2) (congrArg (· + 1) hn)⟩⟩
theorem ab_nil : PA X [] (tDAB X.K F .nil) := pa_nil.imp fun σ H Q ⟨H0, G0, G, en, R, sr, hw, hv⟩ => hv [] H G [] hw (.refl sr.x.sub) .nil
theorem ab_cons {a : Ex} {es : Exs} {e : Expr} {l : List Expr} (hs : notStar e = true) (ha : PE X e (tDB X.K F a)) (hr : PA X l (tDAB X.K F es)) : PA X (e :: l) (tDAB X.K F (.cons a es)) :=
  (pa_cons ha hr (star_of hs)).imp fun σ H Q ⟨H0, G0, G, en, R, sr, hw, hv⟩ => ⟨H0, G0, G, en, _, sr, hw, fun v H1 G1 d1 h1 x1 r1 => ⟨H0, G0, G1, en, _, sr.ext x1, h1, fun vs H2 G2 ds h2 x2 r2 =>
    hv _ H2 G2 _ h2 (x1.trans x2) (.cons (r1.ext x2) r2)⟩⟩
theorem e_tup {es : Exs} {l : List Expr} {k : Nat} {pos : Pos} (h : PA X l (tDA X.K F es)) (hz : es.len ≤ sizeLine) : PE X (.Tuple l k pos) (tDX X.K F (.tup es)) :=
  (pe_tup h).imp fun σ H Q ⟨H0, G0, G, en, R, sr, hw, hv⟩ => ⟨H0, G0, G, en, _, sr, hw, fun vs H1 G1 ds h1 x1 r1 hn => ⟨by rw [hn]; exact hz, fun p hp => (hv.ext x1).tup x1.sub h1 hp r1⟩⟩
theorem e_lst {es : Exs} {l : List Expr} {pos : Pos} (h : PA X l (tDA X.K F es)) (hz : es.len ≤ sizeLine) : PE X (.List l pos) (tDX X.K F (.lst es)) :=
  (pe_lst h).imp fun σ H Q ⟨H0, G0, G, en, R, sr, hw, hv⟩ => ⟨H0, G0, G, en, _, sr, hw, fun vs H1 G1 ds h1 x1 r1 hn => ⟨by rw [hn]; exact hz, fun p hp => (hv.ext x1).lst x1.sub h1 hp r1⟩⟩
/-- dicts -/
theorem VX.dic {K : PySem.W.Frag} {G H : Hp} {R : D → Prop} {Q : VK} {p : Addr} {kvs : List (List Key × V)} {dk : List (D × D)} (h : VX K G H R Q) (s : Sub G H) (r : R (.dict dk)) (hp : H p = none) (rep : RepKV K G kvs dk) : Q (.ref p) (upd H p (.dT kvs)) :=
  h _ _ G _ r (Ext.laid s hp) (.inl ⟨rfl, p, rfl, hp, s.none hp, kvs, upd_same, rep⟩)
theorem e_dic0 {pos : Pos} : PE X (.Dict [] [] pos) (tDX X.K F .dic0) := pe_dnewT.imp fun σ H Q ⟨H0, G0, G, en, R, sr, hw, hv⟩ => fun p hp => hv.dic sr.x.sub hw hp .nil
theorem e_dic1 {k v : Ex} {ke ve : Expr} {pos : Pos} (hu : X.A.units + 65 < cLine) (hk : PE X ke (tDE X.K F k)) (hv : PE X ve (tDE X.K F v)) : PE X (.Dict [some ke] [ve] pos) (tDX X.K F (.dic1 k v)) := by
  refine ⟨fun pins s σ H Q I ⟨H0, G0, G, en, R, sr, hw, hq⟩ => ?_⟩
  have hn := I.hok.fresh (Nat.le_refl s.heap.objs.size)
  have I1 := I.laid (a := s.heap.objs.size) (o := .dT []) (h' := s.heap.push { cls := .type "dict", data := .dict #[] }) (t' := s.toks) (fun _ _ q => Heap.get?_push_of_some _ q) (Nat.le_refl _) (dt_empty s.heap I.big)
  have x0 : Ext G H G (upd H s.heap.objs.size (.dT [])) := Ext.laid sr.x.sub hn
  have hpp : PPs X pos [some ke] [ve] [(tDE X.K F k, tDE X.K F v)] := pps_cons hk hv pps_nil
  have hshape := zip_pairTrees [some ke] [ve] X.env pos rfl rfl
  rw [arm_eval_Dict, hshape, dictDisplay_pairs _ (by simp [pairTrees]) (by simp [pairTrees])]
  refine wpAny_bind (wpAny_standAt (wpAny_bind (wpAny_subDictH (knd := tupleKind (mixKind X.prog X.w)) (Q := fun d s' => wpAny (model X.prog X.w) X.A (pure (Value.ref d)) (EP X pins σ Q) X.xe s') (show X.A.units < cLine by omega) (by simp [pairTrees]) ?_)))
  refine thn (hpp.run pins _ σ _ (fun (ps : List (V × V)) H' => ∃ G' x y d1 d2, (isKey d1 = true ∧ R (.dict [(d1, d2)])) ∧ Ext G (upd H s.heap.objs.size (.dT [])) G' H' ∧ Rep X.K G' x d1 ∧ Rep X.K G' y d2 ∧ ps = [(x, y)]) I1
    ⟨H0, G0, G, en, _, sr.ext x0, hw, fun x H1 G1 d1 h1 x1 r1 => ⟨H0, G0, G1, en, _, (sr.ext x0).ext x1, h1, fun y H2 G2 d2 h2 x2 r2 =>
      ⟨G2, x, y, d1, d2, h2, x1.trans x2, r1.mono x2.gg, r2, rfl⟩⟩⟩) fun ws s2 ⟨ps, H2, I2, rel, e⟩ => ?_
  obtain ⟨G', x, y, d1, d2, ⟨hkey, hr⟩, xt, r1, r2, rfl⟩ := e
  have hp2 : H2 s.heap.objs.size = some (.dT []) := xt.hh _ _ upd_same
  obtain ⟨b, kk, rfl, gb, hb, rfl⟩ := (RdD.key xt.sub (.inl r1) hkey : _)
  obtain ⟨u2, rfl, rr2⟩ : ∃ u2, ws = [(Value.ref b, u2)] ∧ RelV y u2 := by
    cases rel with
    | @cons a w0 as bs rr rn =>
      cases rn
      obtain ⟨u1, u2⟩ := w0
      exact ⟨u2, by rw [show u1 = Value.ref b from rr.1], rr.2⟩
  obtain ⟨z, hd, xs0, rel0, dd⟩ := dt_of I2.hok hp2
  cases rel0
  refine ⟨[(kk, b, u2)], ⟨rfl, rfl, key_of I2.hok hb, trivial⟩, dd, fun h' tk dd' hs => wpAny_pure ?_⟩
  have est : storedAllH ([] : List (List Key × Addr × Value)) [(kk, b, u2)] = [(kk, b, u2)] := by
    unfold storedAllH
    rw [List.foldl_cons, List.foldl_nil, storedH_new (by rfl)]
    rfl
  rw [est] at dd'
  obtain ⟨q, es', ep', hq1, h2, h3, h4, _, h5⟩ := dd'
  have new : ObjOk X.prog X.w (upd H2 s.heap.objs.size (.dT [(kk, y)])) h' s.heap.objs.size (.dT [(kk, y)]) := by
    refine ⟨by show 1 ≤ sizeLine; decide, hd, [(kk, b, u2)], .cons ⟨rfl, ?_, rr2⟩ .nil, q, es', ep', hq1, h2, h3, h4, h5⟩
    rw [upd_ne (ne_of hb hp2 (fun z => nomatch z))]
    exact hb
  refine ⟨.ref s.heap.objs.size, _, d_write I2 (by rw [hp2]; trivial) hs ⟨q, hq1⟩ new, rfl, ?_⟩
  have gp : G' s.heap.objs.size = none := by
    cases e : G' s.heap.objs.size with
    | none => rfl
    | some o =>
      rcases xt.new _ _ e with e' | e' | ⟨ys, e'⟩
      · rw [sr.x.sub.none hn] at e'; cases e'
      · rw [upd_same] at e'; cases e'
      · rw [upd_same] at e'; cases e'
  have x : Ext G H G' H2 := x0.trans xt
  refine hq _ _ G' _ hr ⟨x.gg, fun c o h => ?_, fun c o h => ?_, x.new⟩ (.inl ⟨rfl, _, rfl, hn, gp, [(kk, y)], upd_same, .cons r2 .nil⟩)
  · rw [upd_ne (ne_of_none h hn)]; exact x.hh _ _ h
  · rw [upd_ne (ne_of_none h gp)]; exact x.sub _ _ h
end
end Z

namespace Z
open PySem PySem.Spec PyProof.Rows L2
def starsB : List Expr → Bool
  | [] => true
  | e :: es => notStar e && starsB es
theorem stars_plain : ∀ {es : List Expr} {env : Env} {pos : Pos}, starsB es = true → (backTo pos (starEach es env)).any (·.1) = false
  | [], _, _, _ => rfl
  | e :: es, env, pos, h => by
    unfold starsB at h
    rw [Bool.and_eq_true] at h
    rw [star_of h.1]
    show (false || (backTo pos (starEach es env)).any (·.1)) = false
    rw [stars_plain h.2]
    rfl
def tDC (K : PySem.W.Frag) (F : FT) (ex : Ex) (fr : Bool) : TE := fun σ H Q => ∃ H0 G0 G en R, SR K H0 G0 G H σ en ∧ wpE F ex en R ∧ (if fr = true then VX K G H R Q else VP K G H R Q)
section
variable {X : Cx} {F : FT} {sc : Scope} {N : List Str} {fs : List (String × Nat × Bool)}
theorem gl_at {x : Str} (h : Here X sc N) (g : glB sc x = true) : Gl X x := by
  show X.env.scope.names.lookup x = _
  rw [h.sc]
  exact gl_of g
/-- calls of the text's own functions -/
theorem e_callG {f : String} {es : Exs} {e : Expr} {l : List Expr} {x : Str} {p pos : Pos} {fr : Bool} (h : Here X sc N) (am : Amb X F fs) (hf : (f, es.len, fr) ∈ fs) (hx : x = Str.ofString f) (g : glB sc x = true) (ok : okName x = true)
    (hs : starsB (e :: l) = true) (ha : PA X (e :: l) (tDA X.K F es)) : PE X (.Call (.Name x p) (e :: l) [] pos) (tDC X.K F (.call f es) fr) := by
  obtain ⟨k, fa, fd, ps, hn0, FO, hr, hm, hk, hb⟩ := (am.fn _ hf).ex
  have hs' : notStar e = true ∧ starsB l = true := by
    unfold starsB at hs
    rwa [Bool.and_eq_true] at hs
  subst hx
  refine (pe_call FO hr (gl_at h g) hm hk hb .nil pass0 ha (okName_of ok).1 (star_of hs'.1) (stars_plain hs'.2)).imp fun σ H Q ⟨H0, G0, G, en, R, sr, hw, hv⟩ => ?_
  have hw' : wpEs F es en fun ds => F f ds R := hw
  refine ⟨H0, G0, G, en, _, sr, hw', fun vs H1 G1 ds h1 x1 r1 hn => ?_⟩
  refine ⟨G1, ds, R, by rw [List.append_nil]; exact hn, x1.sub, by rw [List.append_nil]; exact r1, h1, ?_⟩
  cases fr with
  | true => exact VX.ext hv x1
  | false => exact VP.ext hv x1
theorem e_callG0 {f : String} {x : Str} {p pos : Pos} {fr : Bool} (h : Here X sc N) (am : Amb X F fs) (hf : (f, 0, fr) ∈ fs) (hx : x = Str.ofString f) (g : glB sc x = true) (ok : okName x = true) :
    PE X (.Call (.Name x p) [] [] pos) (tDC X.K F (.call f .nil) fr) := by
  obtain ⟨k, fa, fd, ps, hn0, FO, hr, hm, hk, hb⟩ := (am.fn _ hf).ex
  subst hx
  refine (pe_call0 FO hr (gl_at h g) hm hk hb .nil pass0 (okName_of ok).1).imp fun σ H Q ⟨H0, G0, G, en, R, sr, hw, hv⟩ => ?_
  have hw' : F f [] R := hw
  refine ⟨G, [], R, rfl, sr.x.sub, .nil, hw', ?_⟩
  cases fr with
  | true => exact hv
  | false => exact hv
theorem pe_c {ex : Ex} {e : Expr} {fr : Bool} (h : PE X e (tDC X.K F ex fr)) : PE X e (tDE X.K F ex) := h.imp fun σ H Q ⟨H0, G0, G, en, R, sr, hw, hv⟩ => ⟨H0, G0, G, en, R, sr, hw, by
  cases fr with
  | true => exact hv.x
  | false => exact hv⟩
/-- built-ins -/
theorem blN_in (b : Bl) : blN b ∈ builtinNames := by cases b <;> decide
theorem boot_bl (b : Bl) : bootBuiltins (Str.ofString (blN b)) = some (blV b) := by cases b <;> decide +kernel
theorem e_blt {b : Bl} {es : Exs} {e : Expr} {l : List Expr} {x : Str} {p pos : Pos} (h : Here X sc N) (am : Amb X F fs) (hx : x = Str.ofString (blN b)) (g : glB sc x = true) (ok : okName x = true)
    (hs : starsB (e :: l) = true) (ha : PA X (e :: l) (tDAB X.K F es)) : PE X (.Call (.Name x p) (e :: l) [] pos) (tDX X.K F (.blt b es)) := by
  have hs' : notStar e = true ∧ starsB l = true := by
    unfold starsB at hs
    rwa [Bool.and_eq_true] at hs
  have cr := cr_B (X := X) am.calm am.un b
  have hm : X.mg x = none := by rw [hx]; exact am.blt _ (blN_in b)
  have hv : bootBuiltins x = some (blV b) := by rw [hx]; exact boot_bl b
  have fin : ∀ {Q : VK} {σ H}, tDX X.K F (.blt b es) σ H Q → tCB (rCB X.K b) (tDAB X.K F es) σ H Q := fun {Q σ H} ⟨H0, G0, G, en, R, sr, hw, hv⟩ => by
    have hw' : wpEs F es en fun ds => bltW b ds R := hw
    exact ⟨H0, G0, G, en, _, sr, hw', fun vs H1 G1 ds h1 x1 r1 => ⟨G1, ds, R, x1.sub, r1, h1, hv.ext x1⟩⟩
  obtain ⟨o1, o2, o3⟩ := okName_of ok
  cases b with
  | len => exact (pe_callB cr (gl_at h g) hm hv ha o3 o1 (star_of hs'.1) (stars_plain hs'.2)).imp fun _ _ _ q => fin q
  | max => exact (pe_callB cr (gl_at h g) hm hv ha o3 o1 (star_of hs'.1) (stars_plain hs'.2)).imp fun _ _ _ q => fin q
  | min => exact (pe_callB cr (gl_at h g) hm hv ha o3 o1 (star_of hs'.1) (stars_plain hs'.2)).imp fun _ _ _ q => fin q
  | sum => exact (pe_callB cr (gl_at h g) hm hv ha o3 o1 (star_of hs'.1) (stars_plain hs'.2)).imp fun _ _ _ q => fin q
  | all => exact (pe_callB cr (gl_at h g) hm hv ha o3 o1 (star_of hs'.1) (stars_plain hs'.2)).imp fun _ _ _ q => fin q
  | list => exact (pe_callTy cr (gl_at h g) hm hv ha o3 o1 (star_of hs'.1) (stars_plain hs'.2)).imp fun _ _ _ q => fin q
  | tuple => exact (pe_callTy cr (gl_at h g) hm hv ha o3 o1 (star_of hs'.1) (stars_plain hs'.2)).imp fun _ _ _ q => fin q
  | int => exact (pe_callTy cr (gl_at h g) hm hv ha o3 o1 (star_of hs'.1) (stars_plain hs'.2)).imp fun _ _ _ q => fin q
  | bool => exact (pe_callTy cr (gl_at h g) hm hv ha o3 o1 (star_of hs'.1) (stars_plain hs'.2)).imp fun _ _ _ q => fin q
/-- isinstance -/
theorem tyS_in (t : Ty) : tyS t ∈ builtinNames := by cases t <;> decide
theorem boot_ty (t : Ty) : bootBuiltins (Str.ofString (tyS t)) = some (.type (tyS t)) := by cases t <;> decide +kernel
theorem boot_isi : bootBuiltins (Str.ofString "isinstance") = some (.builtin "isinstance") := by decide +kernel
def tyName (sc : Scope) (t : Ty) : Expr → Bool
  | .Name x _ => decide (x = Str.ofString (tyS t)) && glB sc x && okName x
  | _ => false
def tyNames (sc : Scope) : List Ty → List Expr → Bool
  | [], [] => true
  | t :: ts, e :: es => tyName sc t e && tyNames sc ts es
  | _, _ => false
theorem pe_ty {t : Ty} {e : Expr} (h : Here X sc N) (am : Amb X F fs) (hc : tyName sc t e = true) : PE X e (tC (.ty (tyS t))) := by
  cases e with
  | Name x pos =>
    unfold tyName at hc
    simp only [Bool.and_eq_true, decide_eq_true_eq] at hc
    obtain ⟨⟨rfl, g⟩, ok⟩ := hc
    obtain ⟨o1, o2, o3⟩ := okName_of ok
    exact pe_bltn (gl_at h g) (am.blt _ (tyS_in t)) (boot_ty t) rfl o3 o1
  | _ => cases hc
theorem tyName_star {t : Ty} {e : Expr} (hc : tyName sc t e = true) : notStar e = true := by
  cases e <;> first | rfl | cases hc
theorem pa_ty (h : Here X sc N) (am : Amb X F fs) : ∀ {ts : List Ty} {es : List Expr}, tyNames sc ts es = true → PA X es (fun _ H Q => Q (ts.map fun t => V.ty (tyS t)) H)
  | [], [], _ => pa_nil
  | t :: ts, e :: es, hc => by
    unfold tyNames at hc
    rw [Bool.and_eq_true] at hc
    exact pa_cons (pe_ty h am hc.1) (pa_ty h am hc.2) (star_of (tyName_star hc.1))
  | [], _ :: _, hc => by cases hc
  | _ :: _, [], hc => by cases hc
theorem e_isi1 {a : Ex} {t : Ty} {e c : Expr} {x : Str} {p pos : Pos} (h : Here X sc N) (am : Amb X F fs) (hx : x = Str.ofString "isinstance") (g : glB sc x = true) (ok : okName x = true) (hs : notStar e = true) (hc : tyName sc t c = true)
    (ha : PE X e (tDB X.K F a)) : PE X (.Call (.Name x p) [e, c] [] pos) (tDX X.K F (.isi a [t])) := by
  obtain ⟨o1, o2, o3⟩ := okName_of ok
  have hst : starsB [c] = true := by unfold starsB; rw [tyName_star hc]; rfl
  refine (pe_callB (call_isD1 t) (gl_at h g) (by rw [hx]; exact am.blt _ (by decide)) (by rw [hx]; exact boot_isi) (pa_cons ha (pa_cons (pe_ty h am hc) pa_nil (star_of (tyName_star hc))) (star_of hs)) o3 o1 (star_of hs) (stars_plain hst)).imp fun σ H Q ⟨H0, G0, G, en, R, sr, hw, hv⟩ => ?_
  refine ⟨H0, G0, G, en, _, sr, hw, fun v H1 G1 d h1 x1 r1 => ⟨G1, v, d, _, rfl, x1.sub, r1, h1, fun hr => ?_⟩⟩
  have e : ([t].any fun t => isTy t d) = isTy t d := by simp
  rw [e] at hr
  exact (hv.ext x1).now x1.sub hr rfl (.bl _)
theorem e_isiT {a : Ex} {ts : List Ty} {e : Expr} {cs : List Expr} {x : Str} {k : Nat} {p p2 pos : Pos} (h : Here X sc N) (am : Amb X F fs) (hx : x = Str.ofString "isinstance") (g : glB sc x = true) (ok : okName x = true) (hs : notStar e = true)
    (hc : tyNames sc ts cs = true) (hl : ts.length ≤ sizeLine) (ha : PE X e (tDB X.K F a)) : PE X (.Call (.Name x p) [e, .Tuple cs k p2] [] pos) (tDX X.K F (.isi a ts)) := by
  obtain ⟨o1, o2, o3⟩ := okName_of ok
  refine (pe_callB (call_isDT ts) (gl_at h g) (by rw [hx]; exact am.blt _ (by decide)) (by rw [hx]; exact boot_isi) (pa_cons ha (pa_cons (pe_tup (pa_ty h am hc)) pa_nil (star_of rfl)) (star_of hs)) o3 o1 (star_of hs) (stars_plain rfl)).imp fun σ H Q ⟨H0, G0, G, en, R, sr, hw, hv⟩ => ?_
  refine ⟨H0, G0, G, en, _, sr, hw, fun v H1 G1 d h1 x1 r1 => ⟨by rw [List.length_map]; exact hl, fun tp hp => ?_⟩⟩
  have x2 : Ext G1 H1 G1 (upd H1 tp (.tup (ts.map fun t => V.ty (tyS t)))) := Ext.laid x1.sub hp
  exact ⟨G1, v, tp, d, _, rfl, upd_same, x2.sub, r1.ext x2, h1, fun hr => ((hv.ext x1).ext x2).now x2.sub hr rfl (.bl _)⟩
/-- methods -/
theorem e_index {a b : Ex} {o e : Expr} {apos cpos : Pos} (hn : notCall o = true) (hl : (apos.endLine == cpos.line) = true) (hs : notStar e = true) (ha : PE X o (tDB X.K F a)) (hb : PE X e (tDB X.K F b)) :
    PE X (.Call (.Attribute o (Str.ofString "index") apos) [e] [] cpos) (tDE X.K F (.mt .index a (.cons b .nil))) := by
  refine (pe_bm PySem.F.plainAttrs_list PySem.F.slot_list_index PySem.F.type_list_index mt_idxD ha (ab_cons hs hb ab_nil) (base_of hn) (by rw [star_of hs]; rfl) hl (star_of hs) (stars_plain rfl)).imp fun σ H Q ⟨H0, G0, G, en, R, sr, hw, hv⟩ => ?_
  have hw' : wpE F a en fun x => recvB .index x = true ∧ wpE F b en fun y => mtW .index x [y] R := hw
  refine ⟨H0, G0, G, en, _, sr, hw', fun v H1 G1 d1 h1 x1 r1 => ?_⟩
  cases d1 with
  | list ds =>
    obtain ⟨l, ys, rfl, hq, a1⟩ := r1.lst x1.sub
    refine ⟨.inl ⟨rfl, ys, hq⟩, H0, G0, G1, en, (fun es => mtW .index (.list ds) es R), sr.ext x1, h1.2, fun vs H2 G2 es h2 x2 r2 => ?_⟩
    rcases es with _ | ⟨y, _ | ⟨y2, es⟩⟩
    · exact False.elim h2
    · obtain ⟨w, rfl, r3⟩ := r2.one
      cases y with
      | int i =>
        obtain ⟨ns, rfl, hi, hr⟩ := h2
        exact ⟨G2, _, w, _, i, ns, R, rfl, x2.sub, r1.ext x2, r3, rfl, hi, hr, rfl, (hv.ext x1).ext x2⟩
      | _ => exact False.elim h2
    · exact False.elim (by cases y <;> simpa [mtW] using h2)
  | _ => exact absurd h1.1 (by simp [recvB])
theorem e_get {a b c : Ex} {o e f : Expr} {apos cpos : Pos} (hu : X.A.units + 65 < cLine) (hn : notCall o = true) (hl : (apos.endLine == cpos.line) = true) (hs : notStar e = true) (hs2 : notStar f = true) (ha : PE X o (tDB X.K F a)) (hb : PE X e (tDE X.K F b)) (hc : PE X f (tDE X.K F c)) :
    PE X (.Call (.Attribute o (Str.ofString "get") apos) [e, f] [] cpos) (tDE X.K F (.mt .get a (.cons b (.cons c .nil)))) := by
  have hm : M2 X o (Str.ofString "get") apos e f cpos := by
    refine ⟨base_of hn, ?_, hl, ?_⟩
    · rw [star_of hs, star_of hs2]; rfl
    · rw [star_of hs, star_of hs2]; rfl
  refine (pe_dget2 (by omega) ha hb hc hm).imp fun σ H Q ⟨H0, G0, G, en, R, sr, hw, hv⟩ => ?_
  have hw' : wpE F a en fun x => recvB .get x = true ∧ wpE F b en fun y => wpE F c en fun z => mtW .get x [y, z] R := hw
  refine ⟨H0, G0, G, en, _, sr, hw', fun v H1 G1 d1 h1 x1 r1 => ?_⟩
  cases d1 with
  | dict dk =>
    obtain ⟨l, kvs, rfl, hq, a1⟩ := r1.dic x1.sub
    refine ⟨l, rfl, .inr ⟨kvs, hq⟩, H0, G0, G1, en, _, sr.ext x1, h1.2, fun w H2 G2 d2 h2 x2 r2 => ⟨H0, G0, G2, en, _, (sr.ext x1).ext x2, h2, fun z H3 G3 d3 h3 x3 r3 => ?_⟩⟩
    obtain ⟨hk, hr⟩ := h3
    obtain ⟨b, kk, rfl, gb, hb, rfl⟩ := RdD.key x2.sub (.inl r2) hk
    obtain ⟨l', kvs', e', hq', a'⟩ := ((r1.ext x2).ext x3).dic x3.sub
    cases e'
    have hb3 : H3 b = some (.tup (kk.map kV)) := x3.hh _ _ hb
    refine ⟨valV kvs' kk, .inr ⟨kvs', kk, b, hq', rfl, hb3, rfl⟩, ?_⟩
    rcases a'.get kk with ⟨w, d, e1, e2, e3⟩ | ⟨e1, e2⟩
    · rw [e1]
      rw [e2] at hr
      exact (((hv.ext x1).ext x2).ext x3).now x3.sub hr e3
    · rw [e1]
      rw [e2] at hr
      exact (((hv.ext x1).ext x2).ext x3).now x3.sub hr r3
  | _ => exact absurd h1.1 (by simp [recvB])
/-- list(range(..)) -/
theorem rgV_rep {K : PySem.W.Frag} {G : Hp} (a b : Int) : RepAll K G (rgV a b) (rngD a (b - a).toNat) := by
  unfold rgV rngD
  induction List.range (b - a).toNat with
  | nil => exact .nil
  | cons n ns ih => rw [List.map_cons, List.map_cons]; exact .cons (.int _) ih
theorem e_lrng1 {a : Ex} {e : Expr} {x y : Str} {p p2 pos pos2 : Pos} (h : Here X sc N) (am : Amb X F fs) (hx : x = Str.ofString "list") (g : glB sc x = true) (hy : y = Str.ofString "range") (g2 : glB sc y = true) (hs : notStar e = true) (ha : PE X e (tDB X.K F a)) :
    PE X (.Call (.Name x p) [.Call (.Name y p2) [e] [] pos2] [] pos) (tDX X.K F (.lrng1 a)) := by
  subst hx hy
  refine (pe_listRg am.calm (gl_at h g) (am.blt "list" (by decide)) (prg_1 (gl_at h g2) (am.blt "range" (by decide)) ha (star_of hs)) (star_of rfl)).imp fun σ H Q ⟨H0, G0, G, en, R, sr, hw, hv⟩ => ?_
  refine ⟨H0, G0, G, en, _, sr, hw, fun v H1 G1 d1 h1 x1 r1 => ?_⟩
  cases d1 with
  | int i =>
    obtain ⟨⟨⟨s1, s2⟩, s3⟩, hr⟩ := h1
    have e0 : (i - 0).toNat = i.toNat := by omega
    have hr' : R (.list (rngD 0 (i - 0).toNat)) := by rw [e0]; exact hr
    refine ⟨i, r1.int, ⟨by omega, by omega, s1, s2, by rw [e0]; exact s3⟩, fun q hq => (hv.ext x1).lst x1.sub hr' hq (rgV_rep 0 i)⟩
  | _ => exact False.elim h1
theorem e_lrng2 {a b : Ex} {e f : Expr} {x y : Str} {p p2 pos pos2 : Pos} (h : Here X sc N) (am : Amb X F fs) (hx : x = Str.ofString "list") (g : glB sc x = true) (hy : y = Str.ofString "range") (g2 : glB sc y = true) (hs : notStar e = true) (hs2 : notStar f = true)
    (ha : PE X e (tDB X.K F a)) (hb : PE X f (tDB X.K F b)) : PE X (.Call (.Name x p) [.Call (.Name y p2) [e, f] [] pos2] [] pos) (tDX X.K F (.lrng2 a b)) := by
  subst hx hy
  have hst : starsB [f] = true := by unfold starsB; rw [hs2]; rfl
  refine (pe_listRg am.calm (gl_at h g) (am.blt "list" (by decide)) (prg_2 (gl_at h g2) (am.blt "range" (by decide)) ha hb (star_of hs) (star_of hs2) (stars_plain hst)) (star_of rfl)).imp fun σ H Q ⟨H0, G0, G, en, R, sr, hw, hv⟩ => ?_
  refine ⟨H0, G0, G, en, _, sr, hw, fun v H1 G1 d1 h1 x1 r1 => ?_⟩
  cases d1 with
  | int i =>
    refine ⟨H0, G0, G1, en, _, sr.ext x1, h1, fun w H2 G2 d2 h2 x2 r2 => ?_⟩
    cases d2 with
    | int j =>
      obtain ⟨⟨⟨s1, s2⟩, ⟨s3, s4⟩, s5⟩, hr⟩ := h2
      exact ⟨i, j, r1.int, r2.int, ⟨s1, s2, s3, s4, s5⟩, fun q hq => ((hv.ext x1).ext x2).lst x2.sub hr hq (rgV_rep i j)⟩
    | _ => exact False.elim h2
  | _ => exact False.elim h1
end
end Z

namespace Z
open PySem PySem.Spec PyProof.Rows L2
/-! walks over a list or a tuple (k: a tuple) -/
def SqK (K : PySem.W.Frag) (H : Hp) (k : Bool) (a : Addr) (xs : List V) : Prop := if k = true then SqT K H a xs else SqL K H a xs
def IsIt (k : Bool) (h : Heap) (it a : Addr) (i : Nat) : Prop := if k = true then h.IsTupleIter it a i else h.IsListIter it a i
def IsSq (k : Bool) (h : Heap) (a : Addr) (items : Array Value) : Prop := if k = true then h.IsTuple a items else h.IsList a items
def itO (k : Bool) (a : Addr) : Obj := if k = true then { cls := .type "tuple_iterator", data := .fields #[.ref a, .int 0 0] } else { cls := .type "list_iterator", data := .fields #[.ref a, .int 0 0] }
theorem drawsK {prog : Program} {w : World} {A : Around} (hh : A.handled = none) (k : Bool) (it t : Addr) (hne : t ≠ it) (items : Array Value) :
    Draws prog w A it [it, t] items.size (fun i v => items[i]? = some v) (fun i h => IsIt k h it t i ∧ IsSq k h t items) := by
  cases k
  · exact Draws.list hh it t hne items
  · exact Draws.tuple hh it t hne items
theorem beginsK (k : Bool) (t : Addr) (items : Array Value) : Begins (.ref t) (itO k t) (fun h => IsSq k h t items) := by
  cases k
  · exact begins_list t items
  · exact begins_tuple t items
theorem IsIt.of {k : Bool} {h : Heap} {it a : Addr} (e : h.get? it = some (itO k a)) : IsIt k h it a 0 := by
  cases k
  · exact ⟨_, e, rfl, rfl⟩
  · exact ⟨_, e, rfl, rfl⟩
theorem IsIt.ob {k : Bool} {h : Heap} {it a : Addr} {i : Nat} (e : IsIt k h it a i) : ∃ o, h.get? it = some o ∧ ∀ v, o.data ≠ .cell v := by
  cases k
  · obtain ⟨o, ho, hc, hd⟩ := e; exact ⟨o, ho, fun v q => by rw [hd] at q; cases q⟩
  · obtain ⟨o, ho, hc, hd⟩ := e; exact ⟨o, ho, fun v q => by rw [hd] at q; cases q⟩
theorem IsIt.kp {k : Bool} {h h' : Heap} {it a : Addr} {i : Nat} (e : IsIt k h it a i) (hk : ∀ o, h.get? it = some o → h'.get? it = some o) : IsIt k h' it a i := by
  cases k
  · exact Heap.IsListIter.at e hk
  · obtain ⟨o, ho, r⟩ := e; exact ⟨o, hk o ho, r⟩
section
variable {X : Cx} {pins : List (Addr × Obj)} {σ : L2.St} {H : Hp} {s : Shared} {k : Bool} {a : Addr} {xs ys : List V}
theorem sqk (I : Inv X pins σ H s) (h : SqK X.K H k a xs) : ∃ its : List Value, Vals xs its ∧ IsSq k s.heap a its.toArray := by
  cases k
  · obtain ⟨its, rv, p, _⟩ := I.list h; exact ⟨its, rv, p.isList⟩
  · obtain ⟨its, rv, p, _⟩ := I.tuple h; exact ⟨its, rv, p⟩
theorem sqk_inj (I : Inv X pins σ H s) (h : SqK X.K H k a xs) (h' : SqK X.K H k a ys) : xs = ys := by
  cases k
  · exact I.list_inj h h'
  · exact I.tuple_inj h h'
theorem IsSq.lt {h : Heap} {items : Array Value} (e : IsSq k h a items) : a < h.objs.size := by
  cases k
  · obtain ⟨o, ho, _⟩ := e; exact Heap.lt_size ho
  · obtain ⟨o, ho, _⟩ := e; exact Heap.lt_size ho
end
/-- enumerate -/
def IteK (K : PySem.W.Frag) (k : Bool) (a : Addr) : It :=
  ⟨fun i H => ∃ (xs : List V) (x : V), SqK K H k a xs ∧ xs[i]? = some x, fun i H v H' => ∃ T x, v = .ref T ∧ H T = none ∧ H' = upd H T (.tup [.int (i : Nat), x]) ∧ ∀ xs, SqK K H k a xs → xs[i]? = some x, fun i H => ∃ xs : List V, SqK K H k a xs ∧ xs.length = i⟩
theorem turn_enumK {P : Program} {w : World} {K : PySem.W.Frag} {elts : List Expr} {kk : Nat} {tpos : Pos} (k : Bool) (a e it : Addr) (hei : e ≠ it) (hea : a ≠ e) (hai : a ≠ it) :
    Turn P w K (.Tuple elts kk tpos) (IteK K k a) [e, it] e (fun i h => (∃ old, IsEnum h e it ((i : Nat) : Int) old) ∧ IsIt k h it a i) where
  mem := by simp
  obj := fun i h st b hb => by
    obtain ⟨⟨old, he⟩, hi⟩ := st
    have e' : b = e ∨ b = it := by simpa using hb
    rcases e' with z | z
    · rw [z]; exact ⟨_, he, fun v q => nomatch q⟩
    · rw [z]; exact hi.ob
  keep := fun i h h' st k => let ⟨⟨old, he⟩, hi⟩ := st; ⟨⟨old, k e (by simp) _ he⟩, hi.kp fun o q => k it (by simp) o q⟩
  item := by
    intro X hP hw hK hc i pins s σ H E I hf st hg
    subst hP hw hK
    obtain ⟨⟨old, he⟩, hit⟩ := st
    obtain ⟨xs, x, hq, hx⟩ := hg
    obtain ⟨its, rv, p⟩ := sqk I hq
    obtain ⟨u, hu, ru⟩ := rv.get hx
    have hel : e < s.heap.objs.size := Heap.lt_size he
    have hil : it < s.heap.objs.size := by obtain ⟨_, q, _⟩ := hit.ob; exact Heap.lt_size q
    have hu' : its.toArray[i]? = some u := by simpa using hu
    have hlt : i < its.toArray.size := (Array.getElem?_eq_some_iff.mp hu').1
    refine wpAny_pyNext_enum_itemD (drawsK (A := X.A.in1) (prog := X.prog) (w := X.w) (show X.A.in1.handled = none from I.ok.hd hc) k it a hai its.toArray) he ⟨hit, p⟩ hlt hei (by simp [hei, Ne.symm hea]) fun x1 h' tk hPx ho hit' hT hsz hk => ?_
    rw [hu'] at hPx
    cases hPx
    refine ⟨_, rfl, wpAny_letOwnedTupleGo_enum (s := { s with heap := h', toks := tk + 1 }) ho fun h'' he' sb => ?_⟩
    have hT2 : h''.get? s.heap.objs.size = some { cls := .type "tuple", data := .seq #[.int i tk, u] } := (sb.2 _ (Nat.ne_of_gt hel)).trans hT
    have new : ObjOk X.prog X.w (upd H s.heap.objs.size (.tup [.int (i : Nat), x])) h'' s.heap.objs.size (.tup [.int (i : Nat), x]) :=
      ⟨by show 2 ≤ sizeLine; decide, [.int i tk, u], .cons ⟨_, rfl⟩ (.cons ru .nil), ⟨_, hT2, rfl, _, rfl⟩⟩
    have I1 : Inv X pins σ (upd H s.heap.objs.size (.tup [.int (i : Nat), x])) { s with heap := h'', toks := tk + 1 } :=
      I.turnedNew (ch := [e, it]) (fun b ob hb q => (sb.2 b (fun z => hb (by simp [z]))).trans (hk b ob (fun z => hb (by simp [z])) (fun z => hb (by simp [z])) q)) hf (Nat.le_refl _) new
    refine ⟨.ref s.heap.objs.size, _, I1, rfl, ⟨_, x, rfl, I.hok.fresh (Nat.le_refl _), rfl, fun ys hy => by rw [sqk_inj I hy hq]; exact hx⟩, ⟨⟨u, ?_⟩, hit'.1.kp fun o q => (sb.2 it (Ne.symm hei)).trans q⟩, fun b hb => ?_⟩
    · have e1 : ((i + 1 : Nat) : Int) = (i : Int) + 1 := by omega
      rw [e1]; exact he'
    · have hb' : b < s.heap.objs.size := by
        have e' : b = e ∨ b = it := by simpa using hb
        rcases e' with z | z
        · rw [z]; exact hel
        · rw [z]; exact hil
      rw [upd_ne (Nat.ne_of_lt hb')]
      exact (hf b hb).1
  done := by
    intro X hP hw hK hc i pins s σ H E I hf st hg
    subst hP hw hK
    obtain ⟨⟨old, he⟩, hit⟩ := st
    obtain ⟨xs, hq, hx⟩ := hg
    obtain ⟨its, rv, p⟩ := sqk I hq
    obtain ⟨f0, f1, f2, f3, f4, f5⟩ := hf it (by simp)
    have hl := rv.length
    have hi : i = its.toArray.size := by simp; omega
    subst hi
    exact wpAny_pyNext_enum_endD (drawsK (A := X.A.in1) (prog := X.prog) (w := X.w) (show X.A.in1.handled = none from I.ok.hd hc) k it a hai its.toArray) he ⟨hit, p⟩ fun h' eb => ⟨rfl, I.turned (t' := s.toks) (fun b o hb q => eb b o hb q) f0 f1 f3 f4 f5⟩
  self := fun A i s Q E st h => let ⟨⟨_, he⟩, _⟩ := st; wpAny_pyIter_enum he h
set_option maxHeartbeats 1000000 in
theorem meets_enum1 {v : Value} {o : Obj} {H : Heap → Prop} (B : Begins v o H) :
    Meets (Builtin.«enumerate.__new__» ⟨[.type "enumerate", v], []⟩) (fun _ R s => H s.heap ∧
      R (.ok (.ret (.ref (s.heap.push o).objs.size))) { s with heap := (s.heap.push o).push { cls := .type "enumerate", data := .fields #[.none, .bool false, .ref s.heap.objs.size, rawInt 0, .none, .none] } }) :=
  .of_wp fun prog w A R s h => by
    obtain ⟨hp, g, d, tk, os⟩ := s; obtain ⟨h1, h⟩ := h
    have hsub := sub_enumerate
    have q1 : ∀ {A' : Around} {E : Value → Shared → Prop} {Q : Value → Shared → Prop}, Q (.ref hp.objs.size) ⟨hp.push o, g, d, tk, os⟩ → wpAny (model prog w) A' (pyIter v) Q E ⟨hp, g, d, tk, os⟩ :=
      fun q => B.iter prog w _ _ ⟨hp, g, d, tk, os⟩ _ h1 q
    wp_walk using q1
    refine wpAny_stack_any fun st => wpAny_pure ?_
    split
    · rename_i c _ _ _ _ _
      cases (c == Value.type "enumerate")
      · wp_walk using q1
        exact ⟨_, rfl, h⟩
      · wp_walk using q1
        exact ⟨_, rfl, h⟩
    · wp_walk using q1
      exact ⟨_, rfl, h⟩
theorem enum1_begins {prog : Program} {w : World} {A : Around} {E : Value → Shared → Prop} {s : Shared} {v : Value} {o : Obj} {H : Heap → Prop} {Q : Value → Shared → Prop} (B : Begins v o H) (h1 : H s.heap)
    (h : ∀ h', IsEnum h' (s.heap.objs.size + 1) s.heap.objs.size 0 .none → h'.get? s.heap.objs.size = some o → h'.objs.size = s.heap.objs.size + 2 →
      (∀ b o, s.heap.get? b = some o → h'.get? b = some o) → Q (.ref (s.heap.objs.size + 1)) { s with heap := h' }) :
    wpAny (model prog w) A (call (.type "enumerate") [v]) Q E s := by
  refine callType_new F.called_enumerate (by decide) (F.typeCall_enumerate_1 _) (F.newCall_enumerate_1 _) (fun obj => F.args_object_init_2 obj _) F.entry_enumerate_new (meets_enum1 B) ⟨h1, ?_⟩
  have hz : (s.heap.push o).objs.size = s.heap.objs.size + 1 := Heap.size_push ..
  show _ ∧ _
  rw [hz]
  have he : IsEnum ((s.heap.push o).push { cls := .type "enumerate", data := .fields #[.none, .bool false, .ref s.heap.objs.size, rawInt 0, .none, .none] }) (s.heap.objs.size + 1) s.heap.objs.size 0 .none := by
    have := Heap.get?_push_size (s.heap.push o) (o := { cls := .type "enumerate", data := .fields #[.none, .bool false, .ref s.heap.objs.size, rawInt 0, .none, .none] }) rfl
    rw [hz] at this; exact this
  refine ⟨⟨_, he, rfl⟩, h _ he (Heap.get?_push_of_some _ (Heap.get?_push_size _ B.free)) (by rw [Heap.size_push, hz]) fun b o x => Heap.get?_push_of_some _ (Heap.get?_push_of_some _ x)⟩
def iEnumK (K : PySem.W.Frag) (ta : TA) : TI := fun σ H R => ta σ H fun vs H1 => ∃ a k xs, vs = [.ref a] ∧ SqK K H1 k a xs ∧ R (IteK K k a) H1
theorem boot_enumerate' : bootBuiltins (Str.ofString "enumerate") = some (.type "enumerate") := boot_enumerate
theorem pi_enumK {X : Cx} {e : Expr} {ta : TA} {p pos tpos : Pos} {elts : List Expr} {kk : Nat} (hg : Gl X (Str.ofString "enumerate")) (hm : X.mg (Str.ofString "enumerate") = none) (ha : PA X [e] ta) (hs : starEach [e] X.env = [(false, eval e X.env)]) :
    PI X (.Tuple elts kk tpos) (.Call (.Name (Str.ofString "enumerate") p) [e] [] pos) (iEnumK X.K ta) := by
  refine ⟨fun pins s σ H R I h => ?_⟩
  refine Call_ (ld_blt I hg hm boot_enumerate (PyProof.Rows.callWith_type1 (thn (ha.run pos pins s σ H _ I h) fun us s1 ⟨vs, H1, I1, r1, q1⟩ => ?_) hs rfl))
  obtain ⟨a, k, xs, ex, hq, q⟩ := q1
  subst ex
  cases r1 with
  | cons r rr =>
    cases rr
    cases r
    obtain ⟨its, rv, p'⟩ := sqk I1 hq
    have fin : ∀ h', IsEnum h' (s1.heap.objs.size + 1) s1.heap.objs.size 0 .none → IsIt k h' s1.heap.objs.size a 0 → (∀ b o, s1.heap.get? b = some o → h'.get? b = some o) →
        wpAny (model X.prog X.w) X.A (pyIter (.ref (s1.heap.objs.size + 1))) (PIE X pins σ (.Tuple elts kk tpos) R) X.xe { s1 with heap := h' } := fun h' he hit hk => by
      refine wpAny_pyIter_enum he ?_
      have I2 : Inv X pins σ H1 { s1 with heap := h' } := I1.kept (t' := s1.toks) hk
      have la := p'.lt
      refine ⟨s1.heap.objs.size + 1, [s1.heap.objs.size + 1, s1.heap.objs.size], _, _, H1, rfl, I2, turn_enumK k a (s1.heap.objs.size + 1) s1.heap.objs.size (Nat.succ_ne_self _) (Nat.ne_of_lt (Nat.lt_succ_of_lt la)) (Nat.ne_of_lt la), ⟨⟨.none, he⟩, hit⟩, fun b hb => ?_, q⟩
      have e' : b = s1.heap.objs.size + 1 ∨ b = s1.heap.objs.size := by simpa using hb
      have hle : s1.heap.objs.size ≤ b := by
        rcases e' with z | z
        · rw [z]; exact Nat.le_add_right _ _
        · rw [z]; exact Nat.le_refl _
      exact I1.fpOk hle (I1.hok.fresh hle)
    exact enum1_begins (beginsK k a its.toArray) p' fun h' he ho hsz hk => fin h' he (.of ho) hk
/-- zip -/
def ItzK (K : PySem.W.Frag) (k1 k2 : Bool) (a b : Addr) : It :=
  ⟨fun i H => ∃ (xs ys : List V) (x y : V), SqK K H k1 a xs ∧ SqK K H k2 b ys ∧ xs[i]? = some x ∧ ys[i]? = some y,
    fun i H v H' => ∃ T x y, v = .ref T ∧ H T = none ∧ H' = upd H T (.tup [x, y]) ∧ (∀ xs, SqK K H k1 a xs → xs[i]? = some x) ∧ ∀ ys, SqK K H k2 b ys → ys[i]? = some y,
    fun i H => ∃ xs ys : List V, SqK K H k1 a xs ∧ SqK K H k2 b ys ∧ i ≤ xs.length ∧ i ≤ ys.length ∧ (i = xs.length ∨ i = ys.length)⟩
theorem turn_zipK {P : Program} {w : World} {K : PySem.W.Frag} {elts : List Expr} {kk : Nat} {tpos : Pos} {k1 k2 : Bool} {a b z TI TO i1 i2 : Addr} (D : ZipSep2 z TI TO i1 i2 [i1, a] [i2, b]) (n1 : a ≠ i1) (n2 : b ≠ i2) :
    Turn P w K (.Tuple elts kk tpos) (ItzK K k1 k2 a b) [z, TI, TO, i1, i2] z (fun i h => IsZip h z TI TO .none ∧ IsTupOf2 h TI (.ref i1) (.ref i2) ∧ (∃ x y, IsTupOf2 h TO x y) ∧ IsIt k1 h i1 a i ∧ IsIt k2 h i2 b i) where
  mem := by simp
  obj := fun i h st c hc => by
    obtain ⟨hz, hTI, ⟨x, y, hTO⟩, h1, h2⟩ := st
    have e' : c = z ∨ c = TI ∨ c = TO ∨ c = i1 ∨ c = i2 := by simpa using hc
    rcases e' with q | q | q | q | q
    · rw [q]; exact ⟨_, hz, fun v q => nomatch q⟩
    · rw [q]; exact ⟨_, hTI, fun v q => nomatch q⟩
    · rw [q]; exact ⟨_, hTO, fun v q => nomatch q⟩
    · rw [q]; exact h1.ob
    · rw [q]; exact h2.ob
  keep := fun i h h' st k => by
    obtain ⟨hz, hTI, ⟨x, y, hTO⟩, h1, h2⟩ := st
    exact ⟨k z (by simp) _ hz, k TI (by simp) _ hTI, ⟨x, y, k TO (by simp) _ hTO⟩, h1.kp fun o q => k i1 (by simp) o q, h2.kp fun o q => k i2 (by simp) o q⟩
  item := by
    intro X hP hw hK hc i pins s σ H E I hf st hg
    subst hP hw hK
    obtain ⟨hz, hTI, ⟨x0, y0, hTO⟩, h1, h2⟩ := st
    obtain ⟨xs, ys, x, y, hqx, hqy, hx, hy⟩ := hg
    obtain ⟨its, rv, p⟩ := sqk I hqx
    obtain ⟨its2, rv2, p2⟩ := sqk I hqy
    obtain ⟨u, hu, ru⟩ := rv.get hx
    obtain ⟨u2, hu2, ru2⟩ := rv2.get hy
    have hzl : z < s.heap.objs.size := Heap.lt_size hz
    have g1 : its.toArray[i]? = some u := by simpa using hu
    have g2 : its2.toArray[i]? = some u2 := by simpa using hu2
    refine wpAny_pyNext_zipD2_item D (drawsK (A := X.A.in1) (prog := X.prog) (w := X.w) (show X.A.in1.handled = none from I.ok.hd hc) k1 i1 a n1 its.toArray) (drawsK (A := X.A.in1) (prog := X.prog) (w := X.w) (show X.A.in1.handled = none from I.ok.hd hc) k2 i2 b n2 its2.toArray) hz hTI hTO ⟨h1, p⟩ ⟨h2, p2⟩ (Array.getElem?_eq_some_iff.mp g1).1 (Array.getElem?_eq_some_iff.mp g2).1
      fun x1 x2 h' tk e1 e2 z' TO' h1' h2' hT hsz hk => ?_
    rw [g1] at e1
    rw [g2] at e2
    cases e1
    cases e2
    refine ⟨_, rfl, wpAny_letOwnedTupleGo_zip (s := { s with heap := h', toks := tk }) z' fun h'' z'' sb => ?_⟩
    have hT2 : h''.get? s.heap.objs.size = some { cls := .type "tuple", data := .seq #[u, u2] } := (sb.2 _ (Nat.ne_of_gt hzl)).trans hT
    have new : ObjOk X.prog X.w (upd H s.heap.objs.size (.tup [x, y])) h'' s.heap.objs.size (.tup [x, y]) :=
      ⟨by show 2 ≤ sizeLine; decide, [u, u2], .cons ru (.cons ru2 .nil), ⟨_, hT2, rfl, _, rfl⟩⟩
    have I1 : Inv X pins σ (upd H s.heap.objs.size (.tup [x, y])) { s with heap := h'', toks := tk } :=
      I.turnedNew (ch := [z, TI, TO, i1, i2]) (fun c o hb q => (sb.2 c (fun q' => hb (by simp [q']))).trans (hk c o (fun q' => hb (by simp [q'])) (fun q' => hb (by simp [q'])) (fun q' => hb (by simp [q'])) (fun q' => hb (by simp [q'])) q)) hf (Nat.le_refl _) new
    refine ⟨.ref s.heap.objs.size, _, I1, rfl, ⟨_, x, y, rfl, I.hok.fresh (Nat.le_refl _), rfl, fun l hl => by rw [sqk_inj I hl hqx]; exact hx, fun l hl => by rw [sqk_inj I hl hqy]; exact hy⟩, ⟨z'', ?_, ⟨u, u2, ?_⟩, ?_, ?_⟩, fun c hcm => ?_⟩
    · exact (sb.2 _ D.TIz).trans (hk _ _ D.TIz D.TITO D.TIi1 D.TIi2 hTI)
    · exact (sb.2 _ D.TOz).trans TO'
    · exact h1'.1.kp fun o q => (sb.2 _ (fun q' => D.zf1 (by simp [q']))).trans q
    · exact h2'.1.kp fun o q => (sb.2 _ (fun q' => D.zf2 (by simp [q']))).trans q
    · have hlt : c < s.heap.objs.size := by
        have e' : c = z ∨ c = TI ∨ c = TO ∨ c = i1 ∨ c = i2 := by simpa using hcm
        rcases e' with q | q | q | q | q
        · rw [q]; exact hzl
        · rw [q]; exact Heap.lt_size hTI
        · rw [q]; exact Heap.lt_size hTO
        · rw [q]; obtain ⟨_, e1, _⟩ := h1.ob; exact Heap.lt_size e1
        · rw [q]; obtain ⟨_, e2, _⟩ := h2.ob; exact Heap.lt_size e2
      rw [upd_ne (Nat.ne_of_lt hlt)]
      exact (hf c hcm).1
  done := by
    intro X hP hw hK hc i pins s σ H E I hf st hg
    subst hP hw hK
    obtain ⟨hz, hTI, ⟨x0, y0, hTO⟩, h1, h2⟩ := st
    obtain ⟨xs, ys, hqx, hqy, l1', l2', hend⟩ := hg
    obtain ⟨its, rv, p⟩ := sqk I hqx
    obtain ⟨its2, rv2, p2⟩ := sqk I hqy
    have l1 := rv.length
    have l2 := rv2.length
    exact wpAny_pyNext_zipD2_end D (drawsK (A := X.A.in1) (prog := X.prog) (w := X.w) (show X.A.in1.handled = none from I.ok.hd hc) k1 i1 a n1 its.toArray) (drawsK (A := X.A.in1) (prog := X.prog) (w := X.w) (show X.A.in1.handled = none from I.ok.hd hc) k2 i2 b n2 its2.toArray) hz hTI hTO ⟨h1, p⟩ ⟨h2, p2⟩ (by simp; omega) (by simp; omega) (by simp; omega) fun h' tk hk => ⟨rfl, I.turnedL (ch := [z, TI, TO, i1, i2]) (fun c o hb q =>
      hk c o (fun q' => hb (by simp [q'])) (fun q' => hb (by simp [q'])) (fun q' => hb (by simp [q'])) (fun q' => hb (by simp [q'])) q) hf⟩
  self := fun A i s Q E st h => wpAny_pyIter_zip st.1 h
def iZipK (K : PySem.W.Frag) (ta : TA) : TI := fun σ H R => ta σ H fun vs H1 => ∃ a b k1 k2 xs ys, vs = [.ref a, .ref b] ∧ SqK K H1 k1 a xs ∧ SqK K H1 k2 b ys ∧ R (ItzK K k1 k2 a b) H1
theorem pi_zipK {X : Cx} {e e2 : Expr} {ta : TA} {p pos tpos : Pos} {elts : List Expr} {kk : Nat} (hg : Gl X (Str.ofString "zip")) (hm : X.mg (Str.ofString "zip") = none) (ha : PA X [e, e2] ta)
    (hs : starEach [e, e2] X.env = (false, eval e X.env) :: starEach [e2] X.env) (hpl : (backTo pos (starEach [e2] X.env)).any (·.1) = false) :
    PI X (.Tuple elts kk tpos) (.Call (.Name (Str.ofString "zip") p) [e, e2] [] pos) (iZipK X.K ta) := by
  refine ⟨fun pins s σ H R I h => ?_⟩
  refine Call_ (ld_blt I hg hm PyProof.Rows.boot_zip (PyProof.Rows.callWith_type1 (thn (ha.run pos pins s σ H _ I h) fun us s1 ⟨vs, H1, I1, r1, q1⟩ => ?_) hs hpl))
  obtain ⟨a, b, k1, k2, xs, ys, ex, hqx, hqy, q⟩ := q1
  subst ex
  cases r1 with
  | cons r rr =>
    cases rr with
    | cons r' rr =>
      cases rr
      cases r
      cases r'
      obtain ⟨its, rv, p1⟩ := sqk I1 hqx
      obtain ⟨its2, rv2, p2⟩ := sqk I1 hqy
      have la := p1.lt
      have lb := p2.lt
      refine zip_begins2 (beginsK k1 a its.toArray) (beginsK k2 b its2.toArray) p1 p2 fun h' hz hTI hTO h1 h2 hsz hk => wpAny_pyIter_zip hz ?_
      have I2 : Inv X pins σ H1 { s1 with heap := h' } := I1.kept (t' := s1.toks) hk
      refine ⟨s1.heap.objs.size + 4, [s1.heap.objs.size + 4, s1.heap.objs.size + 2, s1.heap.objs.size + 3, s1.heap.objs.size, s1.heap.objs.size + 1], _, _, H1, rfl, I2,
        turn_zipK (zip_sep2 (fp1 := [a]) (fp2 := [b]) (by simpa using la) (by simpa using lb)) (Nat.ne_of_lt la) (Nat.ne_of_lt (Nat.lt_succ_of_lt lb)), ⟨hz, hTI, ⟨_, _, hTO⟩, .of h1, .of h2⟩, fun c hcm => ?_, q⟩
      have e' : c = s1.heap.objs.size + 4 ∨ c = s1.heap.objs.size + 2 ∨ c = s1.heap.objs.size + 3 ∨ c = s1.heap.objs.size ∨ c = s1.heap.objs.size + 1 := by simpa using hcm
      have hle : s1.heap.objs.size ≤ c := by
        rcases e' with z | z | z | z | z
        · rw [z]; exact Nat.le_add_right _ _
        · rw [z]; exact Nat.le_add_right _ _
        · rw [z]; exact Nat.le_add_right _ _
        · rw [z]; exact Nat.le_refl _
        · rw [z]; exact Nat.le_add_right _ _
      exact I1.fpOk hle (I1.hok.fresh hle)
end Z

namespace L2
open PySem PySem.Spec PyProof.Rows
theorem PG.imp {X : Cx} {e : Expr} {t t' : TG} (h : PG X e t) (w : ∀ v σ H Q, t' v σ H Q → t v σ H Q) : PG X e t' := ⟨fun pins s σ H v u Q I r q => h.run pins s σ H v u Q I r (w v σ H Q q)⟩
theorem PGs.imp {X : Cx} {e : List Expr} {t t' : TGs} (h : PGs X e t) (w : ∀ v σ H Q, t' v σ H Q → t v σ H Q) : PGs X e t' := ⟨fun pins s σ H v u Q I r q => h.run pins s σ H v u Q I r (w v σ H Q q)⟩
theorem PI.imp {X : Cx} {tg e : Expr} {t t' : TI} (h : PI X tg e t) (w : ∀ σ H Q, t' σ H Q → t σ H Q) : PI X tg e t' := ⟨fun pins s σ H Q I q => h.run pins s σ H Q I (w σ H Q q)⟩
theorem PS.imp {X : Cx} {st : Stmt} {t t' : TS} (h : PS X st t) (w : ∀ D σ H, t' D σ H → t D σ H) : PS X st t' := ⟨fun pins s σ H D I q => h.run pins s σ H D I (w D σ H q)⟩
theorem PSs.imp {X : Cx} {st : List Stmt} {t t' : TS} (h : PSs X st t) (w : ∀ D σ H, t' D σ H → t D σ H) : PSs X st t' := ⟨fun pins s σ H D I q => h.run pins s σ H D I (w D σ H q)⟩
end L2
namespace Z
open PySem PySem.Spec PyProof.Rows L2
/-! ### targets -/
mutual
def slT : Tg → List Nat
  | .nm i => [i]
  | .tp l => slTs l
def slTs : Tgs → List Nat
  | .nil => []
  | .cons t l => slT t ++ slTs l
end
def Agr (vs : List Nat) (σ σ' : L2.St) : Prop := σ'.length = σ.length ∧ ∀ j, j ∉ vs → σ'[j]? = σ[j]?
theorem Agr.trans {vs ws : List Nat} {σ σ1 σ2 : L2.St} (h : Agr vs σ σ1) (k : Agr ws σ1 σ2) : Agr (vs ++ ws) σ σ2 := ⟨k.1.trans h.1, fun j hj => by
  rw [List.mem_append, not_or] at hj
  rw [k.2 j hj.2, h.2 j hj.1]⟩
theorem wipe_get {σ : L2.St} : ∀ {vs : List Nat} {j : Nat}, j ∉ vs → (wipe σ vs)[j]? = σ[j]?
  | [], j, _ => rfl
  | v :: vs, j, h => by
    rw [List.mem_cons, not_or] at h
    show ((wipe σ vs).set v none)[j]? = _
    rw [List.getElem?_set_ne (Ne.symm h.1)]
    exact wipe_get h.2
theorem wipe_in {σ : L2.St} : ∀ {vs : List Nat} {j : Nat}, j ∈ vs → j < σ.length → (wipe σ vs)[j]? = some none
  | v :: vs, j, h, hl => by
    show ((wipe σ vs).set v none)[j]? = _
    by_cases e : v = j
    · subst e
      rw [List.getElem?_set_self (by rw [wipe_length]; exact hl)]
    · rw [List.getElem?_set_ne e]
      rcases List.mem_cons.mp h with h | h
      · exact absurd h.symm e
      · exact wipe_in h hl
theorem wipe_agr {vs us : List Nat} {σ σ' : L2.St} (h : Agr us σ σ') (hs : ∀ j ∈ us, j ∈ vs) : wipe σ' vs = wipe σ vs := by
  have hl := h.1
  refine List.ext_getElem? fun j => ?_
  by_cases hj : j ∈ vs
  · by_cases hb : j < σ.length
    · rw [wipe_in hj hb, wipe_in hj (by rw [hl]; exact hb)]
    · rw [List.getElem?_eq_none (by rw [wipe_length]; omega), List.getElem?_eq_none (by rw [wipe_length]; omega)]
  · rw [wipe_get hj, wipe_get hj]
    exact h.2 j fun z => hj (hs j z)
theorem wipe_wipe (σ : L2.St) (vs : List Nat) : wipe (wipe σ vs) vs = wipe σ vs := by
  refine List.ext_getElem? fun j => ?_
  by_cases hj : j ∈ vs
  · by_cases hb : j < σ.length
    · rw [wipe_in hj hb, wipe_in hj (by rw [wipe_length]; exact hb)]
    · rw [List.getElem?_eq_none (by rw [wipe_length, wipe_length]; omega), List.getElem?_eq_none (by rw [wipe_length]; omega)]
  · rw [wipe_get hj]
section
variable (K : PySem.W.Frag)
def gD (tg : Tg) : TG := fun v σ H Q => ∃ H0 G0 G e d R, SR K H0 G0 G H σ e ∧ Rep K G v d ∧ bindT tg d e R ∧ ∀ σ' e', R e' → SR K H0 G0 G H σ' e' → Agr (slT tg) σ σ' → Q σ' H
def gDs (tg : Tgs) : TGs := fun v σ H Q => ∃ H0 G0 G e d R, SR K H0 G0 G H σ e ∧ RepAll K G v d ∧ bindTs tg d e R ∧ ∀ σ' e', R e' → SR K H0 G0 G H σ' e' → Agr (slTs tg) σ σ' → Q σ' H
end
def stoB (cl : Bool) (sc : Scope) (x : Str) : Bool := if cl = true then locB sc x else lclB sc x
mutual
def chkT (cl : Bool) (sc : Scope) (N : List Str) : Tg → Expr → Bool
  | .nm i, .Name x _ => nameAt N i x && stoB cl sc x
  | .tp l, .Tuple es _ _ => chkTs cl sc N l es
  | _, _ => false
def chkTs (cl : Bool) (sc : Scope) (N : List Str) : Tgs → List Expr → Bool
  | .nil, [] => true
  | .cons t l, e :: es => chkT cl sc N t e && chkTs cl sc N l es
  | _, _ => false
end
theorem bindT_imp : ∀ (tg : Tg) {d : D} {e : En} {Q Q' : En → Prop}, bindT tg d e Q → (∀ e, Q e → Q' e) → bindT tg d e Q' := by
  intro tg
  induction tg using Tg.rec (motive_2 := fun l => ∀ {ds : List D} {e : En} {Q Q' : En → Prop}, bindTs l ds e Q → (∀ e, Q e → Q' e) → bindTs l ds e Q') with
  | nm i => intro d e Q Q' h w; exact w _ h
  | tp l ih =>
    intro d e Q Q' h w
    cases d with
    | tuple ds => exact ih h w
    | _ => exact h.elim
  | nil =>
    rename_i ds e Q Q' h w
    cases ds with
    | nil => exact w _ h
    | cons => exact h.elim
  | cons t l ih1 ih2 =>
    rename_i ds e Q Q' h w
    cases ds with
    | nil => exact h.elim
    | cons d ds => exact ih1 h fun e1 h1 => ih2 h1 w
theorem chkT_star {cl sc N} {t : Tg} {e : Expr} (h : chkT cl sc N t e = true) : notStar e = true := by
  cases t <;> cases e <;> first | rfl | (simp [chkT] at h)
theorem aeach {e : Expr} {es : List Expr} {env : Env} (h : notStar e = true) : assignEach (e :: es) env = (false, assign e env) :: assignEach es env := by
  cases e <;> first | rfl | cases h
theorem chkTs_each {cl sc N} : ∀ {l : Tgs} {es : List Expr} {env : Env}, chkTs cl sc N l es = true → (assignEach es env).findIdx? (·.1) = none ∧ (assignEach es env).length = es.length
  | .nil, [], _, _ => ⟨rfl, rfl⟩
  | .cons t l, e :: es, env, h => by
    unfold chkTs at h
    rw [Bool.and_eq_true] at h
    obtain ⟨h1, h2⟩ := chkTs_each (env := env) h.2
    rw [aeach (chkT_star h.1)]
    refine ⟨?_, by rw [List.length_cons, h2, List.length_cons]⟩
    rw [List.findIdx?_cons]
    simp [h1]
  | .nil, _ :: _, _, h => by simp [chkTs] at h
  | .cons _ _, [], _, h => by simp [chkTs] at h
section
variable {X : Cx} {sc : Scope} {N : List Str} {cl : Bool}
theorem bindTs_len : ∀ {l : Tgs} {ds : List D} {e : En} {Q : En → Prop} {es : List Expr}, chkTs cl sc N l es = true → bindTs l ds e Q → ds.length = es.length
  | .nil, [], _, _, [], _, _ => rfl
  | .nil, [], _, _, _ :: _, h, _ => by simp [chkTs] at h
  | .nil, _ :: _, _, _, _, _, h => h.elim
  | .cons t l, [], _, _, _, _, h => h.elim
  | .cons t l, d :: ds, e, Q, [], h, _ => by simp [chkTs] at h
  | .cons t l, d :: ds, e, Q, a :: es, h, w => by
    unfold chkTs at h
    rw [Bool.and_eq_true] at h
    have : ∃ e1, bindTs l ds e1 Q := by
      have key : ∀ (t : Tg) {d : D} {e : En} {Q : En → Prop}, bindT t d e Q → ∃ e1, Q e1 := by
        intro t
        induction t using Tg.rec (motive_2 := fun l => ∀ {ds : List D} {e : En} {Q : En → Prop}, bindTs l ds e Q → ∃ e1, Q e1) with
        | nm i => intro d e Q h; exact ⟨_, h⟩
        | tp l ih =>
          intro d e Q h
          cases d with
          | tuple ds => exact ih h
          | _ => exact h.elim
        | nil =>
          rename_i ds e Q h
          cases ds with
          | nil => exact ⟨_, h⟩
          | cons => exact h.elim
        | cons t l ih1 ih2 =>
          rename_i ds e Q h
          cases ds with
          | nil => exact h.elim
          | cons d ds =>
            obtain ⟨e1, h1⟩ := ih1 h
            exact ih2 h1
      exact key t w
    obtain ⟨e1, w1⟩ := this
    rw [List.length_cons, List.length_cons, bindTs_len h.2 w1]
theorem p_tg (h : Here X sc N) (hc : X.calm = true) (hf : cl = true → ∀ x, sc.names.lookup x = some .cell → X.fn x = true) : ∀ (tg : Tg) {e : Expr}, chkT cl sc N tg e = true → PG X e (gD X.K tg) := by
  intro tg
  induction tg using Tg.rec (motive_2 := fun l => ∀ {es : List Expr}, chkTs cl sc N l es = true → PGs X es (gDs X.K l)) with
  | nm i =>
    intro e hk
    cases e with
    | Name x pos =>
      unfold chkT at hk
      rw [Bool.and_eq_true] at hk
      have hl : L2.Loc X.env.scope x ∧ (X.fn x = true ∨ X.env.scope.names.lookup x = some .local) := by
        rw [h.sc]
        unfold stoB at hk
        split at hk
        · rename_i hcl
          have z := loc_of hk.2
          refine ⟨z, ?_⟩
          rcases z with z | z
          · exact .inr z
          · exact .inl (hf hcl x z)
        · exact ⟨.inl (lcl_of hk.2), .inr (lcl_of hk.2)⟩
      refine (pg_name (i := i) (by rw [h.n]; exact h.nd) (by rw [h.n]; exact of_decide_eq_true hk.1) hl.1 hl.2).imp fun v σ H Q ⟨H0, G0, G, en, d, R, sr, rep, hb, q⟩ => ?_
      refine q _ _ hb (sr.setS i rep) ⟨by rw [List.length_set], fun j hj => ?_⟩
      have : j ≠ i := by simpa [slT] using hj
      exact List.getElem?_set_ne (Ne.symm this)
    | _ => simp [chkT] at hk
  | tp l ih =>
    intro e hk
    cases e with
    | Tuple es k pos =>
      unfold chkT at hk
      obtain ⟨c1, c2⟩ := chkTs_each (env := X.env) hk
      refine (pg_tup hc (ih hk) c2 c1).imp fun v σ H Q ⟨H0, G0, G, en, d, R, sr, rep, hb, q⟩ => ?_
      cases d with
      | tuple ds =>
        have hb' : bindTs l ds en R := hb
        cases rep with
        | @tup a xs _ hg ra => exact ⟨a, xs, rfl, .inl (.inl (sr.x.sub.tp hg)), by rw [ra.length, bindTs_len hk hb'], H0, G0, G, en, ds, R, sr, ra, hb', q⟩
      | _ => exact (show False from hb).elim
    | _ => simp [chkT] at hk
  | nil =>
    rename_i es hk
    cases es with
    | nil =>
      refine pgs_nil.imp fun v σ H Q ⟨H0, G0, G, en, d, R, sr, rep, hb, q⟩ => ?_
      cases d with
      | nil => cases rep; exact ⟨rfl, q _ _ hb sr ⟨rfl, fun _ _ => rfl⟩⟩
      | cons => exact (show False from hb).elim
    | cons => simp [chkTs] at hk
  | cons t l ih1 ih2 =>
    rename_i es hk
    cases es with
    | nil => simp [chkTs] at hk
    | cons e es =>
      unfold chkTs at hk
      rw [Bool.and_eq_true] at hk
      refine (pgs_cons (ih1 hk.1) (ih2 hk.2) (by rw [aeach (chkT_star hk.1)]; rfl)).imp fun v σ H Q ⟨H0, G0, G, en, d, R, sr, rep, hb, q⟩ => ?_
      cases d with
      | nil => exact (show False from hb).elim
      | cons d ds =>
        cases rep with
        | cons r1 r2 => exact ⟨_, _, rfl, H0, G0, G, en, d, _, sr, r1, hb, fun σ1 e1 h1 sr1 a1 => ⟨H0, G0, G, e1, ds, R, sr1, r2, h1, fun σ2 e2 h2 sr2 a2 => q σ2 e2 h2 sr2 (a1.trans a2)⟩⟩
end
/-- the own slots of a comprehension -/
theorem clr_len (e : En) : ∀ vs : List Nat, (clr e vs).length = e.length
  | [] => rfl
  | v :: vs => by unfold clr; rw [List.length_set, clr_len e vs]
theorem SR.clr {K : PySem.W.Frag} {H0 G0 G H : Hp} {σ : L2.St} {e : En} (r : SR K H0 G0 G H σ e) : ∀ vs : List Nat, SR K H0 G0 G H σ (Z.clr e vs)
  | [] => r
  | v :: vs => (r.clr vs).any v
theorem clr_in {e : En} : ∀ {vs : List Nat} {j : Nat}, j ∈ vs → ∀ s, (Z.clr e vs)[j]? = some s → s = .any
  | v :: vs, j, h, s, hs => by
    unfold Z.clr at hs
    by_cases q : v = j
    · subst q
      by_cases hb : v < (Z.clr e vs).length
      · rw [List.getElem?_set_self hb] at hs
        exact (Option.some.inj hs).symm
      · rw [List.getElem?_eq_none (by rw [List.length_set]; omega)] at hs; cases hs
    · rw [List.getElem?_set_ne q] at hs
      rcases List.mem_cons.mp h with h | h
      · exact absurd h.symm q
      · exact clr_in h s hs
theorem SR.wipe {K : PySem.W.Frag} {H0 G0 G H : Hp} {σ : L2.St} {e : En} (r : SR K H0 G0 G H σ e) (vs : List Nat) : SR K H0 G0 G H (L2.wipe σ vs) (Z.clr e vs) := by
  have c := r.clr vs
  refine ⟨c.x, by rw [wipe_length, clr_len, r.len], fun j s hj => ?_, fun j k a h1 h2 => ?_⟩
  · by_cases hv : j ∈ vs
    · have := clr_in hv s hj
      subst this
      have hb : j < σ.length := by
        have := (List.getElem?_eq_some_iff.mp hj).1
        rw [clr_len] at this
        rw [r.len]; exact this
      exact ⟨none, wipe_in hv hb, trivial⟩
    · obtain ⟨v, h1, h2⟩ := c.slot j s hj
      exact ⟨v, by rw [wipe_get hv]; exact h1, h2⟩
  · have key : ∀ {j}, Ows (L2.wipe σ vs) (Z.clr e vs) j a → Ows σ (Z.clr e vs) j a := fun {j} ⟨hd, hv⟩ => ⟨hd, (wipe_some hv).1⟩
    exact c.apart j k a (key h1) (key h2)

/-! ### what is walked -/
/-- what stays true while the walk goes on; m: nothing is written -/
def Md (m : Bool) (H0 G H G' H' : Hp) : Prop := if m = true then Ext G H G' H' else Same G G' ∧ Sub G' H' ∧ Same H0 H'
section
variable {m : Bool} {H0 G H G' H' G2 H2 : Hp}
theorem Md.gg (h : Md m H0 G H G' H') : Same G G' := by
  cases m
  · exact h.1
  · exact Ext.gg h
theorem Md.sub (h : Md m H0 G H G' H') : Sub G' H' := by
  cases m
  · exact h.2.1
  · exact Ext.sub h
theorem Md.ext (h : Md m H0 G H G' H') (x : Ext G' H' G2 H2) : Md m H0 G H G2 H2 := by
  cases m
  · exact ⟨fun b o q => x.gg b o (h.1 b o q), x.sub, fun b o q => x.hh b o (h.2.2 b o q)⟩
  · exact Ext.trans h x
end
structure Wk (K : PySem.W.Frag) (m : Bool) (H0 G1 H1 : Hp) (J : It) (ds : List D) : Prop where
  go : ∀ i G H, i < ds.length → Md m H0 G1 H1 G H → J.go i H
  stop : ∀ G H, Md m H0 G1 H1 G H → J.stop ds.length H
  yld : ∀ i G H v H', i < ds.length → Md m H0 G1 H1 G H → J.yld i H v H' → ∃ G' d, Ext G H G' H' ∧ ds[i]? = some d ∧ Rep K G' v d
def VM (m : Bool) (K : PySem.W.Frag) (G H : Hp) (R : D → Prop) (Q : VK) : Prop := if m = true then VB K G H R Q else VP K G H R Q
def RdM (m : Bool) (K : PySem.W.Frag) (G H : Hp) (v : V) (d : D) : Prop := if m = true then RdD K G H v d else Rep K G v d
def tDM (m : Bool) (K : PySem.W.Frag) (F : FT) (ex : Ex) : TE := fun σ H Q => ∃ H0 G0 G e R, SR K H0 G0 G H σ e ∧ wpE F ex e R ∧ ∀ v H' G' d, R d → Ext G H G' H' → RdM m K G' H' v d → Q v H'
def tSrc (m : Bool) (K : PySem.W.Frag) (F : FT) (src : Src) : TI := fun σ H R => ∃ H0 G0 G e Rr, SR K H0 G0 G H σ e ∧ wpS F src e Rr ∧ ∀ J G' H' ds, Rr ds → Ext G H G' H' → Wk K m H0 G' H' J ds → R J H'
theorem pe_m {X : Cx} {F : FT} {ex : Ex} {e : Expr} {m : Bool} (h : PE X e (if m = true then tDB X.K F ex else tDE X.K F ex)) : PE X e (tDM m X.K F ex) := by
  cases m
  · exact PE.imp (t := tDE X.K F ex) h fun σ H Q ⟨H0, G0, G, en, R, sr, hw, hv⟩ => ⟨H0, G0, G, en, R, sr, hw, hv⟩
  · exact PE.imp (t := tDB X.K F ex) h fun σ H Q ⟨H0, G0, G, en, R, sr, hw, hv⟩ => ⟨H0, G0, G, en, R, sr, hw, hv⟩
section
variable {K : PySem.W.Frag} {m : Bool} {H0 G H G' H' : Hp} {v : V} {d : D}
theorem RdM.ext (h : RdM m K G H v d) (x : Ext G H G' H') : RdM m K G' H' v d := by
  cases m
  · exact Rep.mono x.gg h
  · exact RdD.ext h x
/-- a list or a tuple that is to be walked -/
theorem RdM.sq {ds : List D} (h : RdM m K G H v d) (s : Sub G H) {Q : List D → Prop} (hq : seqOf d Q) : ∃ a k xs ds, v = .ref a ∧ (∀ G' H', Md m H0 G H G' H' → SqK K H' k a xs) ∧ RepAll K G xs ds ∧ Q ds := by
  have rep : ∀ {G H : Hp}, Rep K G v d → Sub G H → ∃ a k xs ds, v = .ref a ∧ (∀ G' H', Same G G' → Sub G' H' → SqK K H' k a xs) ∧ RepAll K G xs ds ∧ Q ds := fun {G H} r s => by
    cases d with
    | list ds => cases r with | lst h0 r => exact ⟨_, false, _, ds, rfl, fun G' H' g s => s.seq (g.seq h0), r, hq⟩
    | tuple ds => cases r with | tup h0 r => exact ⟨_, true, _, ds, rfl, fun G' H' g s => .inl (.inl (s.tp (g _ _ h0))), r, hq⟩
    | _ => exact hq.elim
  cases m
  · obtain ⟨a, k, xs, ds, e, h1, h2, h3⟩ := rep h s
    exact ⟨a, k, xs, ds, e, fun G' H' md => h1 G' H' md.gg md.sub, h2, h3⟩
  · rcases h with r | ⟨a, rfl, o⟩
    · obtain ⟨a, k, xs, ds, e, h1, h2, h3⟩ := rep r s
      exact ⟨a, k, xs, ds, e, fun G' H' md => h1 G' H' md.gg md.sub, h2, h3⟩
    · cases d with
      | list ds =>
        obtain ⟨xs, hx, r⟩ := o
        exact ⟨a, false, xs, ds, rfl, fun G' H' md => .inl (.inl (Ext.hh md _ _ hx)), r, hq⟩
      | tuple => exact o.elim
      | _ => exact hq.elim
end
/-- the walks -/
def ItK (K : PySem.W.Frag) (k : Bool) (a : Addr) : It := if k = true then Itt K a else Itl K a
section
variable {K : PySem.W.Frag} {m : Bool} {H0 G H : Hp}
theorem sqk_inj' {k : Bool} {a : Addr} {xs ys : List V} (h : SqK K H k a xs) (h' : SqK K H k a ys) : True := trivial
theorem wk_seq {k : Bool} {a : Addr} {xs : List V} {ds : List D} (hs : ∀ G' H', Md m H0 G H G' H' → SqK K H' k a xs) (r : RepAll K G xs ds) : Wk K m H0 G H (ItK K k a) ds := by
  have hl := r.length
  cases k
  · refine ⟨fun i G' H' hi md => ⟨xs, xs[i], hs G' H' md, by simp [hl, hi]⟩, fun G' H' md => ⟨xs, hs G' H' md, by omega⟩, fun i G' H' v H2 hi md y => ?_⟩
    obtain ⟨rfl, y⟩ := y
    have e := y xs (hs G' H2 md)
    obtain ⟨x, h1, h2⟩ := r.get (List.getElem?_eq_getElem hi)
    rw [e] at h1
    cases h1
    exact ⟨G', _, .refl md.sub, List.getElem?_eq_getElem hi, h2.mono md.gg⟩
  · refine ⟨fun i G' H' hi md => ⟨xs, xs[i], hs G' H' md, by simp [hl, hi]⟩, fun G' H' md => ⟨xs, hs G' H' md, by omega⟩, fun i G' H' v H2 hi md y => ?_⟩
    obtain ⟨rfl, y⟩ := y
    have e := y xs (hs G' H2 md)
    obtain ⟨x, h1, h2⟩ := r.get (List.getElem?_eq_getElem hi)
    rw [e] at h1
    cases h1
    exact ⟨G', _, .refl md.sub, List.getElem?_eq_getElem hi, h2.mono md.gg⟩
theorem rngD_len (lo : Int) (n : Nat) : (rngD lo n).length = n := by simp [rngD]
theorem rngD_get {lo : Int} {n i : Nat} (h : i < n) : (rngD lo n)[i]? = some (.int (lo + (i : Nat))) := by simp [rngD, h]
theorem wk_rng {lo : Int} {n : Nat} : Wk K m H0 G H (Itr lo n) (rngD lo n) := by
  refine ⟨fun i G' H' hi md => by rw [rngD_len] at hi; exact hi, fun G' H' md => by rw [rngD_len]; exact Nat.le_refl _, fun i G' H' v H2 hi md y => ?_⟩
  obtain ⟨rfl, rfl⟩ := y
  rw [rngD_len] at hi
  exact ⟨G', _, .refl md.sub, rngD_get hi, .int _⟩
theorem zipD2_len (xs ys : List D) : (zipD2 xs ys).length = min xs.length ys.length := by simp [zipD2]
theorem zipD2_get {xs ys : List D} {i : Nat} {x y : D} (h1 : xs[i]? = some x) (h2 : ys[i]? = some y) : (zipD2 xs ys)[i]? = some (.tuple [x, y]) := by
  unfold zipD2
  rw [List.getElem?_map, List.getElem?_zip_eq_some (z := (x, y)) |>.mpr ⟨h1, h2⟩]
  rfl
theorem Rep.tup2 {a : Addr} {v w : V} {d e : D} (h1 : Rep K G v d) (h2 : Rep K G w e) (gn : G a = none) : Rep K (upd G a (.tup [v, w])) (.ref a) (.tuple [d, e]) := by
  have g : Same G (upd G a (.tup [v, w])) := fun b u h => by rw [upd_ne (ne_of_none h gn)]; exact h
  exact .tup upd_same (.cons (h1.mono g) (.cons (h2.mono g) .nil))
theorem wk_enum {k : Bool} {a : Addr} {xs : List V} {ds : List D} (hs : ∀ G' H', Md m H0 G H G' H' → SqK K H' k a xs) (r : RepAll K G xs ds) : Wk K m H0 G H (IteK K k a) (enumD ds) := by
  have hl := r.length
  have el : (enumD ds).length = ds.length := by simp [enumD]
  refine ⟨fun i G' H' hi md => ⟨xs, xs[i]'(by omega), hs G' H' md, List.getElem?_eq_getElem _⟩, fun G' H' md => ⟨xs, hs G' H' md, by omega⟩, fun i G' H' v H2 hi md y => ?_⟩
  obtain ⟨T, x, rfl, hT, rfl, y⟩ := y
  have e := y xs (hs G' H' md)
  have hi' : i < ds.length := by omega
  obtain ⟨x', h1, h2⟩ := r.get (List.getElem?_eq_getElem hi')
  rw [e] at h1
  cases h1
  refine ⟨upd G' T (.tup [.int (i : Nat), x]), _, Ext.laidF md.sub hT, ?_, Rep.tup2 (.int (i : Nat)) (h2.mono md.gg) (md.sub.none hT)⟩
  unfold enumD
  simp [hi']
theorem wk_zip {k1 k2 : Bool} {a b : Addr} {xs ys : List V} {ds es : List D} (hs : ∀ G' H', Md m H0 G H G' H' → SqK K H' k1 a xs) (r : RepAll K G xs ds) (hs2 : ∀ G' H', Md m H0 G H G' H' → SqK K H' k2 b ys) (r2 : RepAll K G ys es) : Wk K m H0 G H (ItzK K k1 k2 a b) (zipD2 ds es) := by
  have hl := r.length
  have hl2 := r2.length
  have zl := zipD2_len ds es
  refine ⟨fun i G' H' hi md => ⟨xs, ys, xs[i]'(by omega), ys[i]'(by omega), hs G' H' md, hs2 G' H' md, List.getElem?_eq_getElem _, List.getElem?_eq_getElem _⟩, fun G' H' md => ⟨xs, ys, hs G' H' md, hs2 G' H' md, by omega, by omega, by omega⟩, fun i G' H' v H2 hi md y => ?_⟩
  obtain ⟨T, x, y', rfl, hT, rfl, q1, q2⟩ := y
  have e1 := q1 xs (hs G' H' md)
  have e2 := q2 ys (hs2 G' H' md)
  have hi1 : i < ds.length := by omega
  have hi2 : i < es.length := by omega
  obtain ⟨x', h1, h2⟩ := r.get (List.getElem?_eq_getElem hi1)
  obtain ⟨x2', h3, h4⟩ := r2.get (List.getElem?_eq_getElem hi2)
  rw [e1] at h1
  rw [e2] at h3
  cases h1
  cases h3
  exact ⟨upd G' T (.tup [x, y']), _, Ext.laidF md.sub hT, zipD2_get (List.getElem?_eq_getElem hi1) (List.getElem?_eq_getElem hi2), Rep.tup2 (h2.mono md.gg) (h4.mono md.gg) (md.sub.none hT)⟩
end
def iSeq (K : PySem.W.Frag) (tl : TE) : TI := fun σ H R => tl σ H fun x H1 => ∃ a k xs, x = .ref a ∧ SqK K H1 k a xs ∧ R (ItK K k a) H1
theorem pi_seq {X : Cx} {tg l : Expr} {tl : TE} (hl : PE X l tl) : PI X tg l (iSeq X.K tl) := by
  refine ⟨fun pins s σ H R I h => ?_⟩
  refine thn (hl.run pins s σ H _ I h) fun v s1 ⟨x, H1, I1, r1, q1⟩ => ?_
  obtain ⟨a, k, xs, e, hq, q⟩ := q1
  subst e
  cases r1
  cases k
  · obtain ⟨its, rv, p, hz⟩ := I1.list hq
    refine wpAny_pyIter_list p.isList ?_
    refine ⟨s1.heap.objs.size, [s1.heap.objs.size], _, _, H1, rfl, I1.kept (t' := s1.toks) fun b o e => Heap.get?_push_of_some _ e, turn_list a _, ⟨_, Heap.get?_push_size _ rfl, rfl, rfl⟩, fun b hb => ?_, q⟩
    have e : b = s1.heap.objs.size := by simpa using hb
    subst e
    exact I1.fpOk (Nat.le_refl _) (I1.hok.fresh (Nat.le_refl _))
  · obtain ⟨its, rv, p, hz⟩ := I1.tuple hq
    refine wpAny_pyIter_tuple (show s1.heap.IsTuple a its.toArray from p) ?_
    refine ⟨s1.heap.objs.size, [s1.heap.objs.size], _, _, H1, rfl, I1.kept (t' := s1.toks) fun b o e => Heap.get?_push_of_some _ e, turn_tuple a _, ⟨_, Heap.get?_push_size _ rfl, rfl, rfl⟩, fun b hb => ?_, q⟩
    have e : b = s1.heap.objs.size := by simpa using hb
    subst e
    exact I1.fpOk (Nat.le_refl _) (I1.hok.fresh (Nat.le_refl _))
/-! the sources -/
section
variable {X : Cx} {F : FT} {sc : Scope} {N : List Str} {fs : List (String × Nat × Bool)} {m : Bool}
theorem i_val {tg e : Expr} {a : Ex} (h : PE X e (tDM m X.K F a)) : PI X tg e (tSrc m X.K F (.val a)) :=
  (pi_seq h).imp fun σ H Q ⟨H0, G0, G, en, Rr, sr, hw, hv⟩ => ⟨H0, G0, G, en, _, sr, hw, fun v H1 G1 d h1 x1 r1 => by
    obtain ⟨a, k, xs, ds, rfl, hs, ra, hr⟩ := RdM.sq (H0 := H0) (ds := []) r1 x1.sub h1
    refine ⟨a, k, xs, rfl, hs G1 H1 ?_, hv _ G1 H1 ds hr x1 (wk_seq hs ra)⟩
    cases m
    · exact ⟨Same.refl' _, x1.sub, fun b o q => x1.hh b o (sr.x.hh b o q)⟩
    · exact Ext.refl x1.sub⟩
theorem Md.start {H0 G H G1 H1 : Hp} (h : Same H0 H) (x1 : Ext G H G1 H1) : Md m H0 G1 H1 G1 H1 := by
  cases m
  · exact ⟨Same.refl' _, x1.sub, fun b o q => x1.hh b o (h b o q)⟩
  · exact Ext.refl x1.sub
def one1 (P : D → Prop) : List D → Prop
  | [x] => P x
  | _ => False
def two2 (P : D → D → Prop) : List D → Prop
  | [x, y] => P x y
  | _ => False
theorem one1.of {P : D → Prop} {ds : List D} (h : one1 P ds) : ∃ x, ds = [x] ∧ P x := by
  rcases ds with _ | ⟨x, _ | ⟨y, l⟩⟩
  · exact h.elim
  · exact ⟨x, rfl, h⟩
  · exact h.elim
theorem two2.of {P : D → D → Prop} {ds : List D} (h : two2 P ds) : ∃ x y, ds = [x, y] ∧ P x y := by
  rcases ds with _ | ⟨x, _ | ⟨y, _ | ⟨z, l⟩⟩⟩
  · exact h.elim
  · exact h.elim
  · exact ⟨x, y, rfl, h⟩
  · exact h.elim
theorem i_rng1 {tg e : Expr} {a : Ex} {p pos : Pos} (h : Here X sc N) (am : Amb X F fs) (g : glB sc (Str.ofString "range") = true) (hs : notStar e = true) (ha : PE X e (tDB X.K F a)) : PI X tg (.Call (.Name (Str.ofString "range") p) [e] [] pos) (tSrc m X.K F (.rng1 a)) :=
  (pi_range1 (gl_at h g) (am.blt "range" (by decide)) (ab_cons (F := F) hs ha ab_nil) (star_of hs)).imp fun σ H Q ⟨H0, G0, G, en, Rr, sr, hw, hv⟩ => by
    have hw' : wpEs F (.cons a .nil) en (one1 fun x => intOf x fun i => small62 i ∧ Rr (rngD 0 i.toNat)) := hw
    refine ⟨H0, G0, G, en, _, sr, hw', fun vs H1 G1 ds h1 x1 r1 => ?_⟩
    obtain ⟨x, rfl, h1⟩ := h1.of
    cases x with
    | int i =>
      obtain ⟨v, rfl, rv⟩ := r1.one
      cases rv.int
      exact ⟨i, rfl, h1.1.1, h1.1.2, hv _ G1 H1 _ h1.2 x1 wk_rng⟩
    | _ => exact False.elim h1
theorem i_rng2 {tg e e2 : Expr} {a b : Ex} {p pos : Pos} (h : Here X sc N) (am : Amb X F fs) (g : glB sc (Str.ofString "range") = true) (hs : notStar e = true) (hs2 : notStar e2 = true) (ha : PE X e (tDB X.K F a)) (hb : PE X e2 (tDB X.K F b)) : PI X tg (.Call (.Name (Str.ofString "range") p) [e, e2] [] pos) (tSrc m X.K F (.rng2 a b)) :=
  (pi_range2 (gl_at h g) (am.blt "range" (by decide)) (ab_cons (F := F) hs ha (ab_cons hs2 hb ab_nil)) (by rw [star_of hs, star_of hs2]; rfl) (by rw [star_of hs2]; rfl)).imp fun σ H Q ⟨H0, G0, G, en, Rr, sr, hw, hv⟩ => by
    have hw' : wpEs F (.cons a (.cons b .nil)) en (two2 fun x y => intOf x fun i => intOf y fun j => (small62 i ∧ small62 j) ∧ Rr (rngD i (j - i).toNat)) := hw
    refine ⟨H0, G0, G, en, _, sr, hw', fun vs H1 G1 ds h1 x1 r1 => ?_⟩
    obtain ⟨x, y, rfl, h1⟩ := h1.of
    cases x with
    | int i =>
      cases y with
      | int j =>
        obtain ⟨v, w, rfl, rv, rw⟩ := r1.two
        cases rv.int
        cases rw.int
        exact ⟨i, j, rfl, ⟨h1.1.1.1, h1.1.1.2, h1.1.2.1, h1.1.2.2⟩, hv _ G1 H1 _ h1.2 x1 wk_rng⟩
      | _ => exact False.elim h1
    | _ => exact False.elim h1
/-- expressions to be read in the mode m, one after another -/
def tDAM (m : Bool) (K : PySem.W.Frag) (F : FT) (es : Exs) : TA := fun σ H Q => ∃ H0 G0 G e R, SR K H0 G0 G H σ e ∧ wpEs F es e R ∧ ∀ vs H' G' ds, R ds → Ext G H G' H' → Paired (fun v d => RdM m K G' H' v d) vs ds → Q vs H'
theorem am_nil : PA X [] (tDAM m X.K F .nil) := pa_nil.imp fun σ H Q ⟨H0, G0, G, en, R, sr, hw, hv⟩ => hv [] H G [] hw (.refl sr.x.sub) .nil
theorem am_cons {a : Ex} {es : Exs} {e : Expr} {l : List Expr} (hs : notStar e = true) (ha : PE X e (tDM m X.K F a)) (hr : PA X l (tDAM m X.K F es)) : PA X (e :: l) (tDAM m X.K F (.cons a es)) :=
  (pa_cons ha hr (star_of hs)).imp fun σ H Q ⟨H0, G0, G, en, R, sr, hw, hv⟩ => ⟨H0, G0, G, en, _, sr, hw, fun v H1 G1 d1 h1 x1 r1 => ⟨H0, G0, G1, en, _, sr.ext x1, h1, fun vs H2 G2 ds h2 x2 r2 =>
    hv _ H2 G2 _ h2 (x1.trans x2) (.cons (r1.ext x2) r2)⟩⟩
theorem i_enm {e : Expr} {es : List Expr} {k : Nat} {a : Ex} {p p2 pos : Pos} (h : Here X sc N) (am : Amb X F fs) (g : glB sc (Str.ofString "enumerate") = true) (hs : notStar e = true) (ha : PE X e (tDM m X.K F a)) :
    PI X (.Tuple es k p2) (.Call (.Name (Str.ofString "enumerate") p) [e] [] pos) (tSrc m X.K F (.enm a)) :=
  (pi_enumK (gl_at h g) (am.blt "enumerate" (by decide)) (am_cons (F := F) hs ha am_nil) (star_of hs)).imp fun σ H Q ⟨H0, G0, G, en, Rr, sr, hw, hv⟩ => by
    have hw' : wpEs F (.cons a .nil) en (one1 fun x => seqOf x fun xs => Rr (enumD xs)) := hw
    refine ⟨H0, G0, G, en, _, sr, hw', fun vs H1 G1 ds h1 x1 r1 => ?_⟩
    obtain ⟨x, rfl, h1⟩ := h1.of
    obtain ⟨v, rfl, rv⟩ : ∃ v, vs = [v] ∧ RdM m X.K G1 H1 v x := by
      cases r1 with
      | cons h r => cases r; exact ⟨_, rfl, h⟩
    obtain ⟨a, k, xs, ds, rfl, hq, ra, hr⟩ := RdM.sq (H0 := H0) (ds := []) rv x1.sub h1
    exact ⟨a, k, xs, rfl, hq G1 H1 (Md.start sr.x.hh x1), hv _ G1 H1 _ hr x1 (wk_enum hq ra)⟩
theorem i_zip2 {e e2 : Expr} {es : List Expr} {k : Nat} {a b : Ex} {p p2 pos : Pos} (h : Here X sc N) (am : Amb X F fs) (g : glB sc (Str.ofString "zip") = true) (hs : notStar e = true) (hs2 : notStar e2 = true) (ha : PE X e (tDM m X.K F a)) (hb : PE X e2 (tDM m X.K F b)) :
    PI X (.Tuple es k p2) (.Call (.Name (Str.ofString "zip") p) [e, e2] [] pos) (tSrc m X.K F (.zip2 a b)) := by
  have hst : starsB [e2] = true := by unfold starsB; rw [hs2]; rfl
  refine (pi_zipK (gl_at h g) (am.blt "zip" (by decide)) (am_cons (F := F) hs ha (am_cons hs2 hb am_nil)) (star_of hs) (stars_plain hst)).imp fun σ H Q ⟨H0, G0, G, en, Rr, sr, hw, hv⟩ => ?_
  have hw' : wpEs F (.cons a (.cons b .nil)) en (two2 fun x y => seqOf x fun xs => seqOf y fun ys => Rr (zipD2 xs ys)) := hw
  refine ⟨H0, G0, G, en, _, sr, hw', fun vs H1 G1 ds h1 x1 r1 => ?_⟩
  obtain ⟨x, y, rfl, h1⟩ := h1.of
  obtain ⟨v, w, rfl, rv, rw⟩ : ∃ v w, vs = [v, w] ∧ RdM m X.K G1 H1 v x ∧ RdM m X.K G1 H1 w y := by
    cases r1 with
    | cons h r =>
      cases r with
      | cons h2 r => cases r; exact ⟨_, _, rfl, h, h2⟩
  obtain ⟨a, k1, xs, ds, rfl, hq, ra, hr⟩ := RdM.sq (H0 := H0) (ds := []) rv x1.sub h1
  obtain ⟨b, k2, ys, es, rfl, hq2, rb, hr⟩ := RdM.sq (H0 := H0) (ds := []) rw x1.sub hr
  exact ⟨a, b, k1, k2, xs, ys, rfl, hq G1 H1 (Md.start sr.x.hh x1), hq2 G1 H1 (Md.start sr.x.hh x1), hv _ G1 H1 _ hr x1 (wk_zip hq ra hq2 rb)⟩
end
end Z

namespace Z
open PySem PySem.Spec PyProof.Rows L2
/-! list comprehensions -/
theorem mapTake {α β : Type} {ds : List α} {f : α → β} {i : Nat} {d : α} (h : ds[i]? = some d) : (ds.take (i + 1)).map f = (ds.take i).map f ++ [f d] := by
  obtain ⟨hi, e⟩ := List.getElem?_eq_some_iff.mp h
  rw [List.take_succ_eq_append_getElem hi, List.map_append, e]
  try rfl
theorem filtTake {α β : Type} {ds : List α} {f : α → Option β} {i : Nat} {d : α} (h : ds[i]? = some d) : (ds.take (i + 1)).filterMap f = (ds.take i).filterMap f ++ (f d).toList := by
  obtain ⟨hi, e⟩ := List.getElem?_eq_some_iff.mp h
  rw [List.take_succ_eq_append_getElem hi, List.filterMap_append, e]
  cases q : f d <;> simp [q]
section
variable {K : PySem.W.Frag} {F : FT} {own : List Nat} {tg : Tg} {src : Src} {elt cnd : Ex}
/-- the new list grows at p -/
def LI (K : PySem.W.Frag) (G1 H1 : Hp) (p : Addr) (ds : List D) (G H : Hp) : Prop := Ext G1 H1 G H ∧ G p = none ∧ ∃ acc, H p = some (.lst acc) ∧ RepAll K G acc ds
theorem LI.ext {G1 H1 G H G' H' : Hp} {p : Addr} {ds : List D} (l : LI K G1 H1 p ds G H) (x : Ext G H G' H') : LI K G1 H1 p ds G' H' := by
  obtain ⟨x0, gp, acc, hp, r⟩ := l
  refine ⟨x0.trans x, ?_, acc, x.hh _ _ hp, r.mono x.gg⟩
  cases q : G' p with
  | none => rfl
  | some o =>
    rcases x.new p o q with z | z | ⟨xs, z⟩
    · rw [gp] at z; cases z
    · rw [hp] at z; cases z
    · rw [hp] at z; cases z
theorem LI.app {G1 H1 G H : Hp} {p : Addr} {ds : List D} {acc : List V} {y : V} {d : D} (hp1 : H1 p = none) (l : LI K G1 H1 p ds G H) (ha : H p = some (.lst acc)) (r : Rep K G y d) : LI K G1 H1 p (ds ++ [d]) G (upd H p (.lst (acc ++ [y]))) := by
  obtain ⟨x0, gp, acc', hp, ra⟩ := l
  rw [ha] at hp
  cases hp
  refine ⟨⟨x0.gg, fun b o h => ?_, fun b o h => ?_, x0.new⟩, gp, _, upd_same, ra.append (.cons r .nil)⟩
  · rw [upd_ne (ne_of_none h hp1)]; exact x0.hh _ _ h
  · rw [upd_ne (ne_of_none h gp)]; exact x0.sub _ _ h
theorem lc_rd {σ : L2.St} {H : Hp} {Q : VK} (hs : ∀ j ∈ slT tg, j ∈ own) (h : tDX K F (.lc own tg src elt) σ H Q) : tLc (tSrc true K F src) (gD K tg) tYes (tDE K F elt) own σ H Q := by
  obtain ⟨H0, G0, G, e, R, sr, hw, hv⟩ := h
  refine ⟨H0, G0, G, e, _, sr, hw, fun J G1 H1 ds hds x1 wk => fun p hp => ?_⟩
  obtain ⟨f, hf, hz, hr⟩ := hds
  refine ⟨fun i n H => n = ds.length - i ∧ i ≤ ds.length ∧ ∃ G, LI K G1 H1 p ((ds.take i).map f) G H, ⟨ds.length, by simp, Nat.zero_le _, G1, Ext.laid x1.sub hp, x1.sub.none hp, [], upd_same, .nil⟩, ?_⟩
  rintro i n H2 ⟨rfl, hi, G2, li⟩
  by_cases hlt : i < ds.length
  · refine .inr ⟨wk.go i G2 H2 hlt li.1, fun H' => ∃ G', LI K G1 H1 p ((ds.take (i + 1)).map f) G' H', fun H' ⟨G', l'⟩ => ⟨ds.length - (i + 1), by omega, rfl, hlt, G', l'⟩, fun v H3 y => ?_⟩
    obtain ⟨G3, d, x3, hd, rv⟩ := wk.yld i G2 H2 v H3 hlt li.1 y
    have li3 := li.ext x3
    have sr3 := ((sr.ext x1).ext li3.1).wipe own
    refine ⟨H0, G0, G3, _, d, _, sr3, rv, hf d (List.mem_of_getElem? hd), fun σ' e' h' sr' ag => ⟨?_, ?_⟩⟩
    · exact (wipe_agr ag hs).trans (wipe_wipe σ own)
    · exact ⟨H0, G0, G3, e', _, sr', h', fun w H4 G4 d4 h4 x4 r4 => by
        subst h4
        have li4 := li3.ext x4
        obtain ⟨_, _, acc, ha, ra⟩ := id li4
        refine ⟨acc, ha, ?_, G4, ?_⟩
        · have := ra.length
          rw [this, List.length_map, List.length_take]
          have : ds.length ≤ sizeLine := hz
          omega
        · rw [mapTake hd]
          exact li4.app hp ha r4⟩
  · have e : i = ds.length := by omega
    subst e
    refine .inl ⟨wk.stop G2 H2 li.1, ?_⟩
    obtain ⟨x2, gp, acc, ha, ra⟩ := li
    rw [List.take_length] at ra
    exact hv _ H2 G2 _ hr (x1.trans x2) (.inl ⟨rfl, p, rfl, x1.hh.free hp, gp, acc, ha, ra⟩)
theorem lcIf_rd {σ : L2.St} {H : Hp} {Q : VK} (hs : ∀ j ∈ slT tg, j ∈ own) (h : tDX K F (.lcIf own tg src cnd elt) σ H Q) : tLc (tSrc true K F src) (gD K tg) (tDT K F cnd) (tDE K F elt) own σ H Q := by
  obtain ⟨H0, G0, G, e, R, sr, hw, hv⟩ := h
  refine ⟨H0, G0, G, e, _, sr, hw, fun J G1 H1 ds hds x1 wk => fun p hp => ?_⟩
  obtain ⟨f, hf, hz, hr⟩ := hds
  refine ⟨fun i n H => n = ds.length - i ∧ i ≤ ds.length ∧ ∃ G, LI K G1 H1 p ((ds.take i).filterMap f) G H, ⟨ds.length, by simp, Nat.zero_le _, G1, Ext.laid x1.sub hp, x1.sub.none hp, [], upd_same, .nil⟩, ?_⟩
  rintro i n H2 ⟨rfl, hi, G2, li⟩
  by_cases hlt : i < ds.length
  · refine .inr ⟨wk.go i G2 H2 hlt li.1, fun H' => ∃ G', LI K G1 H1 p ((ds.take (i + 1)).filterMap f) G' H', fun H' ⟨G', l'⟩ => ⟨ds.length - (i + 1), by omega, rfl, hlt, G', l'⟩, fun v H3 y => ?_⟩
    obtain ⟨G3, d, x3, hd, rv⟩ := wk.yld i G2 H2 v H3 hlt li.1 y
    have li3 := li.ext x3
    have sr3 := ((sr.ext x1).ext li3.1).wipe own
    refine ⟨H0, G0, G3, _, d, _, sr3, rv, hf d (List.mem_of_getElem? hd), fun σ' e' h' sr' ag => ⟨(wipe_agr ag hs).trans (wipe_wipe σ own), ?_⟩⟩
    refine ⟨H0, G0, G3, e', _, sr', h', fun b H4 G4 h4 x4 => ?_⟩
    have li4 := li3.ext x4
    cases b with
    | false =>
      have h4' : f d = none := h4
      refine iteF ⟨G4, ?_⟩
      rw [filtTake hd, h4', Option.toList_none, List.append_nil]
      exact li4
    | true =>
      refine iteT ⟨H0, G0, G4, e', (fun y => f d = some y), sr'.ext x4, h4, fun w H5 G5 d5 h5 x5 r5 => ?_⟩
      have li5 := li4.ext x5
      obtain ⟨_, _, acc, ha, ra⟩ := id li5
      refine ⟨acc, ha, ?_, G5, ?_⟩
      · have := ra.length
        have l2 := List.length_filterMap_le f (ds.take i)
        rw [List.length_take] at l2
        rw [this]
        have : ds.length ≤ sizeLine := hz
        omega
      · rw [filtTake hd, h5, Option.toList_some]
        exact li5.app hp ha r5
  · have e : i = ds.length := by omega
    subst e
    refine .inl ⟨wk.stop G2 H2 li.1, ?_⟩
    obtain ⟨x2, gp, acc, ha, ra⟩ := li
    rw [List.take_length] at ra
    exact hv _ H2 G2 _ hr (x1.trans x2) (.inl ⟨rfl, p, rfl, x1.hh.free hp, gp, acc, ha, ra⟩)
end
/-! the block's context -/
abbrev blkX (X : Cx) (scope : Scope) (s : Shared) (H : Hp) (C : Addr) (cl : List (Str × Addr)) (fp : List Addr) : Cx := X.blk s H scope (compEnvC scope cl C X.env) fp
section
variable {X : Cx} {F : FT} {sc scope : Scope} {N : List Str} {fs : List (String × Nat × Bool)}
theorem Here.blk (h : Here X sc N) (s : Shared) (H : Hp) (C : Addr) (cl : List (Str × Addr)) (fp : List Addr) : Here (blkX X scope s H C cl fp) (relS scope sc) N :=
  ⟨h.n, by show relS scope X.env.scope = _; rw [h.sc], h.nd⟩
theorem Amb.blk (am : Amb X F fs) (s : Shared) (H : Hp) (C : Addr) (cl : List (Str × Addr)) (fp : List Addr) : Amb (blkX X scope s H C cl fp) F fs := by
  refine ⟨am.calm, am.un, am.blt, fun p hp => ⟨?_⟩⟩
  exact (am.fn p hp).ex
def ownN (N : List Str) (own : List Nat) : List (Str × Nat) := own.map fun i => (N.getD i (Str.ofString ""), i)
theorem ownN_snd (N : List Str) (own : List Nat) : (ownN N own).map (·.2) = own := by
  unfold ownN
  rw [List.map_map]
  exact List.map_id'' (fun _ => rfl) own
def subB (us vs : List Nat) : Bool := us.all fun j => vs.contains j
theorem subB_of {us vs : List Nat} (h : subB us vs = true) : ∀ j ∈ us, j ∈ vs := fun j hj => by
  unfold subB at h
  rw [List.all_eq_true] at h
  simpa using h j hj
variable {own : List Nat} {tg : Tg} {src : Src} {elt cnd : Ex}
theorem e_lc {e t i : Expr} {pos : Pos} (h : Here X sc N) (am : Amb X F fs) (hb : blkC N sc scope (ownN N own) = true) (hs : subB (slT tg) own = true) (hn : notSet i = true) (ht : chkT false (relS scope sc) N tg t = true)
    (hi : PI X t i (tSrc true X.K F src)) (he : ∀ s H C cl fp, PE (blkX X scope s H C cl fp) e (tDE X.K F elt)) : PE X (.ListComp e [⟨t, i, [], 0⟩] scope pos) (tDX X.K F (.lc own tg src elt)) := by
  have ok := blkOk_by hb
  refine (pe_lc (own := ownN N own) (g := gD X.K tg) (tt := tYes) (te := tDE X.K F elt) am.calm (by rw [h.n]; exact h.nd) hi (by rw [h.n, h.sc]; exact ok) (fun s H C cl fp => p_tg (h.blk s H C cl fp) am.calm (by intro z; cases z) tg ht) (fun s H C cl fp => pts_nil) he (folded_of hn)).imp fun σ H Q q => ?_
  rw [ownN_snd]
  exact lc_rd (subB_of hs) q
theorem e_lcIf {e t i c : Expr} {pos : Pos} (h : Here X sc N) (am : Amb X F fs) (hb : blkC N sc scope (ownN N own) = true) (hs : subB (slT tg) own = true) (hn : notSet i = true) (ht : chkT false (relS scope sc) N tg t = true)
    (hi : PI X t i (tSrc true X.K F src)) (hc : ∀ s H C cl fp, PT (blkX X scope s H C cl fp) c (tDT X.K F cnd)) (he : ∀ s H C cl fp, PE (blkX X scope s H C cl fp) e (tDE X.K F elt)) : PE X (.ListComp e [⟨t, i, [c], 0⟩] scope pos) (tDX X.K F (.lcIf own tg src cnd elt)) := by
  have ok := blkOk_by hb
  refine (pe_lc (own := ownN N own) (g := gD X.K tg) (tt := tDT X.K F cnd) (te := tDE X.K F elt) am.calm (by rw [h.n]; exact h.nd) hi (by rw [h.n, h.sc]; exact ok) (fun s H C cl fp => p_tg (h.blk s H C cl fp) am.calm (by intro z; cases z) tg ht) (fun s H C cl fp => pts_one (hc s H C cl fp)) he (folded_of hn)).imp fun σ H Q q => ?_
  rw [ownN_snd]
  exact lcIf_rd (subB_of hs) q
/-- name = [..] on one line -/
def oneLine (py pos : Pos) : Bool := py.line == pos.line
def noOwn (scope : Scope) (y : Str) : Bool := !(scope.names.any fun (n, k) => n == y && (k == .local || k == .cell))
theorem s_lc {j : Nat} {y : Str} {py : Pos} {e t i : Expr} {pos spos : Pos} (h : Here X sc N) (am : Amb X F fs) (hk : X.env.scope.kind = .function) (hy : nameAt N j y = true) (hyl : lclB sc y = true) (hl : oneLine py pos = true) (ho : noOwn scope y = true)
    (hb : blkC N sc scope (ownN N own) = true) (hs : subB (slT tg) own = true) (hn : notSet i = true) (ht : chkT false (relS scope sc) N tg t = true)
    (hi : PI X t i (tSrc true X.K F src)) (he : ∀ s H C cl fp, PE (blkX X scope s H C cl fp) e (tDE X.K F elt)) : PS X (.Assign [.Name y py] (.ListComp e [⟨t, i, [], 0⟩] scope pos) spos) (tAsg (tDX X.K F (.lc own tg src elt)) (gName j)) := by
  have ok := blkOk_by hb
  have hl' : X.env.scope.names.lookup y = some .local := by rw [h.sc]; exact lcl_of hyl
  refine (ps_setLc (own := ownN N own) (g := gD X.K tg) (tt := tYes) (te := tDE X.K F elt) am.calm (by rw [h.n]; exact h.nd) (by rw [h.n]; exact of_decide_eq_true hy) hl' (sw_true hk hl' hl (by simpa [noOwn] using ho)) hi (by rw [h.n, h.sc]; exact ok)
    (fun s H C cl fp => p_tg (h.blk s H C cl fp) am.calm (by intro z; cases z) tg ht) (fun s H C cl fp => pts_nil) he (folded_of hn)).imp fun D σ H q => ?_
  rw [ownN_snd]
  exact lc_rd (subB_of hs) q
theorem s_lcIf {j : Nat} {y : Str} {py : Pos} {e t i c : Expr} {pos spos : Pos} (h : Here X sc N) (am : Amb X F fs) (hk : X.env.scope.kind = .function) (hy : nameAt N j y = true) (hyl : lclB sc y = true) (hl : oneLine py pos = true) (ho : noOwn scope y = true)
    (hb : blkC N sc scope (ownN N own) = true) (hs : subB (slT tg) own = true) (hn : notSet i = true) (ht : chkT false (relS scope sc) N tg t = true)
    (hi : PI X t i (tSrc true X.K F src)) (hc : ∀ s H C cl fp, PT (blkX X scope s H C cl fp) c (tDT X.K F cnd)) (he : ∀ s H C cl fp, PE (blkX X scope s H C cl fp) e (tDE X.K F elt)) : PS X (.Assign [.Name y py] (.ListComp e [⟨t, i, [c], 0⟩] scope pos) spos) (tAsg (tDX X.K F (.lcIf own tg src cnd elt)) (gName j)) := by
  have ok := blkOk_by hb
  have hl' : X.env.scope.names.lookup y = some .local := by rw [h.sc]; exact lcl_of hyl
  refine (ps_setLc (own := ownN N own) (g := gD X.K tg) (tt := tDT X.K F cnd) (te := tDE X.K F elt) am.calm (by rw [h.n]; exact h.nd) (by rw [h.n]; exact of_decide_eq_true hy) hl' (sw_true hk hl' hl (by simpa [noOwn] using ho)) hi (by rw [h.n, h.sc]; exact ok)
    (fun s H C cl fp => p_tg (h.blk s H C cl fp) am.calm (by intro z; cases z) tg ht) (fun s H C cl fp => pts_one (hc s H C cl fp)) he (folded_of hn)).imp fun D σ H q => ?_
  rw [ownN_snd]
  exact lcIf_rd (subB_of hs) q
end
end Z

namespace Z
open PySem PySem.Spec PyProof.Rows L2
/-! weakening -/
theorem SR.weak {K : PySem.W.Frag} {H0 G0 G H : Hp} {σ : L2.St} {e f : En} (r : SR K H0 G0 G H σ e) (h : EnLe e f) : ∃ G', Same G G' ∧ SR K H0 G0 G' H σ f := by
  have len : ∀ {e f : En}, EnLe e f → e.length = f.length := by
    intro e
    induction e with
    | nil =>
      intro f h
      cases f with
      | nil => rfl
      | cons => exact h.elim
    | cons s e ih =>
      intro f h
      cases f with
      | nil => exact h.elim
      | cons t f => exact congrArg (· + 1) (ih h.2)
  have at' : ∀ {e f : En} {n : Nat} {s t : Sl}, EnLe e f → e[n]? = some s → f[n]? = some t → SlLe s t := by
    intro e
    induction e with
    | nil => intro f n s t h h1; simp at h1
    | cons s e ih =>
      intro f n s' t' h h1 h2
      cases f with
      | nil => exact h.elim
      | cons t f =>
        cases n with
        | zero =>
          simp only [List.getElem?_cons_zero, Option.some.injEq] at h1 h2
          subst h1 h2
          exact h.1
        | succ n =>
          simp only [List.getElem?_cons_succ] at h1 h2
          exact ih h.2 h1 h2
  have hl := len h
  have key : ∀ n, n ≤ e.length → ∃ G', Same G G' ∧ SR K H0 G0 G' H σ (f.take n ++ e.drop n) := by
    intro n
    induction n with
    | zero => intro _; exact ⟨G, Same.refl' _, by simpa using r⟩
    | succ n ih =>
      intro hn
      obtain ⟨G1, g1, r1⟩ := ih (by omega)
      have hn' : n < e.length := by omega
      have hf' : n < f.length := by omega
      have e1 : (f.take n ++ e.drop n)[n]? = some e[n] := by
        rw [List.getElem?_append_right (by rw [List.length_take]; omega), List.length_take, List.getElem?_drop]
        rw [show n + (n - min n f.length) = n by omega]
        exact List.getElem?_eq_getElem hn'
      have e2 : ∀ t, (f.take n ++ e.drop n).set n t = f.take n ++ t :: e.drop (n + 1) := fun t => by
        have hlt : (f.take n).length = n := by rw [List.length_take]; omega
        rw [List.set_append_right _ _ (by omega), hlt, Nat.sub_self, List.drop_eq_getElem_cons hn']
        rfl
      have e3 : f.take (n + 1) ++ e.drop (n + 1) = f.take n ++ f[n] :: e.drop (n + 1) := by
        rw [List.take_succ_eq_append_getElem hf', List.append_assoc]; rfl
      have sl := at' h (List.getElem?_eq_getElem hn') (List.getElem?_eq_getElem hf')
      rw [e3]
      have same : e[n] = f[n] → ∃ G', Same G G' ∧ SR K H0 G0 G' H σ (f.take n ++ f[n] :: e.drop (n + 1)) := fun q => by
        refine ⟨G1, g1, ?_⟩
        rw [← q]
        have : f.take n ++ e[n] :: e.drop (n + 1) = f.take n ++ e.drop n := by rw [List.drop_eq_getElem_cons hn']
        rw [this]
        exact r1
      cases hs : e[n] with
      | any =>
        cases ht : f[n] with
        | any => rw [← ht]; exact same (by rw [hs, ht])
        | _ => rw [hs, ht] at sl; exact sl.elim
      | sh d =>
        cases ht : f[n] with
        | any => refine ⟨G1, g1, ?_⟩; rw [← e2]; exact r1.any n
        | sh d' => rw [hs, ht] at sl; rw [← ht]; exact same (by rw [hs, ht]; exact congrArg Sl.sh sl)
        | ow d' => rw [hs, ht] at sl; exact sl.elim
      | ow d =>
        cases ht : f[n] with
        | any => refine ⟨G1, g1, ?_⟩; rw [← e2]; exact r1.any n
        | sh d' =>
          rw [hs, ht] at sl
          rw [hs] at e1
          obtain ⟨G2, g2, r2⟩ := r1.frz e1
          refine ⟨G2, fun b o q => g2 b o (g1 b o q), ?_⟩
          rw [← e2, ← show d = d' from sl]
          exact r2
        | ow d' => rw [hs, ht] at sl; rw [← ht]; exact same (by rw [hs, ht]; exact congrArg Sl.ow sl)
  obtain ⟨G', g, r'⟩ := key e.length (Nat.le_refl _)
  refine ⟨G', g, ?_⟩
  rw [hl, List.take_length] at r'
  rw [← hl, List.drop_length, List.append_nil] at r'
  exact r'
/-! ### the reading of a statement -/
def RT (fr : Bool) (K : PySem.W.Frag) (G H : Hp) (R : D → Prop) (Q : VK) : Prop := if fr = true then VX K G H R Q else VP K G H R Q
def NX (K : PySem.W.Frag) (H0 G0 G : Hp) (P : En → Prop) (Q : L2.St → Hp → Prop) : Prop := ∀ σ' H' G' e', P e' → Same G G' → SR K H0 G0 G' H' σ' e' → Q σ' H'
def tDS (K : PySem.W.Frag) (F : FT) (fr : Bool) (st : St) : TS := fun D σ H => ∃ H0 G0 G e P, SR K H0 G0 G H σ e ∧ wpB F st e P ∧ NX K H0 G0 G P.nx D.nx ∧ RT fr K G0 H0 P.rt D.rt
theorem NX.of {K : PySem.W.Frag} {H0 G0 G G1 : Hp} {P : En → Prop} {Q : L2.St → Hp → Prop} (h : NX K H0 G0 G P Q) (g : Same G G1) : NX K H0 G0 G1 P Q := fun σ' H' G' e' p g' sr => h σ' H' G' e' p (fun b o q => g' b o (g b o q)) sr
section
variable {X : Cx} {F : FT} {fr : Bool}
theorem s_set {i : Nat} {a : Ex} {st : Stmt} (h : PS X st (tAsg (tDE X.K F a) (gName i))) : PS X st (tDS X.K F fr (.asg i a)) :=
  h.imp fun D σ H ⟨H0, G0, G, e, P, sr, hw, hn, hr⟩ => ⟨H0, G0, G, e, _, sr, hw, fun v H1 G1 d h1 x1 r1 => hn _ H1 G1 _ h1 x1.gg ((sr.ext x1).setS i r1)⟩
theorem s_setX {i : Nat} {a : Ex} {st : Stmt} (h : PS X st (tAsg (tDX X.K F a) (gName i))) : PS X st (tDS X.K F fr (.asg i a)) :=
  h.imp fun D σ H ⟨H0, G0, G, e, P, sr, hw, hn, hr⟩ => ⟨H0, G0, G, e, _, sr, hw, VP.x fun v H1 G1 d h1 x1 r1 => hn _ H1 G1 _ h1 x1.gg ((sr.ext x1).setS i r1)⟩
theorem SR.fresh {K : PySem.W.Frag} {H0 G0 G H : Hp} {σ : L2.St} {e : En} (sr : SR K H0 G0 G H σ e) {a : Addr} (ha : H a = none) (j : Nat) : ¬ Ows σ e j a := fun ⟨⟨d, hd⟩, hv⟩ => by
  obtain ⟨v, h1, b, h2, h3, h4, h5⟩ := sr.slot j _ hd
  rw [h1, h2] at hv
  cases hv
  obtain ⟨u, hu, _⟩ := h5.ex
  rw [ha] at hu; cases hu
theorem SR.own {K : PySem.W.Frag} {H0 G0 G H G1 H1 : Hp} {σ : L2.St} {e : En} (sr : SR K H0 G0 G H σ e) (x : Ext G H G1 H1) {v : V} {d : D} (i : Nat) (hl : isLD d = true) (f : Frs K H G1 H1 v d) : SR K H0 G0 G1 H1 (σ.set i (some v)) (e.set i (.ow d)) := by
  rcases f with ⟨_, a, rfl, ha, hg, o⟩ | ⟨hf, _⟩
  · exact (sr.ext x).setO i (sr.x.hh.free ha) hg o fun j _ => sr.fresh ha j
  · rw [hl] at hf; cases hf
theorem s_setO {i : Nat} {a : Ex} {st : Stmt} (h : PS X st (tAsg (tDX X.K F a) (gName i))) : PS X st (tDS X.K F fr (.asgO i a)) :=
  h.imp fun D σ H ⟨H0, G0, G, e, P, sr, hw, hn, hr⟩ => ⟨H0, G0, G, e, _, sr, hw, fun v H1 G1 d h1 x1 f => hn _ H1 G1 _ h1.2 x1.gg (sr.own x1 i h1.1 f)⟩
variable {sc : Scope} {N : List Str} {fs : List (String × Nat × Bool)}
/-- a def's own context -/
structure TopX (X : Cx) (S : Scope) (N : List Str) : Prop extends Here X S N where
  kind : X.env.scope.kind = .function
  fnc : ∀ x, S.names.lookup x = some NameKind.cell → X.fn x = true
  xe : PassesOwn (model X.prog X.w) X.A X.env X.xe
theorem TopX.sto (h : TopX X sc N) {x : Str} (hl : locB sc x = true) : L2.Loc X.env.scope x ∧ (X.fn x = true ∨ X.env.scope.names.lookup x = some .local) := by
  have z := loc_of hl
  rw [h.sc]
  refine ⟨z, ?_⟩
  rcases z with z | z
  · exact .inr z
  · exact .inl (h.fnc x z)
theorem s_name {i : Nat} {x : Str} {e : Expr} {te : TE} {p pos : Pos} (h : TopX X sc N) (h1 : nameAt N i x = true) (h2 : locB sc x = true) (hn : notComp e = true) (he : PE X e te) : PS X (.Assign [.Name x p] e pos) (tAsg te (gName i)) :=
  ps_set (by rw [h.n]; exact h.nd) (by rw [h.n]; exact of_decide_eq_true h1) (h.sto h2).1 he (swap_of hn) (h.sto h2).2
/-- stores that are not swapped -/
def isTup : Expr → Bool
  | .Tuple .. => true
  | _ => false
def swNames (sc : Scope) (ts : List Expr) : List Str :=
  ts.filterMap fun
    | .Name id pos => if sc.names.lookup id == some .local && pos.line == (ts.head?.map (·.pos.line)).getD 0 then some id else none
    | _ => none
def swNone (sc : Scope) (ts vs : List Expr) : Bool :=
  (!(ts.length == 2 || ts.length == 3) || vs.length != ts.length) || (vs.any fun | .Starred .. => true | _ => false) || ((swNames sc ts).length != ts.length || (swNames sc ts).eraseDups.length != (swNames sc ts).length) || vs.all (foldedForSure 8)
def swSome (sc : Scope) (ts vs : List Expr) : Bool := !(swNone sc ts vs) && !(vs.all (constantsAlone 8))
theorem sw_eq {env : Env} {ts vs : List Expr} {k k2 : Nat} {p p2 : Pos} (hk : env.scope.kind = .function) : swappedStores [.Tuple ts k p] (.Tuple vs k2 p2) env =
    (if (!(ts.length == 2 || ts.length == 3) || vs.length != ts.length) = true then pure none else if (vs.any fun | .Starred .. => true | _ => false) = true then pure none else
      if ((swNames env.scope ts).length != ts.length || (swNames env.scope ts).eraseDups.length != (swNames env.scope ts).length) = true then pure none else if vs.all (foldedForSure 8) = true then pure none else
      if vs.all (constantsAlone 8) = true then (unsupported "assign.tuple-of-constant-expressions:order-of-the-stores" >>= fun (_ : Unit) => pure (some (swNames env.scope ts))) else pure (some (swNames env.scope ts))) := by
  have hb : (env.blockKind != .function) = false := by unfold Env.blockKind; rw [hk]; rfl
  unfold swappedStores
  simp only [hb, Bool.or_false]
  rfl
theorem sw_none {env : Env} {ts vs : List Expr} {k k2 : Nat} {p p2 : Pos} (hk : env.scope.kind = .function) (h : swNone env.scope ts vs = true) : swappedStores [.Tuple ts k p] (.Tuple vs k2 p2) env = pure none := by
  rw [sw_eq hk]
  unfold swNone at h
  split
  · rfl
  · split
    · rfl
    · split
      · rfl
      · split
        · rfl
        · rename_i h1 h2 h3 h4
          rw [Bool.not_eq_true] at h1 h2 h3 h4
          rw [h1, h2, h3, h4] at h
          cases h
theorem sw_some {env : Env} {ts vs : List Expr} {k k2 : Nat} {p p2 : Pos} (hk : env.scope.kind = .function) (h : swSome env.scope ts vs = true) : swappedStores [.Tuple ts k p] (.Tuple vs k2 p2) env = pure (some (swNames env.scope ts)) := by
  rw [sw_eq hk]
  unfold swSome at h
  rw [Bool.and_eq_true, Bool.not_eq_true', Bool.not_eq_true'] at h
  obtain ⟨h, h5⟩ := h
  unfold swNone at h
  simp only [Bool.or_eq_false_iff] at h
  obtain ⟨⟨⟨h1, h2⟩, h3⟩, h4⟩ := h
  have h1' : (!(ts.length == 2 || ts.length == 3) || vs.length != ts.length) = false := by rw [h1.1, h1.2]; rfl
  have h3' : ((swNames env.scope ts).length != ts.length || (swNames env.scope ts).eraseDups.length != (swNames env.scope ts).length) = false := by rw [h3.1, h3.2]; rfl
  rw [if_neg (by rw [h1']; decide), if_neg (by rw [h2]; decide), if_neg (by rw [h3']; decide), if_neg (by rw [h4]; decide), if_neg (by rw [h5]; decide)]
def unpOk (sc : Scope) (t e : Expr) : Bool :=
  match t, e with
  | .Tuple ts _ _, .Tuple vs _ _ => swNone sc ts vs
  | .Tuple _ _ _, _ => notComp e
  | _, _ => false
theorem s_unp {tg : Tg} {t e : Expr} {a : Ex} {pos : Pos} (h : TopX X sc N) (hc : X.calm = true) (hk : chkT true sc N tg t = true) (hu : unpOk sc t e = true) (he : PE X e (tDE X.K F a)) : PS X (.Assign [t] e pos) (tDS X.K F fr (.unp tg a)) := by
  have hsw : swapsWithSole [t] e pos.line X.env = pure false := by
    show swapsWith e (some t) pos.line X.env = pure false
    cases t with
    | Tuple ts k p =>
      cases e <;> rfl
    | _ => simp [unpOk] at hu
  have hss : swappedStores [t] e X.env = pure none := by
    cases t with
    | Tuple ts k p =>
      cases e with
      | Tuple vs k2 p2 => exact sw_none h.kind (by rw [h.sc]; exact hu)
      | _ => rfl
    | _ => simp [unpOk] at hu
  have h1 : (assignEach [t] X.env).map (·.2) = [assign t X.env] := by rw [aeach (chkT_star hk)]; rfl
  refine (ps_asg he (p_tg h.toHere hc (fun _ => h.fnc) tg hk) hsw hss h1).imp fun D σ H ⟨H0, G0, G, e, P, sr, hw, hn, hr⟩ => ?_
  refine ⟨H0, G0, G, e, _, sr, hw, fun v H1 G1 d h1 x1 r1 => ⟨H0, G0, G1, e, d, P.nx, sr.ext x1, r1, h1, fun σ' e' h' sr' ag => hn _ H1 G1 _ h' x1.gg sr'⟩⟩
/-- a, b = x, y with the stores swapped; the first may be owned -/
theorem fresh_two {K : PySem.W.Frag} {H0 G0 G H G1 H1 G2 H2 : Hp} {σ : L2.St} {e : En} {o : Bool} (sr : SR K H0 G0 G H σ e) (x1 : Ext G H G1 H1) {v : V} {d : D} (i : Nat) (hl : o = true → isLD d = true) (f : if o = true then Frs K H G1 H1 v d else Rep K G1 v d) (x2 : Ext G1 H1 G2 H2) :
    SR K H0 G0 G2 H2 (σ.set i (some v)) (e.set i (mk o d)) := by
  cases o with
  | true => exact (sr.own x1 i (hl rfl) f).ext x2
  | false => exact ((sr.ext x1).setS i f).ext x2
def tDP (o : Bool) (K : PySem.W.Frag) (F : FT) (a : Ex) : TE := if o = true then tDX K F a else tDE K F a
theorem tDP_of {K : PySem.W.Frag} {o : Bool} {a : Ex} {σ : L2.St} {H : Hp} {Q : VK} {H0 G0 G : Hp} {e : En} {R : D → Prop} (sr : SR K H0 G0 G H σ e) (hw : wpE F a e R) (hq : ∀ v H' G' d, R d → Ext G H G' H' → (if o = true then Frs K H G' H' v d else Rep K G' v d) → Q v H') : tDP o K F a σ H Q := by
  cases o with
  | true => exact ⟨H0, G0, G, e, R, sr, hw, hq⟩
  | false => exact ⟨H0, G0, G, e, R, sr, hw, hq⟩
theorem s_par2 {o : Bool} {i j : Nat} {a b : Ex} {x y : Str} {l r : Expr} {px py pt p2 pos : Pos} {kt k2 : Nat} (h : TopX X sc N) (hc : X.calm = true) (hi : nameAt N i x = true) (hj : nameAt N j y = true) (hij : (i != j) = true) (hx : lclB sc x = true) (hy : lclB sc y = true)
    (hs : swSome sc [.Name x px, .Name y py] [l, r] = true) (hn : decide (swNames sc [.Name x px, .Name y py] = [x, y]) = true) (s1 : notStar l = true) (s2 : notStar r = true) (ha : PE X l (tDP o X.K F a)) (hb : PE X r (tDE X.K F b)) :
    PS X (.Assign [.Tuple [.Name x px, .Name y py] kt pt] (.Tuple [l, r] k2 p2) pos) (tDS X.K F fr (.par2 i o a j b)) := by
  have hw : swappedStores [.Tuple [.Name x px, .Name y py] kt pt] (.Tuple [l, r] k2 p2) X.env = pure (some [x, y]) := by
    rw [sw_some h.kind (by rw [h.sc]; exact hs), h.sc, of_decide_eq_true hn]
  have hij' : i ≠ j := by simpa using hij
  refine (ps_par hc (by rw [h.n]; exact h.nd) (by rw [h.n]; exact of_decide_eq_true hi) (by rw [h.n]; exact of_decide_eq_true hj) hij' (by rw [h.sc]; exact lcl_of hx) (by rw [h.sc]; exact lcl_of hy)
    (pa_cons ha (pa_cons hb pa_nil (star_of s2)) (star_of s1)) hw).imp fun D σ H ⟨H0, G0, G, e, P, sr, hw, hnx, hr⟩ => ?_
  refine tDP_of sr hw fun v H1 G1 d h1 x1 f => ⟨H0, G0, G1, e, _, sr.ext x1, h1, fun w H2 G2 d2 h2 x2 r2 => ⟨v, w, rfl, ?_⟩⟩
  exact hnx _ H2 G2 _ h2.2 (x1.trans x2).gg ((fresh_two sr x1 i h2.1 f x2).setS j r2)
theorem s_par3 {o : Bool} {i j m : Nat} {a b c : Ex} {x y z : Str} {l r q : Expr} {px py pz pt p2 pos : Pos} {kt k2 : Nat} (h : TopX X sc N) (hc : X.calm = true) (hi : nameAt N i x = true) (hj : nameAt N j y = true) (hm : nameAt N m z = true) (hij : (i != j && i != m && j != m) = true)
    (hx : lclB sc x = true) (hy : lclB sc y = true) (hz : lclB sc z = true)
    (hs : swSome sc [.Name x px, .Name y py, .Name z pz] [l, r, q] = true) (hn : decide (swNames sc [.Name x px, .Name y py, .Name z pz] = [x, y, z]) = true) (s1 : notStar l = true) (s2 : notStar r = true) (s3 : notStar q = true)
    (ha : PE X l (tDP o X.K F a)) (hb : PE X r (tDE X.K F b)) (hd : PE X q (tDE X.K F c)) :
    PS X (.Assign [.Tuple [.Name x px, .Name y py, .Name z pz] kt pt] (.Tuple [l, r, q] k2 p2) pos) (tDS X.K F fr (.par3 i o a j b m c)) := by
  have hw : swappedStores [.Tuple [.Name x px, .Name y py, .Name z pz] kt pt] (.Tuple [l, r, q] k2 p2) X.env = pure (some [x, y, z]) := by
    rw [sw_some h.kind (by rw [h.sc]; exact hs), h.sc, of_decide_eq_true hn]
  simp only [Bool.and_eq_true, bne_iff_ne] at hij
  refine (ps_par3 hc (by rw [h.n]; exact h.nd) (by rw [h.n]; exact of_decide_eq_true hi) (by rw [h.n]; exact of_decide_eq_true hj) (by rw [h.n]; exact of_decide_eq_true hm) hij.1.1 hij.1.2 hij.2 (by rw [h.sc]; exact lcl_of hx) (by rw [h.sc]; exact lcl_of hy) (by rw [h.sc]; exact lcl_of hz)
    (pa_cons ha (pa_cons hb (pa_cons hd pa_nil (star_of s3)) (star_of s2)) (star_of s1)) hw).imp fun D σ H ⟨H0, G0, G, e, P, sr, hw, hnx, hr⟩ => ?_
  refine tDP_of sr hw fun v H1 G1 d h1 x1 f => ⟨H0, G0, G1, e, _, sr.ext x1, h1, fun w H2 G2 d2 h2 x2 r2 => ⟨H0, G0, G2, e, _, (sr.ext x1).ext x2, h2, fun u H3 G3 d3 h3 x3 r3 => ⟨v, w, u, rfl, ?_⟩⟩⟩
  exact hnx _ H3 G3 _ h3.2 ((x1.trans x2).trans x3).gg (((fresh_two sr x1 i h3.1 f (x2.trans x3)).setS j (r2.mono x3.gg)).setS m r3)
end
end Z

namespace Z
open PySem PySem.Spec PyProof.Rows L2
theorem e_own {X : Cx} {sc : Scope} {N : List Str} {i : Nat} {x : Str} {pos : Pos} (h : Here X sc N) (h1 : nameAt N i x = true) (h2 : visB sc x = true) (h3 : okName x = true) : PE X (.Name x pos) (tVar i) := by
  obtain ⟨k1, k2, k3⟩ := okName_of h3
  exact pe_var (i := i) (by rw [h.n]; exact of_decide_eq_true h1) (by rw [h.sc]; exact vis_of h2) k1 k2
theorem OwnAt.lst {K : PySem.W.Frag} {G H : Hp} {a : Addr} {ds : List D} (o : OwnAt K G H a (.list ds)) : ∃ xs, H a = some (.lst xs) ∧ RepAll K G xs ds := o
section
variable {X : Cx} {F : FT} {fr : Bool} {sc : Scope} {N : List Str} {fs : List (String × Nat × Bool)}
theorem SR.owat {K : PySem.W.Frag} {H0 G0 G H : Hp} {σ : L2.St} {e : En} (sr : SR K H0 G0 G H σ e) {i : Nat} {d : D} (he : e[i]? = some (.ow d)) : ∃ a, σ[i]? = some (some (.ref a)) ∧ H0 a = none ∧ G a = none ∧ OwnAt K G H a d ∧ Ows σ e i a := by
  obtain ⟨v, h1, a, rfl, h2, h3, h4⟩ := sr.slot i _ he
  exact ⟨a, h1, h2, h3, h4, ⟨d, he⟩, h1⟩
theorem SR.own2 {K : PySem.W.Frag} {H0 G0 G H : Hp} {σ : L2.St} {e : En} (sr : SR K H0 G0 G H σ e) {i : Nat} {a : Addr} {d : D} (he : e[i]? = some (.ow d)) (ha : σ[i]? = some (some (.ref a))) : H0 a = none ∧ G a = none ∧ OwnAt K G H a d ∧ Ows σ e i a := by
  obtain ⟨b, h1, h2, h3, h4, h5⟩ := sr.owat he
  rw [ha] at h1
  cases h1
  exact ⟨h2, h3, h4, h5⟩
theorem s_app {i : Nat} {a : Ex} {x : Str} {e : Expr} {xp apos cpos pos : Pos} (h : TopX X sc N) (h1 : nameAt N i x = true) (h2 : visB sc x = true) (h3 : okName x = true) (hs : notStar e = true) (hl : (apos.endLine == cpos.line) = true) (he : PE X e (tDE X.K F a)) :
    PS X (.Expr (.Call (.Attribute (.Name x xp) (Str.ofString "append") apos) [e] [] cpos) pos) (tDS X.K F fr (.app i a)) := by
  refine (ps_expr (pe_bm PySem.F.plainAttrs_list PySem.F.slot_list_append PySem.F.type_list_append mt_append (e_own h.toHere h1 h2 h3) (pa_cons he pa_nil (star_of hs)) (base_of rfl) (by rw [star_of hs]; rfl) hl (star_of hs) (stars_plain rfl))).imp
    fun D σ H ⟨H0, G0, G, en, P, sr, hw, hn, hr⟩ => ?_
  obtain ⟨d, hd, hw⟩ := gO_get hw
  obtain ⟨p, hp, h0, hg, ho, hO⟩ := sr.owat hd
  cases d with
  | list ds =>
    refine ⟨.ref p, hp, ?_, H0, G0, G, en, _, sr, hw, fun v H1 G1 d1 hd1 x1 r1 => ?_⟩
    · obtain ⟨xs, hx, _⟩ := ho
      exact .inl ⟨rfl, xs, .inl (.inl hx)⟩
    · obtain ⟨h0', hg', ⟨ys, hy, ry⟩, hO'⟩ := (sr.ext x1).own2 hd hp
      refine ⟨p, ys, v, rfl, rfl, hy, ?_, ?_⟩
      · rw [ry.length]; exact hd1.1
      · exact hn _ _ G1 _ hd1.2 x1.gg ((sr.ext x1).wr (d := PyData.none) hO' h0' hg' ⟨_, hy, trivial⟩ ⟨_, upd_same, ry.append (.cons r1 .nil)⟩)
  | _ => exact (show False from hw).elim
theorem s_aug {i : Nat} {a : Ex} {x : Str} {e : Expr} {xp pos : Pos} (h : TopX X sc N) (h1 : nameAt N i x = true) (h2 : locB sc x = true) (he : PE X e (tDE X.K F a)) :
    PS X (.AugAssign (.Name x xp) .Add e pos) (tDS X.K F fr (.aug i a)) := by
  refine (ps_aug (by rw [h.n]; exact h.nd) (by rw [h.n]; exact of_decide_eq_true h1) (h.sto h2).1 he ip_add (h.sto h2).2).imp fun D σ H ⟨H0, G0, G, en, P, sr, hw, hn, hr⟩ => ?_
  obtain ⟨d, hd, hw⟩ := gS_get hw
  obtain ⟨v, hv, u, rfl, rep⟩ := sr.slot i _ hd
  cases d with
  | int m =>
    cases rep
    refine ⟨.int m, hv, H0, G0, G, en, _, sr, hw, fun w H1 G1 d1 hd1 x1 r1 => ?_⟩
    cases d1 with
    | int n =>
      cases r1
      exact ⟨m, n, rfl, rfl, hn _ H1 G1 _ hd1 x1.gg ((sr.ext x1).setS i (.int _))⟩
    | _ => exact (show False from hd1).elim
  | _ => exact (show False from hw).elim
theorem s_setI {i : Nat} {k v : Ex} {x : Str} {ke e : Expr} {xp p2 pos : Pos} (h : TopX X sc N) (hu : X.A.units + 65 < cLine) (h1 : nameAt N i x = true) (h2 : visB sc x = true) (h3 : okName x = true) (hc : notComp e = true) (hk : PE X ke (tDE X.K F k)) (hv : PE X e (tDE X.K F v)) :
    PS X (.Assign [.Subscript (.Name x xp) ke p2] e pos) (tDS X.K F fr (.setI i k v)) := by
  refine ⟨fun pins s σ H Q I hh => ?_⟩
  obtain ⟨H0, G0, G, en, P, sr, hw, hn, hr⟩ := hh
  refine wpAny_Assign_Subscript (thn (hv.run pins s σ H (fun z H1 => ∃ G1 d1, Ext G H G1 H1 ∧ Rep X.K G1 z d1 ∧ gO en i fun o => wpE F k en fun y => setW o y d1 fun o' => P.nx (en.set i (.ow o'))) I ⟨H0, G0, G, en, _, sr, hw, fun z H1 G1 d1 hd1 x1 r1 => ⟨G1, d1, x1, r1, hd1⟩⟩) fun r s1 ⟨z, H1, I1, rz, q1⟩ => ?_) (swap_of hc)
  obtain ⟨G1, d1, x1, r1, hw1⟩ := q1
  obtain ⟨d, hd, hw1⟩ := gO_get hw1
  obtain ⟨p, hp, h0, hg, ho, hO⟩ := sr.owat hd
  refine thn ((e_own h.toHere h1 h2 h3).run pins s1 σ H1 (fun a H2 => a = .ref p ∧ H2 = H1) I1 ⟨.ref p, hp, rfl, rfl⟩) fun u s2 ⟨a, H2, I2, ra, e1, e2⟩ => ?_
  subst e1 e2
  refine thn (hk.run pins s2 σ H2 (fun y H3 => ∃ G3 dk, Ext G1 H2 G3 H3 ∧ Rep X.K G3 y dk ∧ setW d dk d1 fun o' => P.nx (en.set i (.ow o'))) I2 ⟨H0, G0, G1, en, _, sr.ext x1, hw1, fun y H3 G3 dk hdk x3 r3 => ⟨G3, dk, x3, r3, hdk⟩⟩) fun iv s3 ⟨y, H3, I3, ry, q3⟩ => ?_
  obtain ⟨G3, dk, x3, r3, hw3⟩ := q3
  obtain ⟨h0', hg', ho', hO'⟩ := ((sr.ext x1).ext x3).own2 hd hp
  cases ra
  have r1' := r1.mono x3.gg
  cases d with
  | list ds =>
    obtain ⟨xs, hx, rx⟩ := ho'
    cases dk with
    | int j =>
      obtain ⟨n, hj, hP⟩ := hw3
      cases r3
      have hj' : L2.ixN xs.length j = some n := by rw [rx.length]; exact hj
      refine thn (set_list pins s3 σ H3 (.ref p) (.int j) z (.ref p) iv r (fun H4 => H4 = upd H3 p (.lst (xs.set n z))) I3 rfl ry rz ⟨p, xs, j, n, rfl, rfl, hx, hj', rfl⟩) fun _ s4 ⟨H4, I4, e4⟩ => ?_
      subst e4
      exact ⟨σ, _, I4, hn _ _ G3 _ hP (x1.trans x3).gg (((sr.ext x1).ext x3).wr (d := PyData.none) hO' h0' hg' ⟨_, hx, trivial⟩ ⟨_, upd_same, rx.set r1' n⟩)⟩
    | _ => exact (show False from hw3).elim
  | dict dks =>
    obtain ⟨kvs, hx, rx⟩ := ho'
    obtain ⟨⟨hk1, hk2⟩, hP⟩ := (show (isKey dk = true ∧ dks.length < SZ) ∧ P.nx (en.set i (.ow (.dict (dPut dks dk d1)))) from hw3)
    obtain ⟨b, kk, rfl, gb, hb, rfl⟩ := RdD.key x3.sub (.inl r3) hk1
    refine d_setItem (by omega) I3 (.inr ⟨kvs, kk, b, hx, rfl, hb, by rw [rx.length]; exact hk2, rfl⟩) ry rz fun s4 I4 => ⟨σ, _, I4, ?_⟩
    exact hn _ _ G3 _ hP (x1.trans x3).gg (((sr.ext x1).ext x3).wr (d := PyData.none) hO' h0' hg' ⟨_, hx, trivial⟩ ⟨_, upd_same, rx.put r1' kk⟩)
  | _ => exact ho'.elim
theorem s_if {c : Ex} {a b : St} {ce : Expr} {l r : List Stmt} {pos : Pos} (hc : PT X ce (tDT X.K F c)) (ha : PSs X l (tDS X.K F fr a)) (hb : PSs X r (tDS X.K F fr b)) : PS X (.If ce l r pos) (tDS X.K F fr (.ite c a b)) := by
  refine (ps_if hc ha hb).imp fun D σ H ⟨H0, G0, G, en, P, sr, hw, hn, hr⟩ => ?_
  have hw' : wpE F c en (fun x => boolOf x fun k => if k = true then wpB F a en P else wpB F b en P) := hw
  refine ⟨H0, G0, G, en, _, sr, hw', fun k H1 G1 h1 x1 => ?_⟩
  cases k with
  | true => exact iteT ⟨H0, G0, G1, en, P, sr.ext x1, h1, hn.of x1.gg, hr⟩
  | false => exact iteF ⟨H0, G0, G1, en, P, sr.ext x1, h1, hn.of x1.gg, hr⟩
theorem s_ret {a : Ex} {e : Expr} {pos : Pos} (he : PE X e (tDE X.K F a)) : PS X (.Return (some e) pos) (tDS X.K F false (.ret a)) :=
  (ps_ret he).imp fun D σ H ⟨H0, G0, G, en, P, sr, hw, hn, hr⟩ => ⟨H0, G0, G, en, _, sr, hw, fun v H1 G1 d h1 x1 r1 => hr v H1 G1 d h1 (sr.x.trans x1) r1⟩
theorem s_retF {a : Ex} {e : Expr} {pos : Pos} (he : PE X e (tDX X.K F a)) : PS X (.Return (some e) pos) (tDS X.K F true (.retF a)) :=
  (ps_ret he).imp fun D σ H ⟨H0, G0, G, en, P, sr, hw, hn, hr⟩ => ⟨H0, G0, G, en, _, sr, hw, fun v H1 G1 d h1 x1 f => hr v H1 G1 d h1.2 (sr.x.trans x1) (f.back sr.x.hh)⟩
theorem s_retB {i : Nat} {x : Str} {xp pos : Pos} (h : TopX X sc N) (h1 : nameAt N i x = true) (h2 : visB sc x = true) (h3 : okName x = true) : PS X (.Return (some (.Name x xp)) pos) (tDS X.K F true (.retF (.bor i))) :=
  (ps_ret (e_own h.toHere h1 h2 h3)).imp fun D σ H ⟨H0, G0, G, en, P, sr, hw, hn, hr⟩ => by
    obtain ⟨d, hd, hw⟩ := gO_get hw
    obtain ⟨p, hp, h0, hg, ho, hO⟩ := sr.owat hd
    exact ⟨.ref p, hp, hr _ H G d hw.2 sr.x (.inl ⟨hw.1, p, rfl, h0, hg, ho⟩)⟩
theorem ss_nil : PSs X [] (tDS X.K F fr .skip) := pss_nil.imp fun D σ H ⟨H0, G0, G, en, P, sr, hw, hn, hr⟩ => hn _ H G _ hw (Same.refl' _) sr
theorem ss_one {st : Stmt} {s : St} (h : PS X st (tDS X.K F fr s)) : PSs X [st] (tDS X.K F fr s) := (pss_one h).imp fun D σ H q => q
theorem ss_cons {st : Stmt} {l : List Stmt} {s t : St} (h : PS X st (tDS X.K F fr s)) (k : PSs X l (tDS X.K F fr t)) : PSs X (st :: l) (tDS X.K F fr (.seq s t)) :=
  (pss_cons h k).imp fun D σ H ⟨H0, G0, G, en, P, sr, hw, hn, hr⟩ => ⟨H0, G0, G, en, _, sr, hw, fun σ' H' G' e' h' g sr' => ⟨H0, G0, G', e', P, sr', h', hn.of g, hr⟩, hr⟩
theorem ss_doc {x : Str} {j : Nat} {p p2 : Pos} {l : List Stmt} {s : St} (k : PSs X l (tDS X.K F fr s)) : PSs X (.Expr (.Constant (.str x) j p) p2 :: l) (tDS X.K F fr s) :=
  (pss_cons ps_doc k).imp fun D σ H q => q
theorem ss_frz {i : Nat} {l : List Stmt} {t : St} (k : PSs X l (tDS X.K F fr t)) : PSs X l (tDS X.K F fr (.seq (.frz i) t)) :=
  k.imp fun D σ H ⟨H0, G0, G, en, P, sr, hw, hn, hr⟩ => by
    obtain ⟨d, hd, hw⟩ := gO_get hw
    obtain ⟨G', g, sr'⟩ := sr.frz hd
    exact ⟨H0, G0, G', _, P, sr', hw, hn.of g, hr⟩
theorem ss_frz1 {i : Nat} : PSs X [] (tDS X.K F fr (.frz i)) :=
  pss_nil.imp fun D σ H ⟨H0, G0, G, en, P, sr, hw, hn, hr⟩ => by
    obtain ⟨d, hd, hw⟩ := gO_get hw
    obtain ⟨G', g, sr'⟩ := sr.frz hd
    exact hn _ H G' _ hw g sr'
/-- loops -/
theorem s_while {c : Ex} {b : St} {ce : Expr} {l : List Stmt} {pos : Pos} (h : TopX X sc N) (hc : PT X ce (tDT X.K F c)) (hb : PSs X l (tDS X.K F fr b)) : PS X (.While ce l [] pos) (tDS X.K F fr (.whl c b)) := by
  refine (ps_while h.xe hc hb).imp fun D σ H ⟨H0, G0, G, en, P, sr, hw, hn, hr⟩ => ?_
  obtain ⟨W, ⟨m, e0, hle, hW⟩, step⟩ := hw
  obtain ⟨G1, g1, sr1⟩ := sr.weak hle
  refine ⟨fun m σ H => ∃ G' e', Same G G' ∧ SR X.K H0 G0 G' H σ e' ∧ W m e', ⟨m, G1, e0, g1, sr1, hW⟩, ?_⟩
  rintro m σ1 H1 ⟨G2, e1, g2, sr2, w1⟩
  have hw' : wpE F c e1 (fun x => boolOf x fun k => if k = true then wpB F b e1 ⟨fun e3 => ∃ m' e4, m' < m ∧ EnLe e3 e4 ∧ W m' e4, P.rt⟩ else P.nx e1) := step m e1 w1
  refine ⟨H0, G0, G2, e1, _, sr2, hw', fun k H3 G3 h3 x3 => ?_⟩
  cases k with
  | false => exact iteF (hn _ H3 G3 _ h3 (fun b o q => x3.gg b o (g2 b o q)) (sr2.ext x3))
  | true =>
    refine iteT ⟨fun σ' H' => ∃ m', m' < m ∧ ∃ G' e', Same G G' ∧ SR X.K H0 G0 G' H' σ' e' ∧ W m' e', fun σ' H' ⟨m', hm, r⟩ => ⟨m', hm, r⟩, H0, G0, G3, e1, _, sr2.ext x3, h3, ?_, hr⟩
    rintro σ' H' G' e' ⟨m', e4, hm, hle', w'⟩ g' sr'
    obtain ⟨G5, g5, sr5⟩ := sr'.weak hle'
    exact ⟨m', hm, G5, e4, fun b o q => g5 b o (g' b o (x3.gg b o (g2 b o q))), sr5, w'⟩
theorem s_for {tg : Tg} {src : Src} {b : St} {t i : Expr} {l : List Stmt} {pos : Pos} (h : TopX X sc N) (hc : X.calm = true) (hn : notSet i = true) (ht : chkT true sc N tg t = true) (hi : PI X t i (tSrc false X.K F src)) (hb : PSs X l (tDS X.K F fr b)) :
    PS X (.For t i l [] pos) (tDS X.K F fr (.forS tg src b)) := by
  refine (ps_for h.xe hc hi (p_tg h.toHere hc (fun _ => h.fnc) tg ht) hb (folded_of hn)).imp fun D σ H ⟨H0, G0, G, en, P, sr, hw, hnx, hr⟩ => ?_
  refine ⟨H0, G0, G, en, _, sr, hw, fun J G1 H1 ds hds x1 wk => ?_⟩
  obtain ⟨W, ⟨e0, hle, hW⟩, step, fin⟩ := hds
  obtain ⟨G2, g2, sr2⟩ := (sr.ext x1).weak hle
  refine ⟨fun i m σ H => m = ds.length - i ∧ i ≤ ds.length ∧ ∃ G' e', Same G1 G' ∧ SR X.K H0 G0 G' H σ e' ∧ W i e', ⟨ds.length, by simp, Nat.zero_le _, G2, e0, g2, sr2, hW⟩, ?_⟩
  rintro i m σ3 H3 ⟨rfl, hi3, G3, e3, g3, sr3, w3⟩
  have md : Md false H0 G1 H1 G3 H3 := ⟨g3, sr3.x.sub, sr3.x.hh⟩
  by_cases hlt : i < ds.length
  · refine .inr ⟨wk.go i G3 H3 hlt md, fun σ' H' => ∃ G' e', Same G1 G' ∧ SR X.K H0 G0 G' H' σ' e' ∧ W (i + 1) e', fun σ' H' r => ⟨ds.length - (i + 1), by omega, rfl, hlt, r⟩, fun v H4 y => ?_⟩
    obtain ⟨G4, d, x4, hd, rv⟩ := wk.yld i G3 H3 v H4 hlt md y
    refine ⟨H0, G0, G4, e3, d, _, sr3.ext x4, rv, step i d e3 hd w3, fun σ' e' h' sr' ag => ⟨H0, G0, G4, e', _, sr', h', ?_, hr⟩⟩
    rintro σ5 H5 G5 e5 ⟨e6, hle6, w6⟩ g5 sr5
    obtain ⟨G7, g7, sr7⟩ := sr5.weak hle6
    exact ⟨G7, e6, fun b o q => g7 b o (g5 b o (x4.gg b o (g3 b o q))), sr7, w6⟩
  · have e : i = ds.length := by omega
    subst e
    exact .inl ⟨wk.stop G3 H3 md, hnx _ H3 G3 _ (fin e3 w3) (fun b o q => g3 b o (x1.gg b o q)) sr3⟩
end
end Z

namespace L2
open PySem PySem.Spec PyProof.Rows
theorem PE.or {X : Cx} {e : Expr} {t u : TE} (h : PE X e t) (k : PE X e u) : PE X e (fun σ H Q => t σ H Q ∨ u σ H Q) := ⟨fun pins s σ H Q I q => q.elim (fun z => h.run pins s σ H Q I z) (fun z => k.run pins s σ H Q I z)⟩
theorem PS.or {X : Cx} {e : Stmt} {t u : TS} (h : PS X e t) (k : PS X e u) : PS X e (fun D σ H => t D σ H ∨ u D σ H) := ⟨fun pins s σ H Q I q => q.elim (fun z => h.run pins s σ H Q I z) (fun z => k.run pins s σ H Q I z)⟩
end L2
namespace Z
open PySem PySem.Spec PyProof.Rows L2
/-! dicts walked under a lock -/
theorem upd_id {H : Hp} {d : Addr} {u : HO} (h : H d = some u) : upd H d u = H := by
  funext b
  by_cases e : b = d
  · subst e; rw [upd_same, h]
  · rw [upd_ne e]
theorem upd_upd {H : Hp} {d : Addr} {u v : HO} : upd (upd H d v) d u = upd H d u := by
  funext b
  by_cases e : b = d
  · subst e; rw [upd_same, upd_same]
  · rw [upd_ne e, upd_ne e, upd_ne e]
section
variable {K : PySem.W.Frag} {H0 G0 G H G' H' : Hp} {σ : L2.St} {e : En} {d : Addr} {od : Obj} {kvs : List (List Key × V)} {u : HO}
/-- the base and the heap with the lock -/
theorem Ext.lock (x : Ext G0 H0 G H) (g : G d = some (.dT kvs)) : Ext (upd G0 d (.dT kvs)) (upd H0 d (.frz od (.dT kvs))) G (upd H d (.frz od (.dT kvs))) := by
  refine ⟨fun b o h => ?_, fun b o h => ?_, fun b o h => ?_, fun b o h => ?_⟩
  · by_cases e : b = d
    · subst e; rw [upd_same] at h; cases h; exact g
    · rw [upd_ne e] at h; exact x.gg _ _ h
  · by_cases e : b = d
    · subst e; rw [upd_same] at h ⊢; exact h
    · rw [upd_ne e] at h ⊢; exact x.hh _ _ h
  · by_cases e : b = d
    · subst e; rw [g] at h; cases h; exact .inr ⟨od, kvs, rfl, upd_same⟩
    · rw [upd_ne e]; exact x.sub _ _ h
  · by_cases e : b = d
    · subst e; rw [g] at h; cases h; exact .inl upd_same
    · rw [upd_ne e, upd_ne e]; exact x.new _ _ h
theorem Ext.unlock (x : Ext G0 H0 G H) (g : G d = some (.dT kvs)) (hu : H d = some u) (k : u = .dT kvs ∨ ∃ od, u = .frz od (.dT kvs)) (y : Ext (upd G0 d (.dT kvs)) (upd H0 d (.frz od (.dT kvs))) G' H') : Ext G0 H0 G' (upd H' d u) := by
  have g' : G' d = some (.dT kvs) := y.gg _ _ upd_same
  refine ⟨fun b o h => ?_, fun b o h => ?_, fun b o h => ?_, fun b o h => ?_⟩
  · by_cases e : b = d
    · subst e
      have := x.gg _ _ h
      rw [g] at this; cases this; exact g'
    · exact y.gg _ _ (by rw [upd_ne e]; exact h)
  · by_cases e : b = d
    · subst e
      have := x.hh _ _ h
      rw [hu] at this; cases this; exact upd_same
    · rw [upd_ne e]; exact y.hh _ _ (by rw [upd_ne e]; exact h)
  · by_cases e : b = d
    · subst e
      rw [g'] at h; cases h
      rw [upd_same]
      rcases k with rfl | ⟨o, rfl⟩
      · exact .inl rfl
      · exact .inr ⟨o, kvs, rfl, rfl⟩
    · rw [upd_ne e]; exact y.sub _ _ h
  · by_cases e : b = d
    · subst e; rw [g'] at h; cases h; exact x.new _ _ g
    · have := y.new _ _ h
      rw [upd_ne e, upd_ne e] at this
      exact this
theorem OwnAt.upd {a : Addr} {x : D} (h : OwnAt K G H a x) (hn : a ≠ d) : OwnAt K G (upd H d u) a x := h.keep (Same.refl' _) fun w q => by rw [upd_ne hn]; exact q
theorem SR.lock (r : SR K H0 G0 G H σ e) (g : G d = some (.dT kvs)) : SR K (upd H0 d (.frz od (.dT kvs))) (upd G0 d (.dT kvs)) G (upd H d (.frz od (.dT kvs))) σ e := by
  refine ⟨r.x.lock g, r.len, fun i s h => ?_, r.apart⟩
  obtain ⟨v, h1, h2⟩ := r.slot i s h
  refine ⟨v, h1, ?_⟩
  cases s with
  | any => trivial
  | sh x => exact h2
  | ow x =>
    obtain ⟨a, h3, h4, h5, h6⟩ := h2
    have ne : a ≠ d := fun z => by rw [z, g] at h5; cases h5
    exact ⟨a, h3, by rw [upd_ne ne]; exact h4, h5, h6.upd ne⟩
theorem SR.unlock (x : Ext G0 H0 G H) (g : G d = some (.dT kvs)) (hu : H d = some u) (k : u = .dT kvs ∨ ∃ od, u = .frz od (.dT kvs)) (r : SR K (upd H0 d (.frz od (.dT kvs))) (upd G0 d (.dT kvs)) G' H' σ e) : SR K H0 G0 G' (upd H' d u) σ e := by
  refine ⟨x.unlock g hu k r.x, r.len, fun i s h => ?_, r.apart⟩
  obtain ⟨v, h1, h2⟩ := r.slot i s h
  refine ⟨v, h1, ?_⟩
  cases s with
  | any => trivial
  | sh x => exact h2
  | ow x =>
    obtain ⟨a, h3, h4, h5, h6⟩ := h2
    have ne : a ≠ d := fun z => by rw [z, upd_same] at h4; cases h4
    exact ⟨a, h3, by rw [upd_ne ne] at h4; exact h4, h5, h6.upd ne⟩
theorem Frs.unlock {v : V} {x : D} (f : Frs K (L2.upd H0 d (.frz od (.dT kvs))) G' H' v x) : Frs K H0 G' (L2.upd H' d u) v x := by
  rcases f with ⟨hl, a, rfl, ha, hg, o⟩ | f
  · have ne : a ≠ d := fun z => by rw [z, upd_same] at ha; cases ha
    rw [upd_ne ne] at ha
    exact .inl ⟨hl, a, rfl, ha, hg, o.upd ne⟩
  · exact .inr f
theorem RT.lock {fr : Bool} {R : D → Prop} {Q : VK} (h : RT fr K G0 H0 R Q) (x : Ext G0 H0 G H) (g : G d = some (.dT kvs)) (hu : H d = some u) (k : u = .dT kvs ∨ ∃ od, u = .frz od (.dT kvs)) :
    RT fr K (upd G0 d (.dT kvs)) (upd H0 d (.frz od (.dT kvs))) R (fun v H' => H' d = some (.frz od (.dT kvs)) ∧ Q v (upd H' d u)) := by
  cases fr with
  | true => exact fun v H' G' y hr y' f => ⟨y'.hh _ _ upd_same, h v _ G' y hr (x.unlock g hu k y') f.unlock⟩
  | false => exact fun v H' G' y hr y' f => ⟨y'.hh _ _ upd_same, h v _ G' y hr (x.unlock g hu k y') f⟩
theorem NX.lock {P : En → Prop} {Q : L2.St → Hp → Prop} (h : NX K H0 G0 G P Q) (x : Ext G0 H0 G H) (g : G d = some (.dT kvs)) (hu : H d = some u) (k : u = .dT kvs ∨ ∃ od, u = .frz od (.dT kvs)) :
    NX K (upd H0 d (.frz od (.dT kvs))) (upd G0 d (.dT kvs)) G P (fun σ' H' => H' d = some (.frz od (.dT kvs)) ∧ Q σ' (upd H' d u)) :=
  fun σ' H' G' e' p gg sr => ⟨sr.x.hh _ _ upd_same, h σ' _ G' e' p gg (SR.unlock x g hu k sr)⟩
end
theorem gS_of {e : En} {i : Nat} {Q : D → Prop} {d : D} (h : e[i]? = some (.sh d)) (q : Q d) : gS e i Q := by
  induction e generalizing i with
  | nil => simp at h
  | cons s e ih =>
    cases i with
    | zero => simp only [List.getElem?_cons_zero, Option.some.injEq] at h; subst h; exact q
    | succ i => simp only [List.getElem?_cons_succ] at h; exact ih (i := i) h
/-- the dict of slot i is locked in the base -/
def Lk (i : Nat) (σ : L2.St) (H0 : Hp) : Prop := ∃ d od kvs, σ[i]? = some (some (.ref d)) ∧ H0 d = some (.frz od (.dT kvs))
def tKey (m : Bool) (K : PySem.W.Frag) (F : FT) (i : Nat) : TI := fun σ H R => ∃ H0 G0 G e Rr, SR K H0 G0 G H σ e ∧ wpS F (.dkeys i) e Rr ∧ (if m = true then Lk i σ H else Lk i σ H0) ∧ ∀ J G' H' ds, Rr ds → Ext G H G' H' → Wk K m H0 G' H' J ds → R J H'
theorem RepKV.at {K : PySem.W.Frag} {G : Hp} : ∀ {kvs : List (List Key × V)} {dk : List (D × D)} {i : Nat} {k : List Key} {v : V}, RepKV K G kvs dk → kvs[i]? = some (k, v) → ∃ d, dk[i]? = some (keyD k, d) ∧ Rep K G v d
  | _, _, _, _, _, .nil, h => by simp at h
  | _, _, 0, _, _, .cons r _, h => by
    simp only [List.getElem?_cons_zero, Option.some.injEq, Prod.mk.injEq] at h
    obtain ⟨rfl, rfl⟩ := h
    exact ⟨_, rfl, r⟩
  | _, _, i + 1, _, _, .cons _ rr, h => by
    simp only [List.getElem?_cons_succ] at h ⊢
    exact RepKV.at rr h
theorem repKey {K : PySem.W.Frag} {G : Hp} : ∀ k : List Key, RepAll K G (k.map kV) (k.map kD)
  | [] => .nil
  | .inl i :: k => .cons (.int i) (repKey k)
  | .inr s :: k => .cons (.str s) (repKey k)
theorem wk_keys {K : PySem.W.Frag} {m : Bool} {H0 G H : Hp} {d : Addr} {o : Obj} {kvs : List (List Key × V)} {dk : List (D × D)} (h : ∀ G' H', Md m H0 G H G' H' → H' d = some (.frz o (.dT kvs))) (r : RepKV K G kvs dk) : Wk K m H0 G H (Itkt d o kvs) (dk.map (·.1)) := by
  have hl := r.length
  refine ⟨fun i G' H' hi md => ⟨h G' H' md, by rw [List.length_map] at hi; omega⟩, fun G' H' md => ⟨h G' H' md, by rw [List.length_map]; omega⟩, fun i G' H' v H2 hi md y => ?_⟩
  obtain ⟨rfl, k, w, q, h1, rfl, h2⟩ := y
  obtain ⟨x, h3, _⟩ := RepKV.at r h1
  refine ⟨upd G' q (.tup (k.map kV)), keyD k, Ext.freezeT md.sub h2, ?_, .tup upd_same (repKey k)⟩
  rw [List.getElem?_map, h3]
  rfl
section
variable {X : Cx} {F : FT} {fr : Bool} {sc : Scope} {N : List Str} {fs : List (String × Nat × Bool)}
theorem dic_at {K : PySem.W.Frag} {H0 G0 G H : Hp} {σ : L2.St} {e : En} {i : Nat} {R : List D → Prop} (sr : SR K H0 G0 G H σ e) (hw : wpS F (.dkeys i) e R) :
    ∃ a kvs dk, σ[i]? = some (some (.ref a)) ∧ G a = some (.dT kvs) ∧ RepKV K G kvs dk ∧ R (dk.map (·.1)) ∧ e[i]? = some (.sh (.dict dk)) := by
  obtain ⟨d, hd, hw⟩ := gS_get hw
  obtain ⟨v, h1, x, rfl, rep⟩ := sr.slot i _ hd
  cases d with
  | dict dk => cases rep with | dic h r => exact ⟨_, _, _, h1, h, r, hw, hd⟩
  | _ => exact (show False from hw).elim
theorem i_key {m : Bool} {tg : Expr} {i : Nat} {x : Str} {pos : Pos} (h : Here X sc N) (h1 : nameAt N i x = true) (h2 : visB sc x = true) (h3 : okName x = true) : PI X tg (.Name x pos) (tKey m X.K F i) :=
  (pi_keys (e_own h h1 h2 h3)).imp fun σ H Q ⟨H0, G0, G, en, Rr, sr, hw, lk, hv⟩ => by
    obtain ⟨a, kvs, dk, hs, hg, r, hr, _⟩ := dic_at sr hw
    have key : ∃ o, H a = some (.frz o (.dT kvs)) ∧ ∀ G' H', Md m H0 G H G' H' → H' a = some (.frz o (.dT kvs)) := by
      cases m
      · obtain ⟨d', od, kvs', l1, l2⟩ := lk
        rw [hs] at l1
        cases l1
        have l3 := sr.x.hh _ _ l2
        rcases sr.x.sub _ _ hg with z | ⟨o, k', e1, z⟩
        · rw [l3] at z; cases z
        · cases e1
          rw [l3] at z; cases z
          exact ⟨_, l3, fun G' H' md => md.2.2 _ _ l2⟩
      · obtain ⟨d', od, kvs', l1, l2⟩ := lk
        rw [hs] at l1
        cases l1
        rcases sr.x.sub _ _ hg with z | ⟨o, k', e1, z⟩
        · rw [l2] at z; cases z
        · cases e1
          rw [l2] at z; cases z
          exact ⟨_, l2, fun G' H' md => Ext.hh md _ _ l2⟩
    obtain ⟨o, k1, k2⟩ := key
    exact ⟨.ref a, hs, a, o, rfl, .inr ⟨kvs, k1, hv _ G H _ hr (.refl sr.x.sub) (wk_keys k2 r)⟩⟩
theorem s_forK {tg : Tg} {i : Nat} {b : St} {t : Expr} {x : Str} {xp : Pos} {l : List Stmt} {pos : Pos} (h : TopX X sc N) (hc : X.calm = true) (h1 : nameAt N i x = true) (h2 : visB sc x = true) (h3 : okName x = true) (ht : chkT true sc N tg t = true) (hb : PSs X l (tDS X.K F fr b)) :
    PS X (.For t (.Name x xp) l [] pos) (tDS X.K F fr (.forS tg (.dkeys i) b)) := by
  have base : PS X (.For t (.Name x xp) l [] pos) (fun D σ H => ∃ H0 G0 G e P, SR X.K H0 G0 G H σ e ∧ wpB F (.forS tg (.dkeys i) b) e P ∧ Lk i σ H0 ∧ NX X.K H0 G0 G P.nx D.nx ∧ RT fr X.K G0 H0 P.rt D.rt) := by
    refine (ps_for h.xe hc (i_key (F := F) (m := false) h.toHere h1 h2 h3) (p_tg h.toHere hc (fun _ => h.fnc) tg ht) hb (folded_of rfl)).imp fun D σ H ⟨H0, G0, G, en, P, sr, hw, lk, hnx, hr⟩ => ?_
    refine ⟨H0, G0, G, en, _, sr, hw, lk, fun J G1 H1 ds hds x1 wk => ?_⟩
    obtain ⟨W, ⟨e0, hle, hW⟩, step, fin⟩ := hds
    obtain ⟨G2, g2, sr2⟩ := (sr.ext x1).weak hle
    refine ⟨fun i m σ H => m = ds.length - i ∧ i ≤ ds.length ∧ ∃ G' e', Same G1 G' ∧ SR X.K H0 G0 G' H σ e' ∧ W i e', ⟨ds.length, by simp, Nat.zero_le _, G2, e0, g2, sr2, hW⟩, ?_⟩
    rintro i m σ3 H3 ⟨rfl, hi3, G3, e3, g3, sr3, w3⟩
    have md : Md false H0 G1 H1 G3 H3 := ⟨g3, sr3.x.sub, sr3.x.hh⟩
    by_cases hlt : i < ds.length
    · refine .inr ⟨wk.go i G3 H3 hlt md, fun σ' H' => ∃ G' e', Same G1 G' ∧ SR X.K H0 G0 G' H' σ' e' ∧ W (i + 1) e', fun σ' H' r => ⟨ds.length - (i + 1), by omega, rfl, hlt, r⟩, fun v H4 y => ?_⟩
      obtain ⟨G4, d, x4, hd, rv⟩ := wk.yld i G3 H3 v H4 hlt md y
      refine ⟨H0, G0, G4, e3, d, _, sr3.ext x4, rv, step i d e3 hd w3, fun σ' e' h' sr' ag => ⟨H0, G0, G4, e', _, sr', h', ?_, hr⟩⟩
      rintro σ5 H5 G5 e5 ⟨e6, hle6, w6⟩ g5 sr5
      obtain ⟨G7, g7, sr7⟩ := sr5.weak hle6
      exact ⟨G7, e6, fun b o q => g7 b o (g5 b o (x4.gg b o (g3 b o q))), sr7, w6⟩
    · have e : i = ds.length := by omega
      subst e
      exact .inl ⟨wk.stop G3 H3 md, hnx _ H3 G3 _ (fin e3 w3) (fun b o q => g3 b o (x1.gg b o q)) sr3⟩
  refine (base.or (ps_lock base)).imp fun D σ H ⟨H0, G0, G, en, P, sr, hw, hnx, hr⟩ => ?_
  have hw0 : gS en i fun x => dictOf x fun kvs => True := by
    obtain ⟨d, hd, hw⟩ := gS_get (show gS en i (fun x => dictOf x fun kvs => _) from hw)
    cases d with
    | dict dk =>
      exact gS_of hd trivial
    | _ => exact (show False from hw).elim
  obtain ⟨a, kvs, dk, hs, hg, r, _, _⟩ := dic_at (F := F) (R := fun _ => True) sr hw0
  rcases sr.x.sub _ _ hg with z | ⟨o, k', e1, z⟩
  · refine .inr ⟨a, .dT kvs, z, trivial, fun od => ?_⟩
    exact ⟨_, _, G, en, P, sr.lock hg, hw, ⟨a, od, kvs, hs, upd_same⟩, hnx.lock sr.x hg z (.inl rfl), hr.lock sr.x hg z (.inl rfl)⟩
  · cases e1
    refine .inl ?_
    have q := sr.lock (od := o) hg
    rw [upd_id z] at q
    have n1 := hnx.lock (od := o) sr.x hg z (.inr ⟨o, rfl⟩)
    have n2 := hr.lock (od := o) sr.x hg z (.inr ⟨o, rfl⟩)
    refine ⟨_, _, G, en, P, q, hw, ⟨a, o, kvs, hs, upd_same⟩, fun σ' H' G' e' p g' sr' => ?_, ?_⟩
    · obtain ⟨y1, y2⟩ := n1 σ' H' G' e' p g' sr'
      rw [upd_id y1] at y2
      exact y2
    · cases fr with
      | true =>
        intro v H' G' d hd x f
        have y := n2 v H' G' d hd x f
        obtain ⟨y1, y2⟩ := y
        rw [upd_id y1] at y2
        exact y2
      | false =>
        intro v H' G' d hd x f
        have y := n2 v H' G' d hd x f
        obtain ⟨y1, y2⟩ := y
        rw [upd_id y1] at y2
        exact y2
/-- a comprehension over the keys of a dict -/
theorem lcK_rd {K : PySem.W.Frag} {own : List Nat} {tg : Tg} {i : Nat} {elt : Ex} {σ : L2.St} {H : Hp} {Q : VK} (hs : ∀ j ∈ slT tg, j ∈ own) (lk : Lk i σ H) (h : tDX K F (.lc own tg (.dkeys i) elt) σ H Q) : tLc (tKey true K F i) (gD K tg) tYes (tDE K F elt) own σ H Q := by
  obtain ⟨H0, G0, G, e, R, sr, hw, hd⟩ := lc_rd hs h
  exact ⟨H0, G0, G, e, R, sr, hw, lk, hd⟩
theorem dxLock {i : Nat} {ex : Ex} {e : Expr} (hk : ∀ {en : En} {R : D → Prop}, wpE F ex en R → gS en i fun x => dictOf x fun _ => True) (h : PE X e (fun σ H Q => Lk i σ H ∧ tDX X.K F ex σ H Q)) : PE X e (tDX X.K F ex) := by
  refine (h.or (pe_lock h)).imp fun σ H Q ⟨H0, G0, G, en, R, sr, hw, hv⟩ => ?_
  obtain ⟨a, kvs, dk, hs, hg, r, _, _⟩ := dic_at (F := F) (R := fun _ => True) sr (hk hw)
  rcases sr.x.sub _ _ hg with z | ⟨o, k', e1, z⟩
  · refine .inr ⟨a, .dT kvs, z, trivial, fun od => ⟨⟨a, od, kvs, hs, upd_same⟩, _, _, G, en, R, sr.lock hg, hw, fun v H' G' d hd x f => ⟨x.hh _ _ upd_same, ?_⟩⟩⟩
    have x' : Ext (upd G a (.dT kvs)) (upd H a (.frz od (.dT kvs))) G' H' := by rw [upd_id hg]; exact x
    exact hv v _ G' d hd (Ext.unlock (Ext.refl sr.x.sub) hg z (.inl rfl) x') f.unlock
  · cases e1
    exact .inl ⟨⟨a, o, kvs, hs, z⟩, H0, G0, G, en, R, sr, hw, hv⟩
theorem gS_mono {e : En} {i : Nat} {Q Q' : D → Prop} (h : gS e i Q) (w : ∀ d, Q d → Q' d) : gS e i Q' := by
  induction e generalizing i with
  | nil => cases i <;> exact h.elim
  | cons s e ih =>
    cases i with
    | zero =>
      cases s with
      | sh d => exact w d h
      | _ => exact h.elim
    | succ i => exact ih (i := i) h
variable {scope : Scope} {own : List Nat} {tg : Tg} {elt : Ex}
theorem e_lcK {i : Nat} {e t : Expr} {x : Str} {xp pos : Pos} (h : Here X sc N) (am : Amb X F fs) (h1 : nameAt N i x = true) (h2 : visB sc x = true) (h3 : okName x = true) (hb : blkC N sc scope (ownN N own) = true) (hs : subB (slT tg) own = true) (ht : chkT false (relS scope sc) N tg t = true)
    (he : ∀ s H C cl fp, PE (blkX X scope s H C cl fp) e (tDE X.K F elt)) : PE X (.ListComp e [⟨t, .Name x xp, [], 0⟩] scope pos) (tDX X.K F (.lc own tg (.dkeys i) elt)) := by
  have ok := blkOk_by hb
  refine dxLock (i := i) (fun {en R} hw => ?_) ((pe_lc (own := ownN N own) (g := gD X.K tg) (tt := tYes) (te := tDE X.K F elt) am.calm (by rw [h.n]; exact h.nd) (i_key (m := true) (F := F) (i := i) h h1 h2 h3) (by rw [h.n, h.sc]; exact ok) (fun s H C cl fp => p_tg (h.blk s H C cl fp) am.calm (by intro z; cases z) tg ht) (fun s H C cl fp => pts_nil) he (folded_of rfl)).imp fun σ H Q q => ?_)
  · exact gS_mono (show gS en i (fun x => dictOf x fun kvs => _) from hw) fun d hd => by
      cases d with
      | dict => trivial
      | _ => exact (show False from hd).elim
  · rw [ownN_snd]
    exact lcK_rd (subB_of hs) q.1 q.2
theorem sxLock {i j : Nat} {ex : Ex} {e : Stmt} (hk : ∀ {en : En} {R : D → Prop}, wpE F ex en R → gS en i fun x => dictOf x fun _ => True) (h : PS X e (fun D σ H => Lk i σ H ∧ tAsg (tDX X.K F ex) (gName j) D σ H)) : PS X e (tAsg (tDX X.K F ex) (gName j)) := by
  refine (h.or (ps_lock h)).imp fun D σ H ⟨H0, G0, G, en, R, sr, hw, hv⟩ => ?_
  obtain ⟨a, kvs, dk, hs, hg, r, _, _⟩ := dic_at (F := F) (R := fun _ => True) sr (hk hw)
  rcases sr.x.sub _ _ hg with z | ⟨o, k', e1, z⟩
  · refine .inr ⟨a, .dT kvs, z, trivial, fun od => ⟨⟨a, od, kvs, hs, upd_same⟩, _, _, G, en, R, sr.lock hg, hw, fun v H' G' d hd x f => ⟨x.hh _ _ upd_same, ?_⟩⟩⟩
    have x' : Ext (upd G a (.dT kvs)) (upd H a (.frz od (.dT kvs))) G' H' := by rw [upd_id hg]; exact x
    exact hv v _ G' d hd (Ext.unlock (Ext.refl sr.x.sub) hg z (.inl rfl) x') f.unlock
  · cases e1
    exact .inl ⟨⟨a, o, kvs, hs, z⟩, H0, G0, G, en, R, sr, hw, hv⟩
theorem s_lcK {i j : Nat} {y : Str} {py : Pos} {e t : Expr} {x : Str} {xp pos spos : Pos} (h : Here X sc N) (am : Amb X F fs) (hk : X.env.scope.kind = .function) (hy : nameAt N j y = true) (hyl : lclB sc y = true) (hl : oneLine py pos = true) (ho : noOwn scope y = true)
    (h1 : nameAt N i x = true) (h2 : visB sc x = true) (h3 : okName x = true) (hb : blkC N sc scope (ownN N own) = true) (hs : subB (slT tg) own = true) (ht : chkT false (relS scope sc) N tg t = true)
    (he : ∀ s H C cl fp, PE (blkX X scope s H C cl fp) e (tDE X.K F elt)) : PS X (.Assign [.Name y py] (.ListComp e [⟨t, .Name x xp, [], 0⟩] scope pos) spos) (tAsg (tDX X.K F (.lc own tg (.dkeys i) elt)) (gName j)) := by
  have ok := blkOk_by hb
  have hl' : X.env.scope.names.lookup y = some .local := by rw [h.sc]; exact lcl_of hyl
  refine sxLock (i := i) (fun {en R} hw => ?_) ((ps_setLc (own := ownN N own) (g := gD X.K tg) (tt := tYes) (te := tDE X.K F elt) am.calm (by rw [h.n]; exact h.nd) (by rw [h.n]; exact of_decide_eq_true hy) hl' (sw_true hk hl' hl (by simpa [noOwn] using ho)) (i_key (m := true) (F := F) (i := i) h h1 h2 h3) (by rw [h.n, h.sc]; exact ok)
    (fun s H C cl fp => p_tg (h.blk s H C cl fp) am.calm (by intro z; cases z) tg ht) (fun s H C cl fp => pts_nil) he (folded_of rfl)).imp fun D σ H q => ?_)
  · exact gS_mono (show gS en i (fun x => dictOf x fun kvs => _) from hw) fun d hd => by
      cases d with
      | dict => trivial
      | _ => exact (show False from hd).elim
  · rw [ownN_snd]
    exact lcK_rd (subB_of hs) q.1 q.2
end
end Z

namespace Z
open PySem PySem.Spec PyProof.Rows L2
/-! the deep text against the program's text -/
def isB : Ex → Bool
  | .bor _ => true
  | _ => false
def isNm (N : List Str) (sc : Scope) (i : Nat) : Expr → Bool
  | .Name x _ => nameAt N i x && visB sc x && okName x
  | _ => false
def gN (sc : Scope) (s : String) (x : Str) : Bool := decide (x = Str.ofString s) && glB sc x && okName x
def isDk : Src → Bool
  | .dkeys _ => true
  | _ => false
mutual
def chk (fs : List (String × Nat × Bool)) (N : List Str) : Ex → Scope → Expr → Bool
  | .var i, sc, e => isNm N sc i e
  | .bor i, sc, e => isNm N sc i e
  | .none, _, e => match e with | .Constant .none _ _ => true | _ => false
  | .bool b, _, e => match e with | .Constant (.bool c) _ _ => b == c | _ => false
  | .int i, _, e => match e with | .Constant (.int j) _ _ => decide (i = j) | _ => false
  | .str s, _, e => match e with | .Constant (.str t) _ _ => decide (s = t) | _ => false
  | .neg a, sc, e => match e with | .UnaryOp op x _ => decide (op = .USub) && chk fs N a sc x | _ => false
  | .bin op a b, sc, e => match e with | .BinOp l o r _ => decide (o = opc op) && chk fs N a sc l && chk fs N b sc r | _ => false
  | .cmp op a b, sc, e => match e with | .Compare l [o] [r] _ => decide (o = cpc op) && notSet r && chk fs N a sc l && chk fs N b sc r | _ => false
  | .chain o1 o2 a b c, sc, e => match e with | .Compare l [p1, p2] [m, r] _ => decide (p1 = cpc o1) && decide (p2 = cpc o2) && notSet r && chk fs N a sc l && chk fs N b sc m && chk fs N c sc r | _ => false
  | .and a b, sc, e => match e with
    | .BoolOp op [l, r] _ => decide (op = .And) && chk fs N a sc l && chk fs N b sc r
    | .BoolOp op (l :: r :: q :: rest) pos => decide (op = .And) && chk fs N a sc l && chk fs N b sc (.BoolOp .And (r :: q :: rest) pos)
    | _ => false
  | .or a b, sc, e => match e with
    | .BoolOp op [l, r] _ => decide (op = .Or) && chk fs N a sc l && chk fs N b sc r
    | .BoolOp op (l :: r :: q :: rest) pos => decide (op = .Or) && chk fs N a sc l && chk fs N b sc (.BoolOp .Or (r :: q :: rest) pos)
    | _ => false
  | .not a, sc, e => match e with | .UnaryOp op x _ => decide (op = .Not) && chk fs N a sc x | _ => false
  | .ite c a b, sc, e => match e with | .IfExp t l r _ => chkC fs N c sc t && chk fs N a sc l && chk fs N b sc r && !isB a && !isB b | _ => false
  | .idx a b, sc, e => match e with | .Subscript l r _ => notSlice r && chk fs N a sc l && chk fs N b sc r | _ => false
  | .slcL a b, sc, e => match e with | .Subscript l (.Slice (some r) none none _) _ => chk fs N a sc l && chk fs N b sc r | _ => false
  | .slcH a b, sc, e => match e with | .Subscript l (.Slice none (some r) none _) _ => chk fs N a sc l && chk fs N b sc r | _ => false
  | .slcLH a b c, sc, e => match e with | .Subscript l (.Slice (some r) (some q) none _) _ => chk fs N a sc l && chk fs N b sc r && chk fs N c sc q | _ => false
  | .rev a, sc, e => match e with | .Subscript l (.Slice none none (some (.UnaryOp op (.Constant (.int k) _ _) _)) _) _ => decide (op = .USub) && decide (k = 1) && chk fs N a sc l | _ => false
  | .tup es, sc, e => match e with | .Tuple l _ _ => decide (es.len ≤ 1000) && chkA fs N es false sc l | _ => false
  | .lst es, sc, e => match e with | .List l _ => decide (es.len ≤ 1000) && chkA fs N es false sc l | _ => false
  | .dic0, _, e => match e with | .Dict [] [] _ => true | _ => false
  | .dic1 k v, sc, e => match e with | .Dict [some x] [y] _ => chk fs N k sc x && chk fs N v sc y && !isB k && !isB v | _ => false
  | .call f es, sc, e => match e with
    | .Call (.Name x _) l [] _ => gN sc f x && starsB l && (fs.any fun p => p.1 == f && p.2.1 == es.len) && decide (es.len = l.length) && chkA fs N es false sc l
    | _ => false
  | .blt b es, sc, e => match e with
    | .Call (.Name x _) (y :: l) [] _ => gN sc (blN b) x && starsB (y :: l) && chkA fs N es true sc (y :: l)
    | _ => false
  | .lrng1 a, sc, e => match e with
    | .Call (.Name x _) [.Call (.Name y _) [z] [] _] [] _ => gN sc "list" x && gN sc "range" y && notStar z && chk fs N a sc z
    | _ => false
  | .lrng2 a b, sc, e => match e with
    | .Call (.Name x _) [.Call (.Name y _) [z, z2] [] _] [] _ => gN sc "list" x && gN sc "range" y && notStar z && notStar z2 && chk fs N a sc z && chk fs N b sc z2
    | _ => false
  | .isi a ts, sc, e => match e with
    | .Call (.Name x _) [y, .Tuple cs _ _] [] _ => gN sc "isinstance" x && notStar y && tyNames sc ts cs && decide (ts.length ≤ 1000) && chk fs N a sc y
    | .Call (.Name x _) [y, c] [] _ => gN sc "isinstance" x && notStar y && (match ts with | [t] => tyName sc t c | _ => false) && chk fs N a sc y
    | _ => false
  | .mt m a es, sc, e => match m, es, e with
    | .index, .cons b .nil, .Call (.Attribute o n ap) [y] [] cp => decide (n = Str.ofString "index") && notCall o && (ap.endLine == cp.line) && notStar y && chk fs N a sc o && chk fs N b sc y
    | .get, .cons b (.cons c .nil), .Call (.Attribute o n ap) [y, z] [] cp => decide (n = Str.ofString "get") && notCall o && (ap.endLine == cp.line) && notStar y && notStar z && chk fs N a sc o && chk fs N b sc y && chk fs N c sc z && !isB b && !isB c
    | _, _, _ => false
  | .lc own tg src elt, sc, e => match e with
    | .ListComp y [⟨t, i, [], as⟩] scope _ => decide (as = 0) && blkC N sc scope (ownN N own) && subB (slT tg) own && notSet i && chkT false (relS scope sc) N tg t && chkSrc fs N src true sc t i && chk fs N elt (relS scope sc) y && !isB elt
    | _ => false
  | .lcIf own tg src cnd elt, sc, e => match e with
    | .ListComp y [⟨t, i, [c], as⟩] scope _ => decide (as = 0) && blkC N sc scope (ownN N own) && subB (slT tg) own && notSet i && chkT false (relS scope sc) N tg t && !isDk src && chkSrc fs N src true sc t i && chkC fs N cnd (relS scope sc) c && chk fs N elt (relS scope sc) y && !isB elt
    | _ => false
def chkC (fs : List (String × Nat × Bool)) (N : List Str) : Ex → Scope → Expr → Bool
  | .cmp op a b, sc, e => match e with | .Compare l [o] [r] _ => decide (o = cpc op) && notSet r && chk fs N a sc l && chk fs N b sc r | _ => false
  | .chain o1 o2 a b c, sc, e => match e with | .Compare l [p1, p2] [m, r] _ => decide (p1 = cpc o1) && decide (p2 = cpc o2) && notSet r && chk fs N a sc l && chk fs N b sc m && chk fs N c sc r | _ => false
  | .and a b, sc, e => match e with
    | .BoolOp op [l, r] _ => decide (op = .And) && chkC fs N a sc l && chkC fs N b sc r
    | .BoolOp op (l :: r :: q :: rest) pos => decide (op = .And) && chkC fs N a sc l && chkC fs N b sc (.BoolOp .And (r :: q :: rest) pos)
    | _ => false
  | .or a b, sc, e => match e with
    | .BoolOp op [l, r] _ => decide (op = .Or) && chkC fs N a sc l && chkC fs N b sc r
    | .BoolOp op (l :: r :: q :: rest) pos => decide (op = .Or) && chkC fs N a sc l && chkC fs N b sc (.BoolOp .Or (r :: q :: rest) pos)
    | _ => false
  | .not a, sc, e => match e with | .UnaryOp op x _ => decide (op = .Not) && chkC fs N a sc x | _ => false
  | .call f es, sc, e => match e with
    | .Call (.Name x _) l [] _ => gN sc f x && starsB l && (fs.any fun p => p.1 == f && p.2.1 == es.len) && decide (es.len = l.length) && chkA fs N es false sc l
    | _ => false
  | .isi a ts, sc, e => match e with
    | .Call (.Name x _) [y, .Tuple cs _ _] [] _ => gN sc "isinstance" x && notStar y && tyNames sc ts cs && decide (ts.length ≤ 1000) && chk fs N a sc y
    | .Call (.Name x _) [y, c] [] _ => gN sc "isinstance" x && notStar y && (match ts with | [t] => tyName sc t c | _ => false) && chk fs N a sc y
    | _ => false
  | .var i, sc, e => isNm N sc i e
  | _, _, _ => false
def chkA (fs : List (String × Nat × Bool)) (N : List Str) : Exs → Bool → Scope → List Expr → Bool
  | .nil, _, _, l => match l with | [] => true | _ => false
  | .cons a es, m, sc, l => match l with | e :: l => notStar e && chk fs N a sc e && (m || !isB a) && chkA fs N es m sc l | [] => false
def chkSrc (fs : List (String × Nat × Bool)) (N : List Str) : Src → Bool → Scope → Expr → Expr → Bool
  | .val a, m, sc, _, i => chk fs N a sc i && (m || !isB a)
  | .rng1 a, _, sc, _, i => match i with | .Call (.Name x _) [y] [] _ => gN sc "range" x && notStar y && chk fs N a sc y | _ => false
  | .rng2 a b, _, sc, _, i => match i with | .Call (.Name x _) [y, z] [] _ => gN sc "range" x && notStar y && notStar z && chk fs N a sc y && chk fs N b sc z | _ => false
  | .zip2 a b, m, sc, t, i => match i with | .Call (.Name x _) [y, z] [] _ => isTup t && gN sc "zip" x && notStar y && notStar z && chk fs N a sc y && chk fs N b sc z && (m || !isB a) && (m || !isB b) | _ => false
  | .enm a, m, sc, t, i => match i with | .Call (.Name x _) [y] [] _ => isTup t && gN sc "enumerate" x && notStar y && chk fs N a sc y && (m || !isB a) | _ => false
  | .dkeys j, _, sc, _, i => isNm N sc j i
  | _, _, _, _, _ => false
end
def isX (fs : List (String × Nat × Bool)) : Ex → Bool
  | .var _ => false
  | .bor _ => false
  | .ite .. => false
  | .idx .. => false
  | .mt .. => false
  | .call f es => fs.contains (f, es.len, true)
  | _ => true
structure Gd (X : Cx) (F : FT) (fs : List (String × Nat × Bool)) (ex : Ex) (e : Expr) : Prop where
  b : PE X e (tDB X.K F ex)
  d : isB ex = false → PE X e (tDE X.K F ex)
  x : isX fs ex = true → PE X e (tDX X.K F ex)
theorem Gd.ofE {X : Cx} {F : FT} {fs : List (String × Nat × Bool)} {ex : Ex} {e : Expr} (h : PE X e (tDE X.K F ex)) (hx : isX fs ex = false) : Gd X F fs ex e := ⟨pe_b h, fun _ => h, fun z => by rw [hx] at z; cases z⟩
theorem Gd.ofX {X : Cx} {F : FT} {fs : List (String × Nat × Bool)} {ex : Ex} {e : Expr} (h : PE X e (tDX X.K F ex)) : Gd X F fs ex e := ⟨pe_b (pe_x h), fun _ => pe_x h, fun _ => h⟩
section
variable {F : FT} {fs : List (String × Nat × Bool)} {N : List Str}
theorem isNm_of {sc : Scope} {i : Nat} {e : Expr} (h : isNm N sc i e = true) : ∃ x p, e = .Name x p ∧ nameAt N i x = true ∧ visB sc x = true ∧ okName x = true := by
  cases e with
  | Name x p =>
    unfold isNm at h
    simp only [Bool.and_eq_true] at h
    exact ⟨x, p, rfl, h.1.1, h.1.2, h.2⟩
  | _ => cases h
theorem gN_of {sc : Scope} {s : String} {x : Str} (h : gN sc s x = true) : x = Str.ofString s ∧ glB sc x = true ∧ okName x = true := by
  unfold gN at h
  simp only [Bool.and_eq_true, decide_eq_true_eq] at h
  exact ⟨h.1.1, h.1.2, h.2⟩
theorem nb {a : Ex} (h : (!isB a) = true) : isB a = false := by simpa using h
theorem call_good {X : Cx} {sc : Scope} {f : String} {es : Exs} {x : Str} {p pos : Pos} {l : List Expr} (h : Here X sc N) (am : Amb X F fs) (hg : gN sc f x = true) (hs : starsB l = true) (hf : (fs.any fun p => p.1 == f && p.2.1 == es.len) = true) (hl : es.len = l.length) (ha : PA X l (tDA X.K F es)) :
    Gd X F fs (.call f es) (.Call (.Name x p) l [] pos) := by
  obtain ⟨rfl, g, ok⟩ := gN_of hg
  have key : ∀ fr, (f, es.len, fr) ∈ fs → PE X (.Call (.Name (Str.ofString f) p) l [] pos) (tDC X.K F (.call f es) fr) := fun fr hm => by
    cases l with
    | nil =>
      cases es with
      | nil => exact e_callG0 h am hm rfl g ok
      | cons a b => simp [Exs.len] at hl
    | cons e l => exact e_callG h am hm rfl g ok hs ha
  obtain ⟨q, hq, he⟩ := List.any_eq_true.mp hf
  simp only [Bool.and_eq_true, beq_iff_eq] at he
  obtain ⟨f', n', fr⟩ := q
  obtain ⟨rfl, rfl⟩ := he
  have k := key fr hq
  refine ⟨pe_b (pe_c k), fun _ => pe_c k, fun hx => ?_⟩
  have : (f', es.len, true) ∈ fs := by simpa [isX] using hx
  exact (key true this).imp fun σ H Q ⟨H0, G0, G, en, R, sr, hw, hv⟩ => ⟨H0, G0, G, en, R, sr, hw, hv⟩
theorem isi_good {X : Cx} {sc : Scope} {a : Ex} {ts : List Ty} {e : Expr} (h : Here X sc N) (am : Amb X F fs) (ih : ∀ {e}, chk fs N a sc e = true → Gd X F fs a e)
    (hk : chk fs N (.isi a ts) sc e = true) : Gd X F fs (.isi a ts) e := by
  unfold chk at hk
  split at hk
  · simp only [Bool.and_eq_true, decide_eq_true_eq] at hk
    obtain ⟨⟨⟨⟨k1, k2⟩, k3⟩, k4⟩, k5⟩ := hk
    obtain ⟨e1, g, ok⟩ := gN_of k1
    exact .ofX (e_isiT h am e1 g ok k2 k3 (Nat.le_trans k4 (by decide)) (ih k5).b)
  · simp only [Bool.and_eq_true] at hk
    obtain ⟨⟨⟨k1, k2⟩, k3⟩, k5⟩ := hk
    obtain ⟨e1, g, ok⟩ := gN_of k1
    split at k3
    · exact .ofX (e_isi1 h am e1 g ok k2 k3 (ih k5).b)
    · cases k3
  · cases hk
theorem gm {X : Cx} {a : Ex} {e : Expr} {m : Bool} (g : Gd X F fs a e) (h : (m || !isB a) = true) : PE X e (tDM m X.K F a) := by
  refine pe_m ?_
  cases m with
  | true => exact g.b
  | false => exact g.d (by simpa using h)
def isBO : Expr → Bool
  | .BoolOp .. => true
  | _ => false
theorem pt_one_and {X : Cx} {e : Expr} {t : TT} {pos : Pos} (h : PT X e t) : PW X (.BoolOp .And [e] pos) t := pw_and1 h
set_option maxHeartbeats 2000000 in
mutual
theorem soE : ∀ (ex : Ex) {X : Cx} {sc : Scope} {e : Expr}, Here X sc N → Amb X F fs → chk fs N ex sc e = true → Gd X F fs ex e
  | .var i, X, sc, e, h, am, hk => by
    unfold chk at hk
    obtain ⟨x, p, rfl, h1, h2, h3⟩ := isNm_of hk
    exact .ofE (e_var h h1 h2 h3) rfl
  | .bor i, X, sc, e, h, am, hk => by
    unfold chk at hk
    obtain ⟨x, p, rfl, h1, h2, h3⟩ := isNm_of hk
    exact ⟨e_bor h h1 h2 h3, fun z => (by cases z), fun z => (by cases z)⟩
  | .none, X, sc, e, h, am, hk => by
    unfold chk at hk
    split at hk
    · exact .ofX e_none
    · cases hk
  | .bool b, X, sc, e, h, am, hk => by
    unfold chk at hk
    split at hk
    · rw [beq_iff_eq] at hk; subst hk; exact .ofX e_bool
    · cases hk
  | .int b, X, sc, e, h, am, hk => by
    unfold chk at hk
    split at hk
    · rw [decide_eq_true_eq] at hk; subst hk; exact .ofX e_int
    · cases hk
  | .str b, X, sc, e, h, am, hk => by
    unfold chk at hk
    split at hk
    · rw [decide_eq_true_eq] at hk; subst hk; exact .ofX e_str
    · cases hk
  | .neg a, X, sc, e, h, am, hk => by
    unfold chk at hk
    split at hk
    · simp only [Bool.and_eq_true, decide_eq_true_eq] at hk
      obtain ⟨rfl, k⟩ := hk
      exact .ofX (e_neg (soE a h am k).b)
    · cases hk
  | .bin op a b, X, sc, e, h, am, hk => by
    unfold chk at hk
    split at hk
    · simp only [Bool.and_eq_true, decide_eq_true_eq] at hk
      obtain ⟨⟨rfl, k⟩, k2⟩ := hk
      exact .ofX (e_bin (soE a h am k).b (soE b h am k2).b)
    · cases hk
  | .cmp op a b, X, sc, e, h, am, hk => by
    unfold chk at hk
    split at hk
    · simp only [Bool.and_eq_true, decide_eq_true_eq] at hk
      obtain ⟨⟨⟨rfl, k0⟩, k⟩, k2⟩ := hk
      exact .ofX (e_cmp am.un k0 (soE a h am k).b (soE b h am k2).b)
    · cases hk
  | .chain o1 o2 a b c, X, sc, e, h, am, hk => by
    unfold chk at hk
    split at hk
    · simp only [Bool.and_eq_true, decide_eq_true_eq] at hk
      obtain ⟨⟨⟨⟨⟨rfl, rfl⟩, k0⟩, k⟩, k2⟩, k3⟩ := hk
      exact .ofX (e_chain am.un k0 (soE a h am k).b (soE b h am k2).b (soE c h am k3).b)
    · cases hk
  | .and a b, X, sc, e, h, am, hk => by
    unfold chk at hk
    split at hk
    · simp only [Bool.and_eq_true, decide_eq_true_eq] at hk
      obtain ⟨⟨rfl, k⟩, k2⟩ := hk
      exact .ofX (e_and (soE a h am k).b (pe_one (soE b h am k2).b))
    · simp only [Bool.and_eq_true, decide_eq_true_eq] at hk
      obtain ⟨⟨rfl, k⟩, k2⟩ := hk
      exact .ofX (e_and (soE a h am k).b (soE b h am k2).b)
    · cases hk
  | .or a b, X, sc, e, h, am, hk => by
    unfold chk at hk
    split at hk
    · simp only [Bool.and_eq_true, decide_eq_true_eq] at hk
      obtain ⟨⟨rfl, k⟩, k2⟩ := hk
      exact .ofX (e_or (soE a h am k).b (pe_one (soE b h am k2).b))
    · simp only [Bool.and_eq_true, decide_eq_true_eq] at hk
      obtain ⟨⟨rfl, k⟩, k2⟩ := hk
      exact .ofX (e_or (soE a h am k).b (soE b h am k2).b)
    · cases hk
  | .not a, X, sc, e, h, am, hk => by
    unfold chk at hk
    split at hk
    · simp only [Bool.and_eq_true, decide_eq_true_eq] at hk
      obtain ⟨rfl, k⟩ := hk
      exact .ofX (e_not (soE a h am k).b)
    · cases hk
  | .ite c a b, X, sc, e, h, am, hk => by
    unfold chk at hk
    split at hk
    · simp only [Bool.and_eq_true] at hk
      obtain ⟨⟨⟨⟨k1, k2⟩, k3⟩, k4⟩, k5⟩ := hk
      exact .ofE (e_ite (soC c h am k1).1 ((soE a h am k2).d (nb k4)) ((soE b h am k3).d (nb k5))) rfl
    · cases hk
  | .idx a b, X, sc, e, h, am, hk => by
    unfold chk at hk
    split at hk
    · simp only [Bool.and_eq_true] at hk
      obtain ⟨⟨k1, k2⟩, k3⟩ := hk
      exact .ofE (e_idx am.un k1 (soE a h am k2).b (soE b h am k3).b) rfl
    · cases hk
  | .slcL a b, X, sc, e, h, am, hk => by
    unfold chk at hk
    split at hk
    · simp only [Bool.and_eq_true] at hk
      exact .ofX (e_slcL (soE a h am hk.1).b (soE b h am hk.2).b)
    · cases hk
  | .slcH a b, X, sc, e, h, am, hk => by
    unfold chk at hk
    split at hk
    · simp only [Bool.and_eq_true] at hk
      exact .ofX (e_slcH (soE a h am hk.1).b (soE b h am hk.2).b)
    · cases hk
  | .slcLH a b c, X, sc, e, h, am, hk => by
    unfold chk at hk
    split at hk
    · simp only [Bool.and_eq_true] at hk
      exact .ofX (e_slcLH (soE a h am hk.1.1).b (soE b h am hk.1.2).b (soE c h am hk.2).b)
    · cases hk
  | .rev a, X, sc, e, h, am, hk => by
    unfold chk at hk
    split at hk
    · simp only [Bool.and_eq_true, decide_eq_true_eq] at hk
      obtain ⟨⟨rfl, rfl⟩, k⟩ := hk
      exact .ofX (e_rev (soE a h am k).b)
    · cases hk
  | .tup es, X, sc, e, h, am, hk => by
    unfold chk at hk
    split at hk
    · simp only [Bool.and_eq_true, decide_eq_true_eq] at hk
      exact .ofX (e_tup ((soA es h am hk.2).1 rfl) (Nat.le_trans hk.1 (by decide)))
    · cases hk
  | .lst es, X, sc, e, h, am, hk => by
    unfold chk at hk
    split at hk
    · simp only [Bool.and_eq_true, decide_eq_true_eq] at hk
      exact .ofX (e_lst ((soA es h am hk.2).1 rfl) (Nat.le_trans hk.1 (by decide)))
    · cases hk
  | .dic0, X, sc, e, h, am, hk => by
    unfold chk at hk
    split at hk
    · exact .ofX e_dic0
    · cases hk
  | .dic1 k v, X, sc, e, h, am, hk => by
    unfold chk at hk
    split at hk
    · simp only [Bool.and_eq_true] at hk
      obtain ⟨⟨⟨k1, k2⟩, k3⟩, k4⟩ := hk
      exact .ofX (e_dic1 am.un ((soE k h am k1).d (nb k3)) ((soE v h am k2).d (nb k4)))
    · cases hk
  | .call f es, X, sc, e, h, am, hk => by
    unfold chk at hk
    split at hk
    · simp only [Bool.and_eq_true, decide_eq_true_eq] at hk
      obtain ⟨⟨⟨⟨k1, k2⟩, k3⟩, k4⟩, k5⟩ := hk
      exact call_good h am k1 k2 k3 k4 ((soA es h am k5).1 rfl)
    · cases hk
  | .blt b es, X, sc, e, h, am, hk => by
    unfold chk at hk
    split at hk
    · simp only [Bool.and_eq_true] at hk
      obtain ⟨⟨k1, k2⟩, k3⟩ := hk
      obtain ⟨e1, g, ok⟩ := gN_of k1
      exact .ofX (e_blt h am e1 g ok k2 ((soA es h am k3).2 rfl))
    · cases hk
  | .lrng1 a, X, sc, e, h, am, hk => by
    unfold chk at hk
    split at hk
    · simp only [Bool.and_eq_true] at hk
      obtain ⟨⟨⟨k1, k2⟩, k3⟩, k4⟩ := hk
      obtain ⟨e1, g, _⟩ := gN_of k1
      obtain ⟨e2, g2, _⟩ := gN_of k2
      exact .ofX (e_lrng1 h am e1 g e2 g2 k3 (soE a h am k4).b)
    · cases hk
  | .lrng2 a b, X, sc, e, h, am, hk => by
    unfold chk at hk
    split at hk
    · simp only [Bool.and_eq_true] at hk
      obtain ⟨⟨⟨⟨⟨k1, k2⟩, k3⟩, k4⟩, k5⟩, k6⟩ := hk
      obtain ⟨e1, g, _⟩ := gN_of k1
      obtain ⟨e2, g2, _⟩ := gN_of k2
      exact .ofX (e_lrng2 h am e1 g e2 g2 k3 k4 (soE a h am k5).b (soE b h am k6).b)
    · cases hk
  | .isi a ts, X, sc, e, h, am, hk => isi_good h am (fun k => soE a h am k) hk
  | .mt m a es, X, sc, e, h, am, hk => by
    unfold chk at hk
    split at hk
    · rename_i b o n ap y cp
      simp only [Bool.and_eq_true, decide_eq_true_eq] at hk
      obtain ⟨⟨⟨⟨⟨rfl, k1⟩, k2⟩, k3⟩, k4⟩, k5⟩ := hk
      exact .ofE (e_index k1 k2 k3 (soE a h am k4).b (soE b h am k5).b) rfl
    · rename_i b c o n ap y z cp
      simp only [Bool.and_eq_true, decide_eq_true_eq] at hk
      obtain ⟨⟨⟨⟨⟨⟨⟨⟨⟨rfl, k1⟩, k2⟩, k3⟩, k4⟩, k5⟩, k6⟩, k7⟩, k8⟩, k9⟩ := hk
      exact .ofE (e_get am.un k1 k2 k3 k4 (soE a h am k5).b ((soE b h am k6).d (nb k8)) ((soE c h am k7).d (nb k9))) rfl
    · cases hk
  | .lc own tg src elt, X, sc, e, h, am, hk => by
    unfold chk at hk
    split at hk
    · rename_i y t i as scope pos
      simp only [Bool.and_eq_true, decide_eq_true_eq] at hk
      obtain ⟨⟨⟨⟨⟨⟨⟨rfl, k1⟩, k2⟩, k3⟩, k4⟩, k5⟩, k6⟩, k7⟩ := hk
      have he := fun s H C cl fp => (soE elt (h.blk (scope := scope) s H C cl fp) (am.blk (scope := scope) s H C cl fp) k6).d (nb k7)
      by_cases hd : isDk src = true
      · cases src with
        | dkeys j =>
          unfold chkSrc at k5
          obtain ⟨x, p, rfl, h1, h2, h3⟩ := isNm_of k5
          exact .ofX (e_lcK h am h1 h2 h3 k1 k2 k4 he)
        | _ => cases hd
      · exact .ofX (e_lc h am k1 k2 k3 k4 (soS src h am k5 (by simpa using hd)) he)
    · cases hk
  | .lcIf own tg src cnd elt, X, sc, e, h, am, hk => by
    unfold chk at hk
    split at hk
    · rename_i y t i c as scope pos
      simp only [Bool.and_eq_true, decide_eq_true_eq] at hk
      obtain ⟨⟨⟨⟨⟨⟨⟨⟨⟨rfl, k1⟩, k2⟩, k3⟩, k4⟩, k0⟩, k5⟩, k8⟩, k6⟩, k7⟩ := hk
      have he := fun s H C cl fp => (soE elt (h.blk (scope := scope) s H C cl fp) (am.blk (scope := scope) s H C cl fp) k6).d (nb k7)
      have hc := fun s H C cl fp => (soC cnd (h.blk (scope := scope) s H C cl fp) (am.blk (scope := scope) s H C cl fp) k8).1
      exact .ofX (e_lcIf h am k1 k2 k3 k4 (soS src h am k5 (by simpa using k0)) hc he)
    · cases hk
theorem soC : ∀ (ex : Ex) {X : Cx} {sc : Scope} {e : Expr}, Here X sc N → Amb X F fs → chkC fs N ex sc e = true → PT X e (tDT X.K F ex) ∧ (isBO e = true → PW X e (tDT X.K F ex))
  | .cmp op a b, X, sc, e, h, am, hk => by
    unfold chkC at hk
    split at hk
    · simp only [Bool.and_eq_true, decide_eq_true_eq] at hk
      obtain ⟨⟨⟨rfl, k0⟩, k⟩, k2⟩ := hk
      exact ⟨t_cmp am.un k0 (soE a h am k).b (soE b h am k2).b, fun z => by cases z⟩
    · cases hk
  | .chain o1 o2 a b c, X, sc, e, h, am, hk => by
    unfold chkC at hk
    split at hk
    · simp only [Bool.and_eq_true, decide_eq_true_eq] at hk
      obtain ⟨⟨⟨⟨⟨rfl, rfl⟩, k0⟩, k⟩, k2⟩, k3⟩ := hk
      exact ⟨t_chain am.un k0 (soE a h am k).b (soE b h am k2).b (soE c h am k3).b, fun z => by cases z⟩
    · cases hk
  | .and a b, X, sc, e, h, am, hk => by
    have : PW X e (tDT X.K F (.and a b)) := by
      unfold chkC at hk
      split at hk
      · simp only [Bool.and_eq_true, decide_eq_true_eq] at hk
        obtain ⟨⟨rfl, k⟩, k2⟩ := hk
        exact t_and (soC a h am k).1 (pw_and1 (soC b h am k2).1)
      · simp only [Bool.and_eq_true, decide_eq_true_eq] at hk
        obtain ⟨⟨rfl, k⟩, k2⟩ := hk
        exact t_and (soC a h am k).1 ((soC b h am k2).2 rfl)
      · cases hk
    exact ⟨this.pt, fun _ => this⟩
  | .or a b, X, sc, e, h, am, hk => by
    have : PW X e (tDT X.K F (.or a b)) := by
      unfold chkC at hk
      split at hk
      · simp only [Bool.and_eq_true, decide_eq_true_eq] at hk
        obtain ⟨⟨rfl, k⟩, k2⟩ := hk
        exact t_or (soC a h am k).1 (pw_or1 (soC b h am k2).1)
      · simp only [Bool.and_eq_true, decide_eq_true_eq] at hk
        obtain ⟨⟨rfl, k⟩, k2⟩ := hk
        exact t_or (soC a h am k).1 ((soC b h am k2).2 rfl)
      · cases hk
    exact ⟨this.pt, fun _ => this⟩
  | .not a, X, sc, e, h, am, hk => by
    unfold chkC at hk
    split at hk
    · simp only [Bool.and_eq_true, decide_eq_true_eq] at hk
      obtain ⟨rfl, k⟩ := hk
      exact ⟨t_not (soC a h am k).1, fun z => by cases z⟩
    · cases hk
  | .call f es, X, sc, e, h, am, hk => by
    unfold chkC at hk
    split at hk
    · simp only [Bool.and_eq_true, decide_eq_true_eq] at hk
      obtain ⟨⟨⟨⟨k1, k2⟩, k3⟩, k4⟩, k5⟩ := hk
      exact ⟨t_val (call_good h am k1 k2 k3 k4 ((soA es h am k5).1 rfl)).b rfl, fun z => by cases z⟩
    · cases hk
  | .isi a ts, X, sc, e, h, am, hk => by
    have hk' : chk fs N (.isi a ts) sc e = true := by
      unfold chkC at hk
      unfold chk
      exact hk
    have hp : plainT e = true ∧ isBO e = false := by
      unfold chkC at hk
      split at hk
      · exact ⟨rfl, rfl⟩
      · exact ⟨rfl, rfl⟩
      · cases hk
    exact ⟨t_val (isi_good h am (fun k => soE a h am k) hk').b hp.1, fun z => by rw [hp.2] at z; cases z⟩
  | .var i, X, sc, e, h, am, hk => by
    unfold chkC at hk
    obtain ⟨x, p, rfl, h1, h2, h3⟩ := isNm_of hk
    exact ⟨t_val (pe_b (e_var h h1 h2 h3)) rfl, fun z => by cases z⟩
  | .bor _, X, sc, e, h, am, hk => by simp [chkC] at hk
  | .none, X, sc, e, h, am, hk => by simp [chkC] at hk
  | .bool _, X, sc, e, h, am, hk => by simp [chkC] at hk
  | .int _, X, sc, e, h, am, hk => by simp [chkC] at hk
  | .str _, X, sc, e, h, am, hk => by simp [chkC] at hk
  | .neg _, X, sc, e, h, am, hk => by simp [chkC] at hk
  | .bin _ _ _, X, sc, e, h, am, hk => by simp [chkC] at hk
  | .ite _ _ _, X, sc, e, h, am, hk => by simp [chkC] at hk
  | .idx _ _, X, sc, e, h, am, hk => by simp [chkC] at hk
  | .slcL _ _, X, sc, e, h, am, hk => by simp [chkC] at hk
  | .slcH _ _, X, sc, e, h, am, hk => by simp [chkC] at hk
  | .slcLH _ _ _, X, sc, e, h, am, hk => by simp [chkC] at hk
  | .rev _, X, sc, e, h, am, hk => by simp [chkC] at hk
  | .tup _, X, sc, e, h, am, hk => by simp [chkC] at hk
  | .lst _, X, sc, e, h, am, hk => by simp [chkC] at hk
  | .dic0, X, sc, e, h, am, hk => by simp [chkC] at hk
  | .dic1 _ _, X, sc, e, h, am, hk => by simp [chkC] at hk
  | .blt _ _, X, sc, e, h, am, hk => by simp [chkC] at hk
  | .lrng1 _, X, sc, e, h, am, hk => by simp [chkC] at hk
  | .lrng2 _ _, X, sc, e, h, am, hk => by simp [chkC] at hk
  | .mt _ _ _, X, sc, e, h, am, hk => by simp [chkC] at hk
  | .lc _ _ _ _, X, sc, e, h, am, hk => by simp [chkC] at hk
  | .lcIf _ _ _ _ _, X, sc, e, h, am, hk => by simp [chkC] at hk
theorem soA : ∀ (es : Exs) {X : Cx} {sc : Scope} {m : Bool} {l : List Expr}, Here X sc N → Amb X F fs → chkA fs N es m sc l = true → (m = false → PA X l (tDA X.K F es)) ∧ (m = true → PA X l (tDAB X.K F es))
  | .nil, X, sc, m, l, h, am, hk => by
    unfold chkA at hk
    split at hk
    · exact ⟨fun _ => a_nil, fun _ => ab_nil⟩
    · cases hk
  | .cons a es, X, sc, m, l, h, am, hk => by
    unfold chkA at hk
    split at hk
    · simp only [Bool.and_eq_true] at hk
      obtain ⟨⟨⟨k1, k2⟩, k3⟩, k4⟩ := hk
      have ih := soA es h am k4
      refine ⟨fun hm => ?_, fun hm => ab_cons k1 (soE a h am k2).b (ih.2 hm)⟩
      subst hm
      exact a_cons k1 ((soE a h am k2).d (by simpa using k3)) (ih.1 rfl)
    · cases hk
theorem soS : ∀ (src : Src) {X : Cx} {sc : Scope} {m : Bool} {t i : Expr}, Here X sc N → Amb X F fs → chkSrc fs N src m sc t i = true → isDk src = false → PI X t i (tSrc m X.K F src)
  | .val a, X, sc, m, t, i, h, am, hk, hd => by
    unfold chkSrc at hk
    rw [Bool.and_eq_true] at hk
    exact i_val (gm (soE a h am hk.1) hk.2)
  | .rng1 a, X, sc, m, t, i, h, am, hk, hd => by
    unfold chkSrc at hk
    split at hk
    · simp only [Bool.and_eq_true] at hk
      obtain ⟨⟨k1, k2⟩, k3⟩ := hk
      obtain ⟨rfl, g, _⟩ := gN_of k1
      exact i_rng1 h am g k2 (soE a h am k3).b
    · cases hk
  | .rng2 a b, X, sc, m, t, i, h, am, hk, hd => by
    unfold chkSrc at hk
    split at hk
    · simp only [Bool.and_eq_true] at hk
      obtain ⟨⟨⟨⟨k1, k2⟩, k3⟩, k4⟩, k5⟩ := hk
      obtain ⟨rfl, g, _⟩ := gN_of k1
      exact i_rng2 h am g k2 k3 (soE a h am k4).b (soE b h am k5).b
    · cases hk
  | .zip2 a b, X, sc, m, t, i, h, am, hk, hd => by
    unfold chkSrc at hk
    split at hk
    · simp only [Bool.and_eq_true] at hk
      obtain ⟨⟨⟨⟨⟨⟨⟨k0, k1⟩, k2⟩, k3⟩, k4⟩, k5⟩, k6⟩, k7⟩ := hk
      obtain ⟨rfl, g, _⟩ := gN_of k1
      cases t with
      | Tuple es k p => exact i_zip2 h am g k2 k3 (gm (soE a h am k4) k6) (gm (soE b h am k5) k7)
      | _ => cases k0
    · cases hk
  | .enm a, X, sc, m, t, i, h, am, hk, hd => by
    unfold chkSrc at hk
    split at hk
    · simp only [Bool.and_eq_true] at hk
      obtain ⟨⟨⟨⟨k0, k1⟩, k2⟩, k4⟩, k6⟩ := hk
      obtain ⟨rfl, g, _⟩ := gN_of k1
      cases t with
      | Tuple es k p => exact i_enm h am g k2 (gm (soE a h am k4) k6)
      | _ => cases k0
    · cases hk
  | .dkeys j, X, sc, m, t, i, h, am, hk, hd => by cases hd
  | .ditems j, X, sc, m, t, i, h, am, hk, hd => by simp [chkSrc] at hk
  | .zip4 _ _ _ _, X, sc, m, t, i, h, am, hk, hd => by simp [chkSrc] at hk
  | .enmZ _ _, X, sc, m, t, i, h, am, hk, hd => by simp [chkSrc] at hk
end
end
end Z

namespace Z
open PySem PySem.Spec PyProof.Rows L2
/-! statements -/
def cmpIn (sc : Scope) (x : Str) (p : Pos) : Expr → Bool
  | .ListComp _ _ scope pos => lclB sc x && oneLine p pos && noOwn scope x
  | _ => false
def nswap (sc : Scope) (x : Str) : Expr → Bool
  | .ListComp .. => !(lclB sc x)
  | e => notComp e
theorem nswap_of {sc : Scope} {x : Str} {e : Expr} {p : Pos} {l : Nat} {env : Env} (he : env.scope = sc) (h : nswap sc x e = true) : swapsWith e (some (.Name x p)) l env = pure false := by
  cases e with
  | ListComp a b c d =>
    have hk : (env.kindOf x == some NameKind.local) = false := by
      unfold Env.kindOf
      rw [he]
      have h' : lclB sc x = false := by simpa [nswap] using h
      unfold lclB at h'
      split at h'
      · cases h'
      · rename_i z
        rw [beq_eq_false_iff_ne]
        exact fun q => z q
    unfold swapsWith
    simp only [hk, Bool.and_false, Bool.false_and]
    try rfl
  | _ => exact swap_of h
mutual
def chk1 (fr : Bool) (sc : Scope) (fs : List (String × Nat × Bool)) (N : List Str) : St → Stmt → Bool
  | .asg i a, s => match s with
    | .Assign [.Name x p] e _ => nameAt N i x && chk fs N a sc e && !isB a && ((locB sc x && nswap sc x e) || (isX fs a && cmpIn sc x p e))
    | _ => false
  | .asgO i a, s => match s with
    | .Assign [.Name x p] e _ => nameAt N i x && chk fs N a sc e && isX fs a && ((locB sc x && nswap sc x e) || cmpIn sc x p e)
    | _ => false
  | .unp tg a, s => match s with
    | .Assign [t] e _ => chkT true sc N tg t && unpOk sc t e && chk fs N a sc e && !isB a
    | _ => false
  | .par2 i o a j b, s => match s with
    | .Assign [.Tuple [.Name x px, .Name y py] _ _] (.Tuple [l, r] _ _) _ => nameAt N i x && nameAt N j y && (i != j) && lclB sc x && lclB sc y && swSome sc [.Name x px, .Name y py] [l, r] && decide (swNames sc [.Name x px, .Name y py] = [x, y]) && notStar l && notStar r && chk fs N a sc l && !isB a && (!o || isX fs a) && chk fs N b sc r && !isB b
    | _ => false
  | .par3 i o a j b k c, s => match s with
    | .Assign [.Tuple [.Name x px, .Name y py, .Name z pz] _ _] (.Tuple [l, r, q] _ _) _ => nameAt N i x && nameAt N j y && nameAt N k z && (i != j && i != k && j != k) && lclB sc x && lclB sc y && lclB sc z && swSome sc [.Name x px, .Name y py, .Name z pz] [l, r, q] && decide (swNames sc [.Name x px, .Name y py, .Name z pz] = [x, y, z]) && notStar l && notStar r && notStar q &&
      chk fs N a sc l && !isB a && (!o || isX fs a) && chk fs N b sc r && !isB b && chk fs N c sc q && !isB c
    | _ => false
  | .setI i k v, s => match s with
    | .Assign [.Subscript o ke _] e _ => isNm N sc i o && notComp e && chk fs N k sc ke && !isB k && chk fs N v sc e && !isB v
    | _ => false
  | .app i a, s => match s with
    | .Expr (.Call (.Attribute o n ap) [e] [] cp) _ => decide (n = Str.ofString "append") && isNm N sc i o && notStar e && (ap.endLine == cp.line) && chk fs N a sc e && !isB a
    | _ => false
  | .aug i a, s => match s with
    | .AugAssign (.Name x _) op e _ => decide (op = .Add) && nameAt N i x && locB sc x && chk fs N a sc e && !isB a
    | _ => false
  | .ite c a b, s => match s with
    | .If ce l r _ => chkC fs N c sc ce && chkL fr sc fs N a l && chkL fr sc fs N b r
    | _ => false
  | .forS tg src b, s => match s with
    | .For t i l [] _ => notSet i && chkT true sc N tg t && chkSrc fs N src false sc t i && chkL fr sc fs N b l
    | _ => false
  | .whl c b, s => match s with
    | .While ce l [] _ => chkC fs N c sc ce && chkL fr sc fs N b l
    | _ => false
  | .ret a, s => match s with
    | .Return (some e) _ => !fr && chk fs N a sc e && !isB a
    | _ => false
  | .retF a, s => match s with
    | .Return (some e) _ => fr && (match a with | .bor i => isNm N sc i e | _ => isX fs a && chk fs N a sc e)
    | _ => false
  | _, _ => false
def chkL (fr : Bool) (sc : Scope) (fs : List (String × Nat × Bool)) (N : List Str) : St → List Stmt → Bool
  | .skip, l => match l with | [] => true | _ => false
  | .seq s t, l => match s with
    | .frz _ => chkL fr sc fs N t l
    | _ => match l with | x :: l => chk1 fr sc fs N s x && chkL fr sc fs N t l | [] => false
  | _, _ => false
end
section
variable {F : FT} {fs : List (String × Nat × Bool)} {N : List Str} {fr : Bool}
/-- a comprehension stored on its line -/
theorem so_lc {X : Cx} {sc : Scope} {j : Nat} {a : Ex} {x : Str} {p spos : Pos} {e : Expr} (h : TopX X sc N) (am : Amb X F fs) (hj : nameAt N j x = true) (hk : chk fs N a sc e = true) (hx : isX fs a = true) (hc : cmpIn sc x p e = true) : PS X (.Assign [.Name x p] e spos) (tAsg (tDX X.K F a) (gName j)) := by
  cases e with
  | ListComp y gs scope pos =>
    unfold cmpIn at hc
    simp only [Bool.and_eq_true] at hc
    obtain ⟨⟨c1, c2⟩, c3⟩ := hc
    have hh := h.toHere
    cases a with
    | lc own tg src elt =>
      unfold chk at hk
      split at hk
      · rename_i y' t i as scope' pos' heq
        cases heq
        simp only [Bool.and_eq_true, decide_eq_true_eq] at hk
        obtain ⟨⟨⟨⟨⟨⟨⟨rfl, k1⟩, k2⟩, k3⟩, k4⟩, k5⟩, k6⟩, k7⟩ := hk
        have he := fun s H C cl fp => (soE elt (hh.blk (scope := scope) s H C cl fp) (am.blk (scope := scope) s H C cl fp) k6).d (nb k7)
        by_cases hd : isDk src = true
        · cases src with
          | dkeys j =>
            unfold chkSrc at k5
            obtain ⟨x, p, rfl, h1, h2, h3⟩ := isNm_of k5
            exact s_lcK hh am h.kind hj c1 c2 c3 h1 h2 h3 k1 k2 k4 he
          | _ => cases hd
        · exact s_lc hh am h.kind hj c1 c2 c3 k1 k2 k3 k4 (soS src hh am k5 (by simpa using hd)) he
      · cases hk
    | lcIf own tg src cnd elt =>
      unfold chk at hk
      split at hk
      · rename_i y' t i c as scope' pos' heq
        cases heq
        simp only [Bool.and_eq_true, decide_eq_true_eq] at hk
        obtain ⟨⟨⟨⟨⟨⟨⟨⟨⟨rfl, k1⟩, k2⟩, k3⟩, k4⟩, k0⟩, k5⟩, k8⟩, k6⟩, k7⟩ := hk
        have he := fun s H C cl fp => (soE elt (hh.blk (scope := scope) s H C cl fp) (am.blk (scope := scope) s H C cl fp) k6).d (nb k7)
        have hcn := fun s H C cl fp => (soC cnd (hh.blk (scope := scope) s H C cl fp) (am.blk (scope := scope) s H C cl fp) k8).1
        exact s_lcIf hh am h.kind hj c1 c2 c3 k1 k2 k3 k4 (soS src hh am k5 (by simpa using k0)) hcn he
      · cases hk
    | _ => first | (cases hx; done) | (simp [chk] at hk; done) | (unfold chk at hk; split at hk <;> first | (cases hk; done) | contradiction)
  | _ => cases hc
theorem s_nsw {X : Cx} {sc : Scope} {i : Nat} {x : Str} {e : Expr} {te : TE} {p pos : Pos} (h : TopX X sc N) (h1 : nameAt N i x = true) (h2 : locB sc x = true) (hn : nswap sc x e = true) (he : PE X e te) : PS X (.Assign [.Name x p] e pos) (tAsg te (gName i)) :=
  ps_set (by rw [h.n]; exact h.nd) (by rw [h.n]; exact of_decide_eq_true h1) (h.sto h2).1 he (nswap_of h.sc hn) (h.sto h2).2
set_option maxHeartbeats 2000000 in
mutual
theorem so1 : ∀ (st : St) {X : Cx} {sc : Scope} {s : Stmt}, TopX X sc N → Amb X F fs → chk1 fr sc fs N st s = true → PS X s (tDS X.K F fr st)
  | .asg i a, X, sc, s, h, am, hk => by
    unfold chk1 at hk
    split at hk
    · simp only [Bool.and_eq_true, Bool.or_eq_true] at hk
      obtain ⟨⟨⟨k1, k2⟩, k3⟩, k4⟩ := hk
      rcases k4 with ⟨k4, k5⟩ | ⟨k4, k5⟩
      · exact s_set (s_nsw h k1 k4 k5 ((soE a h.toHere am k2).d (nb k3)))
      · exact s_setX (so_lc h am k1 k2 k4 k5)
    · cases hk
  | .asgO i a, X, sc, s, h, am, hk => by
    unfold chk1 at hk
    split at hk
    · simp only [Bool.and_eq_true, Bool.or_eq_true] at hk
      obtain ⟨⟨⟨k1, k2⟩, k3⟩, k4⟩ := hk
      rcases k4 with ⟨k4, k5⟩ | k4
      · exact s_setO (s_nsw h k1 k4 k5 ((soE a h.toHere am k2).x k3))
      · exact s_setO (so_lc h am k1 k2 k3 k4)
    · cases hk
  | .unp tg a, X, sc, s, h, am, hk => by
    unfold chk1 at hk
    split at hk
    · simp only [Bool.and_eq_true] at hk
      obtain ⟨⟨⟨k1, k2⟩, k3⟩, k4⟩ := hk
      exact s_unp h am.calm k1 k2 ((soE a h.toHere am k3).d (nb k4))
    · cases hk
  | .par2 i o a j b, X, sc, s, h, am, hk => by
    unfold chk1 at hk
    split at hk
    · simp only [Bool.and_eq_true, Bool.or_eq_true] at hk
      obtain ⟨⟨⟨⟨⟨⟨⟨⟨⟨⟨⟨⟨⟨k1, k2⟩, k3⟩, k4⟩, k5⟩, k6⟩, k7⟩, k8⟩, k9⟩, k10⟩, k11⟩, k12⟩, k13⟩, k14⟩ := hk
      refine s_par2 h am.calm k1 k2 k3 k4 k5 k6 k7 k8 k9 ?_ ((soE b h.toHere am k13).d (nb k14))
      have g := soE a h.toHere am k10
      cases o with
      | true => exact g.x (by simpa using k12)
      | false => exact g.d (nb k11)
    · cases hk
  | .par3 i o a j b k c, X, sc, s, h, am, hk => by
    unfold chk1 at hk
    split at hk
    · simp only [Bool.and_eq_true, Bool.or_eq_true] at hk
      obtain ⟨⟨⟨⟨⟨⟨⟨⟨⟨⟨⟨⟨⟨⟨⟨⟨⟨⟨k1, k2⟩, k3⟩, k4⟩, k5⟩, k6⟩, k7⟩, k8⟩, k9⟩, k10⟩, k11⟩, k12⟩, k13⟩, k14⟩, k15⟩, k16⟩, k17⟩, k18⟩, k19⟩ := hk
      refine s_par3 h am.calm k1 k2 k3 (by simp only [Bool.and_eq_true]; exact k4) k5 k6 k7 k8 k9 k10 k11 k12 ?_ ((soE b h.toHere am k16).d (nb k17)) ((soE c h.toHere am k18).d (nb k19))
      have g := soE a h.toHere am k13
      cases o with
      | true => exact g.x (by simpa using k15)
      | false => exact g.d (nb k14)
    · cases hk
  | .setI i k v, X, sc, s, h, am, hk => by
    unfold chk1 at hk
    split at hk
    · simp only [Bool.and_eq_true] at hk
      obtain ⟨⟨⟨⟨⟨k1, k2⟩, k3⟩, k4⟩, k5⟩, k6⟩ := hk
      obtain ⟨x, p, rfl, h1, h2, h3⟩ := isNm_of k1
      exact s_setI h am.un h1 h2 h3 k2 ((soE k h.toHere am k3).d (nb k4)) ((soE v h.toHere am k5).d (nb k6))
    · cases hk
  | .app i a, X, sc, s, h, am, hk => by
    unfold chk1 at hk
    split at hk
    · simp only [Bool.and_eq_true, decide_eq_true_eq] at hk
      obtain ⟨⟨⟨⟨⟨rfl, k1⟩, k2⟩, k3⟩, k4⟩, k5⟩ := hk
      obtain ⟨x, p, rfl, h1, h2, h3⟩ := isNm_of k1
      exact s_app h h1 h2 h3 k2 k3 ((soE a h.toHere am k4).d (nb k5))
    · cases hk
  | .aug i a, X, sc, s, h, am, hk => by
    unfold chk1 at hk
    split at hk
    · simp only [Bool.and_eq_true, decide_eq_true_eq] at hk
      obtain ⟨⟨⟨⟨rfl, k1⟩, k2⟩, k3⟩, k4⟩ := hk
      exact s_aug h k1 k2 ((soE a h.toHere am k3).d (nb k4))
    · cases hk
  | .ite c a b, X, sc, s, h, am, hk => by
    unfold chk1 at hk
    split at hk
    · simp only [Bool.and_eq_true] at hk
      obtain ⟨⟨k1, k2⟩, k3⟩ := hk
      exact s_if (soC c h.toHere am k1).1 (soL a h am k2) (soL b h am k3)
    · cases hk
  | .forS tg src b, X, sc, s, h, am, hk => by
    unfold chk1 at hk
    split at hk
    · simp only [Bool.and_eq_true] at hk
      obtain ⟨⟨⟨k1, k2⟩, k3⟩, k4⟩ := hk
      by_cases hd : isDk src = true
      · cases src with
        | dkeys j =>
          unfold chkSrc at k3
          obtain ⟨x, p, rfl, h1, h2, h3⟩ := isNm_of k3
          exact s_forK h am.calm h1 h2 h3 k2 (soL b h am k4)
        | _ => cases hd
      · exact s_for h am.calm k1 k2 (soS src h.toHere am k3 (by simpa using hd)) (soL b h am k4)
    · cases hk
  | .whl c b, X, sc, s, h, am, hk => by
    unfold chk1 at hk
    split at hk
    · simp only [Bool.and_eq_true] at hk
      exact s_while h (soC c h.toHere am hk.1).1 (soL b h am hk.2)
    · cases hk
  | .ret a, X, sc, s, h, am, hk => by
    unfold chk1 at hk
    split at hk
    · simp only [Bool.and_eq_true] at hk
      obtain ⟨⟨k1, k2⟩, k3⟩ := hk
      cases fr with
      | true => cases k1
      | false => exact s_ret ((soE a h.toHere am k2).d (nb k3))
    · cases hk
  | .retF a, X, sc, s, h, am, hk => by
    unfold chk1 at hk
    split at hk
    · rw [Bool.and_eq_true] at hk
      obtain ⟨k1, k2⟩ := hk
      subst k1
      split at k2
      · obtain ⟨x, p, rfl, h1, h2, h3⟩ := isNm_of k2
        exact s_retB h h1 h2 h3
      · rw [Bool.and_eq_true] at k2
        exact s_retF ((soE a h.toHere am k2.2).x k2.1)
    · cases hk
  | .skip, X, sc, s, h, am, hk => by simp [chk1] at hk
  | .seq _ _, X, sc, s, h, am, hk => by simp [chk1] at hk
  | .frz _, X, sc, s, h, am, hk => by simp [chk1] at hk
theorem soL : ∀ (st : St) {X : Cx} {sc : Scope} {l : List Stmt}, TopX X sc N → Amb X F fs → chkL fr sc fs N st l = true → PSs X l (tDS X.K F fr st)
  | .skip, X, sc, l, h, am, hk => by
    unfold chkL at hk
    split at hk
    · exact ss_nil
    · cases hk
  | .seq s t, X, sc, l, h, am, hk => by
    unfold chkL at hk
    split at hk
    · exact ss_frz (soL t h am hk)
    · split at hk
      · rw [Bool.and_eq_true] at hk
        exact ss_cons (so1 s h am hk.1) (soL t h am hk.2)
      · cases hk
  | .asg _ _, X, sc, s, h, am, hk => by simp [chkL] at hk
  | .asgO _ _, X, sc, s, h, am, hk => by simp [chkL] at hk
  | .unp _ _, X, sc, s, h, am, hk => by simp [chkL] at hk
  | .par2 _ _ _ _ _, X, sc, s, h, am, hk => by simp [chkL] at hk
  | .par3 _ _ _ _ _ _ _, X, sc, s, h, am, hk => by simp [chkL] at hk
  | .setI _ _ _, X, sc, s, h, am, hk => by simp [chkL] at hk
  | .app _ _, X, sc, s, h, am, hk => by simp [chkL] at hk
  | .aug _ _, X, sc, s, h, am, hk => by simp [chkL] at hk
  | .ite _ _ _, X, sc, s, h, am, hk => by simp [chkL] at hk
  | .forS _ _ _, X, sc, s, h, am, hk => by simp [chkL] at hk
  | .whl _ _, X, sc, s, h, am, hk => by simp [chkL] at hk
  | .ret _, X, sc, s, h, am, hk => by simp [chkL] at hk
  | .retF _, X, sc, s, h, am, hk => by simp [chkL] at hk
  | .frz _, X, sc, s, h, am, hk => by simp [chkL] at hk
end
/-- a def's body: its document string ahead -/
def skipDoc : List Stmt → List Stmt
  | .Expr (.Constant (.str _) _ _) _ :: l => l
  | l => l
theorem soBody {st : St} {X : Cx} {sc : Scope} {l : List Stmt} (h : TopX X sc N) (am : Amb X F fs) (hk : chkL fr sc fs N st (skipDoc l) = true) : PSs X l (tDS X.K F fr st) := by
  unfold skipDoc at hk
  split at hk
  · exact ss_doc (soL st h am hk)
  · exact soL st h am hk
end
end Z

namespace Z
open PySem PySem.Spec PyProof.Rows L2
/-! the defs of a text, by levels -/
def sts (l : List String) : List Str := l.map fun s => Str.ofString s
def fsOf (T : List Fn) : List (String × Nat × Bool) := T.map fun x => (x.name, x.ps.length, x.fresh)
def scB (N P : List Str) (sc : Scope) : Bool :=
  decide (sc.kind = .function) && decide (sc.isCoroutine = false) && decide (sc.isGenerator = false) && decide N.Nodup && decide (N.take P.length = P) && (P.all fun x => locB sc x) && (sc.names.all fun y => decide (y.2 ≠ .free))
theorem scB_of {N P : List Str} {sc : Scope} (h : scB N P sc = true) : FnScope N P sc := by
  unfold scB at h
  simp only [Bool.and_eq_true, decide_eq_true_eq, List.all_eq_true] at h
  obtain ⟨⟨⟨⟨⟨⟨h1, h2⟩, h3⟩, h4⟩, h5⟩, h6⟩, h7⟩ := h
  exact ⟨h1, h2, h3, h4, h5, fun x hx => loc_of (h6 x hx), h7⟩
def defB (fs : List (String × Nat × Bool)) (x : Fn) (st : Stmt) : Bool :=
  scB (sts x.ns) (sts x.ps) (defScope st) && chkL x.fresh (defScope st) fs (sts x.ns) x.body (skipDoc (defBody st))
def texB (fs : List (String × Nat × Bool)) : List Fn → List Stmt → Bool
  | [], [] => true
  | x :: T, st :: l => defB fs x st && texB fs T l
  | _, _ => false
/-- one def as it stands behind the top -/
def DefAt (K : PySem.W.Frag) (mg : Str → Option Value) (x : Fn) (st : Stmt) : Prop :=
  ∃ fa fd, L2.Fun K (Str.ofString x.name) (Str.ofString x.name) st fa fd ∧ mg (Str.ofString x.name) = some (.ref fa) ∧ Binds K fd (sts x.ps) []
def DefsAt (K : PySem.W.Frag) (mg : Str → Option Value) : List Fn → List Stmt → Prop
  | [], [] => True
  | x :: T, st :: l => DefAt K mg x st ∧ DefsAt K mg T l
  | _, _ => False
theorem ent_get {n : Nat} {ds : List D} {i : Nat} {s : Sl} (h : (ent n ds)[i]? = some s) : (∃ d, ds[i]? = some d ∧ s = .sh d) ∨ s = .any := by
  unfold ent at h
  by_cases hi : i < ds.length
  · rw [List.getElem?_append_left (by rw [List.length_map]; exact hi), List.getElem?_map, List.getElem?_eq_getElem hi] at h
    exact .inl ⟨_, List.getElem?_eq_getElem hi, (Option.some.inj h).symm⟩
  · rw [List.getElem?_append_right (by rw [List.length_map]; omega)] at h
    rw [List.getElem?_replicate] at h
    split at h
    · exact .inr (Option.some.inj h).symm
    · cases h
theorem SR.start {K : PySem.W.Frag} {G H : Hp} {N : List Str} {vs : List V} {ds : List D} (s : Sub G H) (r : RepAll K G vs ds) (hl : ds.length ≤ N.length) : SR K H G G H (L2.start N vs) (ent N.length ds) := by
  have e := r.length
  refine ⟨.refl s, by simp [L2.start, ent]; omega, fun i sl h => ?_, fun i j a h1 h2 => ?_⟩
  · have hi : i < N.length := by
      have := (List.getElem?_eq_some_iff.mp h).1
      simp [ent] at this
      omega
    rcases ent_get h with ⟨d, hd, rfl⟩ | rfl
    · obtain ⟨x, h1, h2⟩ := r.get hd
      refine ⟨some x, ?_, x, rfl, h2⟩
      unfold L2.start
      rw [List.getElem?_append_left (by rw [List.length_map]; exact (List.getElem?_eq_some_iff.mp h1).1), List.getElem?_map, h1]
      rfl
    · refine ⟨(L2.start N vs)[i]'(by simp [L2.start]; omega), List.getElem?_eq_getElem _, trivial⟩
  · obtain ⟨⟨d, hd⟩, _⟩ := h1
    rcases ent_get hd with ⟨d', _, e⟩ | e <;> cases e
theorem find_mem {T : List Fn} {f : String} {x : Fn} (h : T.find? (fun x => x.name == f) = some x) : x ∈ T ∧ x.name = f := by
  have h1 := List.find?_some h
  exact ⟨List.mem_of_find?_eq_some h, by simpa using h1⟩
section
variable {P : Program} {w : World} {K : PySem.W.Frag} {mg : Str → Option Value} {base : Heap}
def Kn (P : Program) (w : World) (K : PySem.W.Frag) (mg : Str → Option Value) (base : Heap) (T : List Fn) (k : Nat) (x : Fn) : Prop :=
  ∃ fa fd, FnOk P w K mg base CX0 k fa fd (sts x.ps) (spF K (FW T k) x.name x.ps.length x.fresh) ∧ mg (Str.ofString x.name) = some (.ref fa) ∧ PySem.W.keepIn K (.ref fa) = true ∧ Binds K fd (sts x.ps) []
theorem sts_len (l : List String) : (sts l).length = l.length := by simp [sts]
theorem fn_stepF {T : List Fn} {k : Nat} {x : Fn} {st : Stmt} {fa : Addr} {fd : FuncData} (FU : L2.Fun K (Str.ofString x.name) (Str.ofString x.name) st fa fd) (hc : defB (fsOf T) x st = true) (nd : (T.map (·.name)).Nodup) (hx : x ∈ T) (blt : ∀ b ∈ builtinNames, mg (Str.ofString b) = none) (ih : ∀ y ∈ T, Kn P w K mg base T k y) :
    FnOk P w K mg base CX0 (k + 1) fa fd (sts x.ps) (spF K (FW T (k + 1)) x.name x.ps.length x.fresh) := by
  unfold defB at hc
  rw [Bool.and_eq_true] at hc
  have S := scB_of hc.1
  refine FU.ok S (fun vs H Q E h => ?_) (fun cdv A outer s H vs Q E hr h => ?_)
  · obtain ⟨G, ds, R, hl, _⟩ := h
    rw [hl, sts_len]
  · obtain ⟨G, ds, R, hl, sb, rep, hf, hq⟩ := h
    have hf' : ∃ y, T.find? (fun y => y.name == x.name) = some y ∧ ds.length = y.ps.length ∧ wpB (FW T k) y.body (ent y.ns.length ds) ⟨fun _ => R .none, R⟩ := by
      unfold FW at hf
      split at hf
      · rename_i y hy
        exact ⟨y, hy, hf⟩
      · exact hf.elim
    obtain ⟨y, hy, hn, hw⟩ := hf'
    obtain ⟨hyT, hyn⟩ := find_mem hy
    have hyx : y = x := by
      have inj : ∀ {l : List Fn} {a b : Fn}, (l.map (·.name)).Nodup → a ∈ l → b ∈ l → a.name = b.name → a = b := by
        intro l
        induction l with
        | nil => intro a b _ ha; cases ha
        | cons c l ih =>
          intro a b hnd ha hb e
          rw [List.map_cons, List.nodup_cons] at hnd
          rcases List.mem_cons.mp ha with ha' | ha' <;> rcases List.mem_cons.mp hb with hb' | hb'
          · rw [ha', hb']
          · subst ha'; exact absurd (List.mem_map.mpr ⟨b, by assumption, e.symm⟩) hnd.1
          · subst hb'; exact absurd (List.mem_map.mpr ⟨a, by assumption, e⟩) hnd.1
          · exact ih hnd.2 ha' hb' e
      exact inj nd hyT hx hyn
    subst hyx
    refine ⟨tDS K (FW T k) y.fresh y.body, soBody (N := sts y.ns) (fs := fsOf T) (sc := defScope st) ⟨⟨rfl, rfl, S.nd⟩, S.kind, fun _ _ => rfl, PassesOwn.never⟩ ⟨rfl, ?_, blt, fun p hp => ?_⟩ hc.2, ?_⟩
    · have := hr.un
      show (A.deeper _).units + 65 < cLine
      omega
    · obtain ⟨z, hz, rfl⟩ := List.mem_map.mp hp
      obtain ⟨fa', fd', h1, h2, h3, h4⟩ := ih z hz
      exact ⟨k, fa', fd', sts z.ps, sts_len _, h1, hr, h2, h3, h4⟩
    · have hpl : (sts y.ps).length ≤ (sts y.ns).length := by have := congrArg List.length S.pre; rw [List.length_take] at this; omega
      rw [sts_len, sts_len] at hpl
      refine ⟨H, G, G, ent (sts y.ns).length ds, ⟨fun _ => R .none, R⟩, SR.start sb rep (by rw [sts_len]; omega), ?_, ?_, ?_⟩
      · rw [sts_len]; exact hw
      · intro σ' H' G' e' p g sr
        cases hfr : y.fresh with
        | true => rw [hfr] at hq; exact (show VX K G H R Q from hq) .non H' G' .none p sr.x (.inr ⟨rfl, .non⟩)
        | false => rw [hfr] at hq; exact (show VP K G H R Q from hq) .non H' G' .none p sr.x .non
      · exact hq
theorem fn_step {T : List Fn} {k : Nat} {x : Fn} {st : Stmt} (hd : DefAt K mg x st) (hc : defB (fsOf T) x st = true) (nd : (T.map (·.name)).Nodup) (hx : x ∈ T) (blt : ∀ b ∈ builtinNames, mg (Str.ofString b) = none) (ih : ∀ y ∈ T, Kn P w K mg base T k y) : Kn P w K mg base T (k + 1) x := by
  obtain ⟨fa, fd, FU, hm, hb⟩ := hd
  exact ⟨fa, fd, fn_stepF FU hc nd hx blt ih, hm, FU.kp, hb⟩
theorem fn_zero {T : List Fn} {x : Fn} {st : Stmt} (hd : DefAt K mg x st) (hc : defB (fsOf T) x st = true) : Kn P w K mg base T 0 x := by
  obtain ⟨fa, fd, FU, hm, hb⟩ := hd
  refine ⟨fa, fd, ⟨fun vs H Q E h => ?_, fun A outer s H args us vs Q E hr _ _ _ h => ?_⟩, hm, FU.kp, hb⟩
  · obtain ⟨G, ds, R, hl, _, _, hf, _⟩ := h
    exact hf.elim
  · obtain ⟨G, ds, R, hl, _, _, hf, _⟩ := h
    exact hf.elim
theorem texB_at {fs : List (String × Nat × Bool)} : ∀ {T : List Fn} {l : List Stmt}, texB fs T l = true → DefsAt K mg T l → ∀ x ∈ T, ∃ st, DefAt K mg x st ∧ defB fs x st = true
  | [], [], _, _, x, hx => by cases hx
  | y :: T, st :: l, h, hd, x, hx => by
    unfold texB at h
    rw [Bool.and_eq_true] at h
    rcases List.mem_cons.mp hx with rfl | hx
    · exact ⟨st, hd.1, h.1⟩
    · exact texB_at h.2 hd.2 x hx
  | [], _ :: _, h, _, _, _ => by simp [texB] at h
  | _ :: _, [], h, _, _, _ => by simp [texB] at h
theorem all_fn {T : List Fn} {l : List Stmt} (h : texB (fsOf T) T l = true) (nd : (T.map (·.name)).Nodup) (hd : DefsAt K mg T l) (blt : ∀ b ∈ builtinNames, mg (Str.ofString b) = none) : ∀ k, ∀ x ∈ T, Kn P w K mg base T k x
  | 0, x, hx => by
    obtain ⟨st, h1, h2⟩ := texB_at h hd x hx
    exact fn_zero h1 h2
  | k + 1, x, hx => by
    obtain ⟨st, h1, h2⟩ := texB_at h hd x hx
    exact fn_step h1 h2 nd hx blt (all_fn h nd hd blt k)
end
/-! the law's promise -/
theorem law_sp {K : PySem.W.Frag} {F : FT} {H : Hp} {a : Addr} {ns : List Int} {E : XK} (hS : SqL K H a (ns.map V.int)) (hF : F "law" [.list (ns.map PyData.int)] fun d => d = .bool true) : spF K F "law" 1 false [.ref a] H (fun v _ => v = .bl true) E := by
  let G : Hp := fun b => if b = a then H a else none
  have sub : Sub G H := fun b o h => by
    by_cases e : b = a
    · subst e; exact .inl (by simpa [G] using h)
    · simp [G, e] at h
  have hG : SqL K G a (ns.map V.int) := by
    rcases hS with (h | ⟨o, h⟩) | h
    · exact .inl (.inl (by simpa [G] using h))
    · exact .inl (.inr ⟨o, by simpa [G] using h⟩)
    · exact .inr h
  have rep : ∀ ns : List Int, RepAll K G (ns.map V.int) (ns.map PyData.int) := fun ns => by
    induction ns with
    | nil => exact .nil
    | cons n ns ih => exact .cons (.int n) ih
  refine ⟨G, _, _, rfl, sub, .cons (.lst hG (rep ns)) .nil, hF, ?_⟩
  intro v H' G' d hd x r
  subst hd
  cases r
  rfl
end Z

namespace Z.k17
open Z PySem
section
open PySem PySem.Spec PyProof.Rows L2
def topS (i : Nat) : Stmt := PySem.Challenge.pw_indentsteps_k17_whole_mirrored_and_repea.main.body.getD i (.Pass ⟨0, 0, 0, 0⟩)
abbrev texts : List Stmt := [topS 1, topS 2, topS 3, topS 4, topS 5, topS 7, topS 8, topS 9, topS 10, topS 12, topS 13, topS 14, topS 16, topS 17, topS 18, topS 19, topS 20, topS 21, topS 22, topS 23, topS 24]
set_option maxHeartbeats 0 in
theorem tex_ok : texB (fsOf tab) tab texts = true := by decide +kernel
theorem mem_tab : f_law ∈ tab := by
  unfold tab
  repeat (first | exact List.mem_cons_self | apply List.mem_cons_of_mem)
theorem tab_nd : (tab.map (·.name)).Nodup := by decide +kernel
theorem all_mk {l : PySem.W.OpenLaw} {w : World} {K : PySem.W.Frag} {h : Heap} {mg : Str → Option Value} {fa : Addr} (X : K.In h) (G : h.Ns mainGlobals mg) (hfa : mg "law" = some (.ref fa))
    {od0 an0 : Option Addr} {sl0 : Array (Option Value)} {f0 : Addr} {oc0 kV0 dc0 pm0 cd0 ct0 : Value}
    (a0 : PySem.W.nsIn K mainGlobals "rises" = some (some (.ref f0))) (l0 : K.lookup f0 = some ⟨oc0, od0, .func (PySem.W.fnOf "rises" "rises" (defArgs (topS 1)) (defBody (topS 1)) (defScope (topS 1)) .none kV0 dc0 pm0 an0 cd0 ct0), sl0⟩) (c0 : PySem.W.codeIn K cd0 "rises" = true) (k0 : PySem.W.keepIn K (.ref f0) = true)
    {od1 an1 : Option Addr} {sl1 : Array (Option Value)} {f1 : Addr} {oc1 kV1 dc1 pm1 cd1 ct1 : Value}
    (a1 : PySem.W.nsIn K mainGlobals "choices" = some (some (.ref f1))) (l1 : K.lookup f1 = some ⟨oc1, od1, .func (PySem.W.fnOf "choices" "choices" (defArgs (topS 2)) (defBody (topS 2)) (defScope (topS 2)) .none kV1 dc1 pm1 an1 cd1 ct1), sl1⟩) (c1 : PySem.W.codeIn K cd1 "choices" = true) (k1 : PySem.W.keepIn K (.ref f1) = true)
    {od2 an2 : Option Addr} {sl2 : Array (Option Value)} {f2 : Addr} {oc2 kV2 dc2 pm2 cd2 ct2 : Value}
    (a2 : PySem.W.nsIn K mainGlobals "best_counts" = some (some (.ref f2))) (l2 : K.lookup f2 = some ⟨oc2, od2, .func (PySem.W.fnOf "best_counts" "best_counts" (defArgs (topS 3)) (defBody (topS 3)) (defScope (topS 3)) .none kV2 dc2 pm2 an2 cd2 ct2), sl2⟩) (c2 : PySem.W.codeIn K cd2 "best_counts" = true) (k2 : PySem.W.keepIn K (.ref f2) = true)
    {od3 an3 : Option Addr} {sl3 : Array (Option Value)} {f3 : Addr} {oc3 kV3 dc3 pm3 cd3 ct3 : Value}
    (a3 : PySem.W.nsIn K mainGlobals "counts_cost" = some (some (.ref f3))) (l3 : K.lookup f3 = some ⟨oc3, od3, .func (PySem.W.fnOf "counts_cost" "counts_cost" (defArgs (topS 4)) (defBody (topS 4)) (defScope (topS 4)) .none kV3 dc3 pm3 an3 cd3 ct3), sl3⟩) (c3 : PySem.W.codeIn K cd3 "counts_cost" = true) (k3 : PySem.W.keepIn K (.ref f3) = true)
    {od4 an4 : Option Addr} {sl4 : Array (Option Value)} {f4 : Addr} {oc4 kV4 dc4 pm4 cd4 ct4 : Value}
    (a4 : PySem.W.nsIn K mainGlobals "distance" = some (some (.ref f4))) (l4 : K.lookup f4 = some ⟨oc4, od4, .func (PySem.W.fnOf "distance" "distance" (defArgs (topS 5)) (defBody (topS 5)) (defScope (topS 5)) .none kV4 dc4 pm4 an4 cd4 ct4), sl4⟩) (c4 : PySem.W.codeIn K cd4 "distance" = true) (k4 : PySem.W.keepIn K (.ref f4) = true)
    {od5 an5 : Option Addr} {sl5 : Array (Option Value)} {f5 : Addr} {oc5 kV5 dc5 pm5 cd5 ct5 : Value}
    (a5 : PySem.W.nsIn K mainGlobals "changed" = some (some (.ref f5))) (l5 : K.lookup f5 = some ⟨oc5, od5, .func (PySem.W.fnOf "changed" "changed" (defArgs (topS 7)) (defBody (topS 7)) (defScope (topS 7)) .none kV5 dc5 pm5 an5 cd5 ct5), sl5⟩) (c5 : PySem.W.codeIn K cd5 "changed" = true) (k5 : PySem.W.keepIn K (.ref f5) = true)
    {od6 an6 : Option Addr} {sl6 : Array (Option Value)} {f6 : Addr} {oc6 kV6 dc6 pm6 cd6 ct6 : Value}
    (a6 : PySem.W.nsIn K mainGlobals "after" = some (some (.ref f6))) (l6 : K.lookup f6 = some ⟨oc6, od6, .func (PySem.W.fnOf "after" "after" (defArgs (topS 8)) (defBody (topS 8)) (defScope (topS 8)) .none kV6 dc6 pm6 an6 cd6 ct6), sl6⟩) (c6 : PySem.W.codeIn K cd6 "after" = true) (k6 : PySem.W.keepIn K (.ref f6) = true)
    {od7 an7 : Option Addr} {sl7 : Array (Option Value)} {f7 : Addr} {oc7 kV7 dc7 pm7 cd7 ct7 : Value}
    (a7 : PySem.W.nsIn K mainGlobals "apply" = some (some (.ref f7))) (l7 : K.lookup f7 = some ⟨oc7, od7, .func (PySem.W.fnOf "apply" "apply" (defArgs (topS 9)) (defBody (topS 9)) (defScope (topS 9)) .none kV7 dc7 pm7 an7 cd7 ct7), sl7⟩) (c7 : PySem.W.codeIn K cd7 "apply" = true) (k7 : PySem.W.keepIn K (.ref f7) = true)
    {od8 an8 : Option Addr} {sl8 : Array (Option Value)} {f8 : Addr} {oc8 kV8 dc8 pm8 cd8 ct8 : Value}
    (a8 : PySem.W.nsIn K mainGlobals "idle" = some (some (.ref f8))) (l8 : K.lookup f8 = some ⟨oc8, od8, .func (PySem.W.fnOf "idle" "idle" (defArgs (topS 10)) (defBody (topS 10)) (defScope (topS 10)) .none kV8 dc8 pm8 an8 cd8 ct8), sl8⟩) (c8 : PySem.W.codeIn K cd8 "idle" = true) (k8 : PySem.W.keepIn K (.ref f8) = true)
    {od9 an9 : Option Addr} {sl9 : Array (Option Value)} {f9 : Addr} {oc9 kV9 dc9 pm9 cd9 ct9 : Value}
    (a9 : PySem.W.nsIn K mainGlobals "effects" = some (some (.ref f9))) (l9 : K.lookup f9 = some ⟨oc9, od9, .func (PySem.W.fnOf "effects" "effects" (defArgs (topS 12)) (defBody (topS 12)) (defScope (topS 12)) .none kV9 dc9 pm9 an9 cd9 ct9), sl9⟩) (c9 : PySem.W.codeIn K cd9 "effects" = true) (k9 : PySem.W.keepIn K (.ref f9) = true)
    {od10 an10 : Option Addr} {sl10 : Array (Option Value)} {f10 : Addr} {oc10 kV10 dc10 pm10 cd10 ct10 : Value}
    (a10 : PySem.W.nsIn K mainGlobals "needed_counts" = some (some (.ref f10))) (l10 : K.lookup f10 = some ⟨oc10, od10, .func (PySem.W.fnOf "needed_counts" "needed_counts" (defArgs (topS 13)) (defBody (topS 13)) (defScope (topS 13)) .none kV10 dc10 pm10 an10 cd10 ct10), sl10⟩) (c10 : PySem.W.codeIn K cd10 "needed_counts" = true) (k10 : PySem.W.keepIn K (.ref f10) = true)
    {od11 an11 : Option Addr} {sl11 : Array (Option Value)} {f11 : Addr} {oc11 kV11 dc11 pm11 cd11 ct11 : Value}
    (a11 : PySem.W.nsIn K mainGlobals "fewest_equal" = some (some (.ref f11))) (l11 : K.lookup f11 = some ⟨oc11, od11, .func (PySem.W.fnOf "fewest_equal" "fewest_equal" (defArgs (topS 14)) (defBody (topS 14)) (defScope (topS 14)) .none kV11 dc11 pm11 an11 cd11 ct11), sl11⟩) (c11 : PySem.W.codeIn K cd11 "fewest_equal" = true) (k11 : PySem.W.keepIn K (.ref f11) = true)
    {od12 an12 : Option Addr} {sl12 : Array (Option Value)} {f12 : Addr} {oc12 kV12 dc12 pm12 cd12 ct12 : Value}
    (a12 : PySem.W.nsIn K mainGlobals "_law_cell" = some (some (.ref f12))) (l12 : K.lookup f12 = some ⟨oc12, od12, .func (PySem.W.fnOf "_law_cell" "_law_cell" (defArgs (topS 16)) (defBody (topS 16)) (defScope (topS 16)) .none kV12 dc12 pm12 an12 cd12 ct12), sl12⟩) (c12 : PySem.W.codeIn K cd12 "_law_cell" = true) (k12 : PySem.W.keepIn K (.ref f12) = true)
    {od13 an13 : Option Addr} {sl13 : Array (Option Value)} {f13 : Addr} {oc13 kV13 dc13 pm13 cd13 ct13 : Value}
    (a13 : PySem.W.nsIn K mainGlobals "_law_digits" = some (some (.ref f13))) (l13 : K.lookup f13 = some ⟨oc13, od13, .func (PySem.W.fnOf "_law_digits" "_law_digits" (defArgs (topS 17)) (defBody (topS 17)) (defScope (topS 17)) .none kV13 dc13 pm13 an13 cd13 ct13), sl13⟩) (c13 : PySem.W.codeIn K cd13 "_law_digits" = true) (k13 : PySem.W.keepIn K (.ref f13) = true)
    {od14 an14 : Option Addr} {sl14 : Array (Option Value)} {f14 : Addr} {oc14 kV14 dc14 pm14 cd14 ct14 : Value}
    (a14 : PySem.W.nsIn K mainGlobals "_law_changed" = some (some (.ref f14))) (l14 : K.lookup f14 = some ⟨oc14, od14, .func (PySem.W.fnOf "_law_changed" "_law_changed" (defArgs (topS 18)) (defBody (topS 18)) (defScope (topS 18)) .none kV14 dc14 pm14 an14 cd14 ct14), sl14⟩) (c14 : PySem.W.codeIn K cd14 "_law_changed" = true) (k14 : PySem.W.keepIn K (.ref f14) = true)
    {od15 an15 : Option Addr} {sl15 : Array (Option Value)} {f15 : Addr} {oc15 kV15 dc15 pm15 cd15 ct15 : Value}
    (a15 : PySem.W.nsIn K mainGlobals "_law_text" = some (some (.ref f15))) (l15 : K.lookup f15 = some ⟨oc15, od15, .func (PySem.W.fnOf "_law_text" "_law_text" (defArgs (topS 19)) (defBody (topS 19)) (defScope (topS 19)) .none kV15 dc15 pm15 an15 cd15 ct15), sl15⟩) (c15 : PySem.W.codeIn K cd15 "_law_text" = true) (k15 : PySem.W.keepIn K (.ref f15) = true)
    {od16 an16 : Option Addr} {sl16 : Array (Option Value)} {f16 : Addr} {oc16 kV16 dc16 pm16 cd16 ct16 : Value}
    (a16 : PySem.W.nsIn K mainGlobals "_law_near" = some (some (.ref f16))) (l16 : K.lookup f16 = some ⟨oc16, od16, .func (PySem.W.fnOf "_law_near" "_law_near" (defArgs (topS 20)) (defBody (topS 20)) (defScope (topS 20)) .none kV16 dc16 pm16 an16 cd16 ct16), sl16⟩) (c16 : PySem.W.codeIn K cd16 "_law_near" = true) (k16 : PySem.W.keepIn K (.ref f16) = true)
    {od17 an17 : Option Addr} {sl17 : Array (Option Value)} {f17 : Addr} {oc17 kV17 dc17 pm17 cd17 ct17 : Value}
    (a17 : PySem.W.nsIn K mainGlobals "_law_command" = some (some (.ref f17))) (l17 : K.lookup f17 = some ⟨oc17, od17, .func (PySem.W.fnOf "_law_command" "_law_command" (defArgs (topS 21)) (defBody (topS 21)) (defScope (topS 21)) .none kV17 dc17 pm17 an17 cd17 ct17), sl17⟩) (c17 : PySem.W.codeIn K cd17 "_law_command" = true) (k17 : PySem.W.keepIn K (.ref f17) = true)
    {od18 an18 : Option Addr} {sl18 : Array (Option Value)} {f18 : Addr} {oc18 kV18 dc18 pm18 cd18 ct18 : Value}
    (a18 : PySem.W.nsIn K mainGlobals "_law_script" = some (some (.ref f18))) (l18 : K.lookup f18 = some ⟨oc18, od18, .func (PySem.W.fnOf "_law_script" "_law_script" (defArgs (topS 22)) (defBody (topS 22)) (defScope (topS 22)) .none kV18 dc18 pm18 an18 cd18 ct18), sl18⟩) (c18 : PySem.W.codeIn K cd18 "_law_script" = true) (k18 : PySem.W.keepIn K (.ref f18) = true)
    {od19 an19 : Option Addr} {sl19 : Array (Option Value)} {f19 : Addr} {oc19 kV19 dc19 pm19 cd19 ct19 : Value}
    (a19 : PySem.W.nsIn K mainGlobals "_law_repeated" = some (some (.ref f19))) (l19 : K.lookup f19 = some ⟨oc19, od19, .func (PySem.W.fnOf "_law_repeated" "_law_repeated" (defArgs (topS 23)) (defBody (topS 23)) (defScope (topS 23)) .none kV19 dc19 pm19 an19 cd19 ct19), sl19⟩) (c19 : PySem.W.codeIn K cd19 "_law_repeated" = true) (k19 : PySem.W.keepIn K (.ref f19) = true)
    {od20 an20 : Option Addr} {sl20 : Array (Option Value)} {f20 : Addr} {oc20 kV20 dc20 pm20 cd20 ct20 : Value}
    (a20 : PySem.W.nsIn K mainGlobals "law" = some (some (.ref f20))) (l20 : K.lookup f20 = some ⟨oc20, od20, .func (PySem.W.fnOf "law" "law" (defArgs (topS 24)) (defBody (topS 24)) (defScope (topS 24)) .none kV20 dc20 pm20 an20 cd20 ct20), sl20⟩) (c20 : PySem.W.codeIn K cd20 "law" = true) (k20 : PySem.W.keepIn K (.ref f20) = true)
    (z0 : PySem.W.nsIn K mainGlobals "len" = some none) (z1 : PySem.W.nsIn K mainGlobals "max" = some none) (z2 : PySem.W.nsIn K mainGlobals "min" = some none) (z3 : PySem.W.nsIn K mainGlobals "sum" = some none) (z4 : PySem.W.nsIn K mainGlobals "all" = some none) (z5 : PySem.W.nsIn K mainGlobals "list" = some none) (z6 : PySem.W.nsIn K mainGlobals "tuple" = some none) (z7 : PySem.W.nsIn K mainGlobals "int" = some none) (z8 : PySem.W.nsIn K mainGlobals "bool" = some none) (z9 : PySem.W.nsIn K mainGlobals "str" = some none) (z10 : PySem.W.nsIn K mainGlobals "isinstance" = some none) (z11 : PySem.W.nsIn K mainGlobals "range" = some none) (z12 : PySem.W.nsIn K mainGlobals "zip" = some none) (z13 : PySem.W.nsIn K mainGlobals "enumerate" = some none) :
    ∃ fd : FuncData, (∀ (s : Shared) (v : Value), BindsTo s fd ⟨[v], []⟩ [("script", v)]) ∧ ∀ base : Heap, K.In base → base.Ns mainGlobals mg → FnOk l.prog w K mg base CX0 4 fa fd ["script"] (spF K (FW tab 4) "law" 1 false) := by
  have e := hfa.symm.trans (PySem.W.mg_of X G a20)
  cases e
  have F0 := fun_mk (st := topS 1) l0 c0 k0
  have b0 := F0.binds (ps := sts f_rises.ps) fun _ _ _ _ _ _ us hl => match us, hl with | [_], _ => rfl
  have F1 := fun_mk (st := topS 2) l1 c1 k1
  have b1 := F1.binds (ps := sts f_choices.ps) fun _ _ _ _ _ _ us hl => match us, hl with | [_, _, _], _ => rfl
  have F2 := fun_mk (st := topS 3) l2 c2 k2
  have b2 := F2.binds (ps := sts f_best_counts.ps) fun _ _ _ _ _ _ us hl => match us, hl with | [_, _], _ => rfl
  have F3 := fun_mk (st := topS 4) l3 c3 k3
  have b3 := F3.binds (ps := sts f_counts_cost.ps) fun _ _ _ _ _ _ us hl => match us, hl with | [_, _], _ => rfl
  have F4 := fun_mk (st := topS 5) l4 c4 k4
  have b4 := F4.binds (ps := sts f_distance.ps) fun _ _ _ _ _ _ us hl => match us, hl with | [_, _], _ => rfl
  have F5 := fun_mk (st := topS 7) l5 c5 k5
  have b5 := F5.binds (ps := sts f_changed.ps) fun _ _ _ _ _ _ us hl => match us, hl with | [_, _], _ => rfl
  have F6 := fun_mk (st := topS 8) l6 c6 k6
  have b6 := F6.binds (ps := sts f_after.ps) fun _ _ _ _ _ _ us hl => match us, hl with | [_, _], _ => rfl
  have F7 := fun_mk (st := topS 9) l7 c7 k7
  have b7 := F7.binds (ps := sts f_apply.ps) fun _ _ _ _ _ _ us hl => match us, hl with | [_, _], _ => rfl
  have F8 := fun_mk (st := topS 10) l8 c8 k8
  have b8 := F8.binds (ps := sts f_idle.ps) fun _ _ _ _ _ _ us hl => match us, hl with | [_, _], _ => rfl
  have F9 := fun_mk (st := topS 12) l9 c9 k9
  have b9 := F9.binds (ps := sts f_effects.ps) fun _ _ _ _ _ _ us hl => match us, hl with | [_, _], _ => rfl
  have F10 := fun_mk (st := topS 13) l10 c10 k10
  have b10 := F10.binds (ps := sts f_needed_counts.ps) fun _ _ _ _ _ _ us hl => match us, hl with | [_, _], _ => rfl
  have F11 := fun_mk (st := topS 14) l11 c11 k11
  have b11 := F11.binds (ps := sts f_fewest_equal.ps) fun _ _ _ _ _ _ us hl => match us, hl with | [_, _], _ => rfl
  have F12 := fun_mk (st := topS 16) l12 c12 k12
  have b12 := F12.binds (ps := sts f_law_cell.ps) fun _ _ _ _ _ _ us hl => match us, hl with | [_, _], _ => rfl
  have F13 := fun_mk (st := topS 17) l13 c13 k13
  have b13 := F13.binds (ps := sts f_law_digits.ps) fun _ _ _ _ _ _ us hl => match us, hl with | [_, _, _, _], _ => rfl
  have F14 := fun_mk (st := topS 18) l14 c14 k14
  have b14 := F14.binds (ps := sts f_law_changed.ps) fun _ _ _ _ _ _ us hl => match us, hl with | [_, _], _ => rfl
  have F15 := fun_mk (st := topS 19) l15 c15 k15
  have b15 := F15.binds (ps := sts f_law_text.ps) fun _ _ _ _ _ _ us hl => match us, hl with | [_, _, _], _ => rfl
  have F16 := fun_mk (st := topS 20) l16 c16 k16
  have b16 := F16.binds (ps := sts f_law_near.ps) fun _ _ _ _ _ _ us hl => match us, hl with | [_, _, _], _ => rfl
  have F17 := fun_mk (st := topS 21) l17 c17 k17
  have b17 := F17.binds (ps := sts f_law_command.ps) fun _ _ _ _ _ _ us hl => match us, hl with | [_, _], _ => rfl
  have F18 := fun_mk (st := topS 22) l18 c18 k18
  have b18 := F18.binds (ps := sts f_law_script.ps) fun _ _ _ _ _ _ us hl => match us, hl with | [_, _, _], _ => rfl
  have F19 := fun_mk (st := topS 23) l19 c19 k19
  have b19 := F19.binds (ps := sts f_law_repeated.ps) fun _ _ _ _ _ _ us hl => match us, hl with | [_, _], _ => rfl
  have F20 := fun_mk (st := topS 24) l20 c20 k20
  have b20 := F20.binds (ps := sts f_law.ps) fun _ _ _ _ _ _ us hl => match us, hl with | [_], _ => rfl
  have D : DefsAt K mg tab texts := ⟨⟨_, _, F0, PySem.W.mg_of X G a0, b0⟩, ⟨_, _, F1, PySem.W.mg_of X G a1, b1⟩, ⟨_, _, F2, PySem.W.mg_of X G a2, b2⟩, ⟨_, _, F3, PySem.W.mg_of X G a3, b3⟩, ⟨_, _, F4, PySem.W.mg_of X G a4, b4⟩, ⟨_, _, F5, PySem.W.mg_of X G a5, b5⟩, ⟨_, _, F6, PySem.W.mg_of X G a6, b6⟩, ⟨_, _, F7, PySem.W.mg_of X G a7, b7⟩, ⟨_, _, F8, PySem.W.mg_of X G a8, b8⟩, ⟨_, _, F9, PySem.W.mg_of X G a9, b9⟩, ⟨_, _, F10, PySem.W.mg_of X G a10, b10⟩, ⟨_, _, F11, PySem.W.mg_of X G a11, b11⟩, ⟨_, _, F12, PySem.W.mg_of X G a12, b12⟩, ⟨_, _, F13, PySem.W.mg_of X G a13, b13⟩, ⟨_, _, F14, PySem.W.mg_of X G a14, b14⟩, ⟨_, _, F15, PySem.W.mg_of X G a15, b15⟩, ⟨_, _, F16, PySem.W.mg_of X G a16, b16⟩, ⟨_, _, F17, PySem.W.mg_of X G a17, b17⟩, ⟨_, _, F18, PySem.W.mg_of X G a18, b18⟩, ⟨_, _, F19, PySem.W.mg_of X G a19, b19⟩, ⟨_, _, F20, PySem.W.mg_of X G a20, b20⟩, trivial⟩
  have B : ∀ b ∈ builtinNames, mg (Str.ofString b) = none := by
    intro b hb
    simp only [builtinNames, List.mem_cons, List.not_mem_nil, or_false] at hb
    rcases hb with rfl | rfl | rfl | rfl | rfl | rfl | rfl | rfl | rfl | rfl | rfl | rfl | rfl | rfl
    · exact PySem.W.mg_none_of X G z0
    · exact PySem.W.mg_none_of X G z1
    · exact PySem.W.mg_none_of X G z2
    · exact PySem.W.mg_none_of X G z3
    · exact PySem.W.mg_none_of X G z4
    · exact PySem.W.mg_none_of X G z5
    · exact PySem.W.mg_none_of X G z6
    · exact PySem.W.mg_none_of X G z7
    · exact PySem.W.mg_none_of X G z8
    · exact PySem.W.mg_none_of X G z9
    · exact PySem.W.mg_none_of X G z10
    · exact PySem.W.mg_none_of X G z11
    · exact PySem.W.mg_none_of X G z12
    · exact PySem.W.mg_none_of X G z13
  refine ⟨PySem.W.fnOf "law" "law" (defArgs (topS 24)) (defBody (topS 24)) (defScope (topS 24)) .none kV20 dc20 pm20 an20 cd20 ct20, fun s v => .of_eq rfl, fun base _ _ => ?_⟩
  exact fn_stepF (x := f_law) F20 (by decide +kernel) tab_nd (mem_tab) B (all_fn tex_ok tab_nd D B 3)
end
end Z.k17

open PySem PySem.W PyProof.Rows
set_option maxHeartbeats 0 in
theorem PySem.Challenge.cw_indentsteps_k17_whole_mirrored_and_repea_holds : PySem.Challenge.rw_indentsteps_k17_whole_mirrored_and_repea.Holds := by
  w_on; o_law; k_head; (case hw => w_witness2)
  k_fill
  refine L2.walk_of (l := PySem.Challenge.rw_indentsteps_k17_whole_mirrored_and_repea) (n := 63) (k := 4) (x := "script") (CX := fun _ => L2.CX0) (sp := fun w => Z.spF _ (Z.FW Z.k17.tab 4) "law" 1 false) rfl (by decide) rfl ⟨rfl, by decide, by decide⟩ (fun w h Y => PySem.W.kIn_of Y) ?F (fun _ _ a ns hl _ hS => Z.law_sp hS (Z.k17.law_holds ns hl)) (fun _ _ _ _ _ h => h)
  case F =>
    intro w mg fa h KX G hmg
    refine' Z.k17.all_mk KX G hmg ?a0 ?l0 ?c0 ?k0 ?a1 ?l1 ?c1 ?k1 ?a2 ?l2 ?c2 ?k2 ?a3 ?l3 ?c3 ?k3 ?a4 ?l4 ?c4 ?k4 ?a5 ?l5 ?c5 ?k5 ?a6 ?l6 ?c6 ?k6 ?a7 ?l7 ?c7 ?k7 ?a8 ?l8 ?c8 ?k8 ?a9 ?l9 ?c9 ?k9 ?a10 ?l10 ?c10 ?k10 ?a11 ?l11 ?c11 ?k11 ?a12 ?l12 ?c12 ?k12 ?a13 ?l13 ?c13 ?k13 ?a14 ?l14 ?c14 ?k14 ?a15 ?l15 ?c15 ?k15 ?a16 ?l16 ?c16 ?k16 ?a17 ?l17 ?c17 ?k17 ?a18 ?l18 ?c18 ?k18 ?a19 ?l19 ?c19 ?k19 ?a20 ?l20 ?c20 ?k20 ?z0 ?z1 ?z2 ?z3 ?z4 ?z5 ?z6 ?z7 ?z8 ?z9 ?z10 ?z11 ?z12 ?z13
    (case a0 => k_is); (case l0 => k_is); (case c0 => k_is); (case k0 => k_is); (case a1 => k_is); (case l1 => k_is); (case c1 => k_is); (case k1 => k_is); (case a2 => k_is); (case l2 => k_is); (case c2 => k_is); (case k2 => k_is); (case a3 => k_is); (case l3 => k_is); (case c3 => k_is); (case k3 => k_is); (case a4 => k_is); (case l4 => k_is); (case c4 => k_is); (case k4 => k_is); (case a5 => k_is); (case l5 => k_is); (case c5 => k_is); (case k5 => k_is); (case a6 => k_is); (case l6 => k_is); (case c6 => k_is); (case k6 => k_is); (case a7 => k_is); (case l7 => k_is); (case c7 => k_is); (case k7 => k_is); (case a8 => k_is); (case l8 => k_is); (case c8 => k_is); (case k8 => k_is); (case a9 => k_is); (case l9 => k_is); (case c9 => k_is); (case k9 => k_is); (case a10 => k_is); (case l10 => k_is); (case c10 => k_is); (case k10 => k_is); (case a11 => k_is); (case l11 => k_is); (case c11 => k_is); (case k11 => k_is); (case a12 => k_is); (case l12 => k_is); (case c12 => k_is); (case k12 => k_is); (case a13 => k_is); (case l13 => k_is); (case c13 => k_is); (case k13 => k_is); (case a14 => k_is); (case l14 => k_is); (case c14 => k_is); (case k14 => k_is); (case a15 => k_is); (case l15 => k_is); (case c15 => k_is); (case k15 => k_is); (case a16 => k_is); (case l16 => k_is); (case c16 => k_is); (case k16 => k_is); (case a17 => k_is); (case l17 => k_is); (case c17 => k_is); (case k17 => k_is); (case a18 => k_is); (case l18 => k_is); (case c18 => k_is); (case k18 => k_is); (case a19 => k_is); (case l19 => k_is); (case c19 => k_is); (case k19 => k_is); (case a20 => k_is); (case l20 => k_is); (case c20 => k_is); (case k20 => k_is); (case z0 => k_is); (case z1 => k_is); (case z2 => k_is); (case z3 => k_is); (case z4 => k_is); (case z5 => k_is); (case z6 => k_is); (case z7 => k_is); (case z8 => k_is); (case z9 => k_is); (case z10 => k_is); (case z11 => k_is); (case z12 => k_is); (case z13 => k_is)
