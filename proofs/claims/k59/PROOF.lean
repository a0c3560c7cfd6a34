import PyProof.Rows.All
import Wide.All
import OpenK.AllK
import Wide.FinOn
import PyProof.EqLayable
import HandS.ForMost
import PyProof.NoPylong
import HandS.Exc
import HandS.ExcOwn
import HandS.CallSlots
import HandS.WordsExc
import HandS.Wide
import HandS.TupAny
import HandS.TupMul
import HandS.Deep
import HandS.Gcd
import HandS.SortInts
import HandS.Flow
import HandS.IsInst
import HandS.Walk
import HandS.Zip
import KE.GoesMore
import KE.GoesEnum
import HandS.Comp
import HandS.Style
import HandS.Defaults
import HandS.Strs
import HandS.HeadEnd
import HandS.EndBits
import HandS.HeadHook4
import HandS.Head0
import HandS.Head1
import HandS.Head2
import HandS.Head3
import PySem.Challenge.RW_lotsdivisors_k59_across_ramanujan_sums
set_option Elab.async false
set_option linter.all false
set_option maxRecDepth 100000
set_option maxHeartbeats 0
set_option exponentiation.threshold 100000
namespace Lv
open PySem
inductive D where
  | non | bl (b : Bool) | int (i : Int) | str (x : Str)
  | tup (xs : List D) | lst (xs : List D) | dic (kvs : List (D × D))
  | fn (i : Nat) | exc (c : Nat) | scr (ns : List Int)
  deriving Inhabited
inductive Sl where
  | un | sh (d : D) | ow (d : D)
  deriving Inhabited
inductive Vl where
  | sh (d : D) | ow (d : D) | sl (i : Nat)
abbrev Env := List Sl
inductive R (α : Type) where
  | ok (a : α) (ρ : Env) | ex (c : Nat) (ρ : Env) | bad
def R.bind {α β : Type} (r : R α) (f : α → Env → R β) : R β := match r with
  | .ok a ρ => f a ρ
  | .ex c ρ => .ex c ρ
  | .bad => .bad
inductive FR where
  | ret (v : Vl) (outs : Env) | ex (c : Nat) (outs : Env) | bad
inductive Fl where
  | nx | brk | cnt | ret (v : Vl)
inductive Bop where | add | sub | mul | fdiv | mod | pow
  deriving DecidableEq
inductive Cop where | eq | ne | lt | le | gt | ge | isin | notin | is | isnot
  deriving DecidableEq
inductive Bi where
  | len | abs | int | sum | max | min | max2 | min2 | sorted | tuple | list | all | gcd | dict | repr | str | bool
  deriving DecidableEq
inductive Ty where | int | bool | str | list | tuple | dict
  deriving DecidableEq
inductive Me where | index | get1 | get2 | items | values | keys
  deriving DecidableEq
inductive Tg where
  | nm (i : Nat) | tup (ts : List Tg)
mutual
inductive CE where
  | cst (d : D) | var (i : Nat) | glo (d : D) | bad
  | bop (o : Bop) (a b : CE) | cmp (o : Cop) (a b : CE) | chn (o p : Cop) (a b c : CE)
  | neg (a : CE) | not (a : CE) | and (a b : CE) | or (a b : CE) | ite (c a b : CE)
  | tup (es : CEs) | lst (es : CEs) | star (t : Bool) (es : CTs) | dict (es : CKs)
  | idx (a b : CE) | sli (a : CE) (lo hi : CEs) | rev (a : CE)
  | call (f : Nat) (es : CEs) | bi (f : Bi) (es : CEs) | isi (a : CE) (ts : List Ty) | isx (a : CE) (c : Nat)
  | met (m : Me) (a : CE) (es : CEs)
  | tix (ns : List Int) (e : CE) | app (i : Nat) (e : CE) | pop (i : Nat)
  | lc (own : List Nat) (t : Tg) (it : CI) (c : CEs) (e : CE)
  | lc2 (own own1 : List Nat) (t : Tg) (it : CI) (t1 : Tg) (it1 : CI) (c : CEs) (e : CE)
inductive CEs where
  | nil | cons (e : CE) (es : CEs)
inductive CTs where
  | nil | cons (st : Bool) (e : CE) (es : CTs)
inductive CKs where
  | nil | cons (k v : CE) (es : CKs)
inductive CI where
  | val (e : CE) | rng (es : CEs) | enum (es : CEs) | zip (es : CEs)
end
mutual
inductive CS where
  | exp (e : CE) | asg (t : Tg) (e : CE) | par (ts : List Nat) (es : CEs) | put (i : Nat) (k v : CE) | ret (e : CE) | ret0
  | ite (c : CE) (a b : CSs) | fr (t : Tg) (it : CI) (b : CSs) | wh (c : CE) (b : CSs)
  | rse (c : Nat) | pass | brk | cnt
inductive CSs where
  | nil | cons (s : CS) (r : CSs)
end
def D.py : D → Option PyData
  | .non => some .none
  | .bl b => some (.bool b)
  | .int i => some (.int i)
  | .str x => some (.str x)
  | .tup xs => (pys xs).map .tuple
  | .lst xs => (pys xs).map .list
  | _ => none
where pys : List D → Option (List PyData)
  | [] => some []
  | x :: xs => match x.py, pys xs with
    | some y, some ys => some (y :: ys)
    | _, _ => none
def ibits (i : Int) : Nat := Builtin.Int.intBits i
def mulOk (i j : Int) : Bool := !(decide (ibits i > 64) && decide (ibits j > 64) && decide (ibits i + ibits j > 134217728))
def fits (n : Nat) : Bool := decide (n ≤ 16777216)
def fresh : D → Vl
  | .lst xs => .ow (.lst xs)
  | .dic kvs => .ow (.dic kvs)
  | d => .sh d
def deq (a b : D) : Option Bool := match a.py, b.py with
  | some x, some y => if SeqAt.shaped x && SeqAt.shaped y then some (PyData.eqv x y) else none
  | _, _ => none
def dlts : List D → List D → Option Bool
  | [], [] => some false
  | [], _ :: _ => some true
  | _ :: _, [] => some false
  | .int i :: xs, .int j :: ys => if i = j then dlts xs ys else some (decide (i < j))
  | _, _ => none
def bop : Bop → D → D → Option D
  | .add, .int i, .int j => some (.int (i + j))
  | .add, .str x, .str y => if fits (x.length + y.length) then some (.str (x ++ y)) else none
  | .add, .lst xs, .lst ys => if fits (xs.length + ys.length) then some (.lst (xs ++ ys)) else none
  | .add, .tup xs, .tup ys => if fits (xs.length + ys.length) then some (.tup (xs ++ ys)) else none
  | .sub, .int i, .int j => some (.int (i - j))
  | .mul, .int i, .int j => if mulOk i j then some (.int (i * j)) else none
  | .mul, .tup xs, .int k => if decide (2 ≤ k) && decide (k ≤ 1000) && decide (xs.length ≤ 1000) && !xs.isEmpty then some (.tup (List.replicate k.toNat xs).flatten) else none
  | .mul, .lst xs, .int k => if decide (-(2 ^ 63) ≤ k) && decide (k < 2 ^ 63) && fits (xs.length * k.toNat) then some (.lst (List.replicate k.toNat xs).flatten) else none
  | .fdiv, .int i, .int j => if decide (j ≠ 0) && !(Builtin.divisionGoesByPylong i j) then some (.int (i.fdiv j)) else none
  | .mod, .int i, .int j => if decide (j ≠ 0) then some (.int (i.fmod j)) else none
  | .pow, .int i, .int j => if decide (0 ≤ j) && decide (j ≤ 1000000) && decide (i.natAbs < 2 ^ 64) then some (.int (i ^ j.toNat)) else none
  | _, _, _ => none
def isNon : D → Bool
  | .non => true
  | _ => false
def dmem (x : D) (xs : List D) : Option Bool := match x.py, D.py.pys xs with
  | some y, some ys => if SeqAt.shaped y && SeqAt.shaped (.list ys) then some (ys.any fun z => PyData.eqv z y) else none
  | _, _ => none
abbrev Ky := Sum Int Str
def D.ky : D → Option Ky
  | .int i => some (.inl i)
  | .str x => some (.inr x)
  | _ => none
def dlook (k : Ky) : List (D × D) → Option D
  | [] => none
  | (x, v) :: r => if x.ky = some k then some v else dlook k r
def dput (x v : D) (k : Ky) (kvs : List (D × D)) : List (D × D) :=
  if (kvs.any fun e => decide (e.1.ky = some k)) = true then kvs.map (fun e => if e.1.ky = some k then (e.1, v) else e) else kvs ++ [(x, v)]
def cmp : Cop → D → D → Option Bool
  | .eq, a, b => deq a b
  | .ne, a, b => (deq a b).map (!·)
  | .lt, .int i, .int j => some (decide (i < j))
  | .le, .int i, .int j => some (decide (i ≤ j))
  | .gt, .int i, .int j => some (decide (j < i))
  | .ge, .int i, .int j => some (decide (j ≤ i))
  | .isin, x, .lst ys => dmem x ys
  | .isin, x, .tup ys => dmem x ys
  | .isin, x, .dic kvs => x.ky.map fun k => (dlook k kvs).isSome
  | .notin, x, .lst ys => (dmem x ys).map (!·)
  | .notin, x, .tup ys => (dmem x ys).map (!·)
  | .notin, x, .dic kvs => x.ky.map fun k => !(dlook k kvs).isSome
  | .is, a, .non => some (isNon a)
  | .isnot, a, .non => some (!isNon a)
  | .is, .bl a, .bl b => some (a == b)
  | .isnot, .bl a, .bl b => some (!(a == b))
  | _, _, _ => none
def truth : D → Option Bool
  | .non => some false
  | .bl b => some b
  | .int i => some (i != 0)
  | .str x => if fits x.length then some (x.length != 0) else none
  | .tup xs => some (!xs.isEmpty)
  | .lst xs => some (!xs.isEmpty)
  | .dic xs => some (!xs.isEmpty)
  | _ => none
def idx : D → D → Option D
  | .lst xs, .int i => (L2.ixN xs.length i).bind fun j => xs[j]?
  | .tup xs, .int i => (L2.ixN xs.length i).bind fun j => xs[j]?
  | .dic kvs, k => k.ky.bind fun k => dlook k kvs
  | _, _ => none
def cut {α : Type} (xs : List α) (lo hi : Option Int) : List α := (xs.drop (HT.sIx xs.length 0 lo)).take (HT.sIx xs.length xs.length hi - HT.sIx xs.length 0 lo)
def sli : D → Option Int → Option Int → Option D
  | .lst xs, lo, hi => some (.lst (cut xs lo hi))
  | .tup xs, lo, hi => some (.tup (cut xs lo hi))
  | _, _, _ => none
def dints : List D → Option (List Int)
  | [] => some []
  | .int i :: r => (dints r).map (i :: ·)
  | _ => none
def dbools : List D → Option (List Bool)
  | [] => some []
  | .bl i :: r => (dbools r).map (i :: ·)
  | _ => none
def insI (x : Int) : List Int → List Int
  | [] => [x]
  | y :: r => if x ≤ y then x :: y :: r else y :: insI x r
def sortI : List Int → List Int
  | [] => []
  | x :: r => insI x (sortI r)
def maxI : Int → List Int → Int
  | m, [] => m
  | m, x :: r => maxI (if m < x then x else m) r
def minI : Int → List Int → Int
  | m, [] => m
  | m, x :: r => minI (if x < m then x else m) r
def items : D → Option (List D)
  | .lst xs => some xs
  | .tup xs => some xs
  | .scr ns => some (ns.map .int)
  | _ => none
def dpairs : List D → Option (List (D × D))
  | [] => some []
  | .tup [k, v] :: r => match k.ky, dpairs r with
    | some _, some kvs => some ((k, v) :: kvs)
    | _, _ => none
  | _ => none
def dmerge : List (D × D) → List (D × D) → List (D × D)
  | acc, [] => acc
  | acc, (k, v) :: r => dmerge (match k.ky with | some ky => dput k v ky acc | none => acc) r
def bi : Bi → List D → Option D
  | .len, [.lst xs] => some (.int xs.length)
  | .len, [.tup xs] => some (.int xs.length)
  | .len, [.dic xs] => some (.int xs.length)
  | .len, [.scr xs] => some (.int xs.length)
  | .len, [.str x] => if fits x.length then some (.int x.length) else none
  | .abs, [.int i] => some (.int (if i < 0 then -i else i))
  | .int, [.int i] => some (.int i)
  | .int, [.bl b] => some (.int (if b then 1 else 0))
  | .sum, [.lst xs] => (dints xs).map fun ns => .int ns.sum
  | .max, [.lst xs] => match dints xs with | some (n :: ns) => some (.int (maxI n ns)) | _ => none
  | .min, [.lst xs] => match dints xs with | some (n :: ns) => some (.int (minI n ns)) | _ => none
  | .max2, [.int i, .int j] => some (.int (if j > i then j else i))
  | .min2, [.int i, .int j] => some (.int (if j < i then j else i))
  | .sorted, [.lst xs] => (dints xs).map fun ns => .lst ((sortI ns).map .int)
  | .tuple, [.lst xs] => some (.tup xs)
  | .tuple, [.tup xs] => some (.tup xs)
  | .list, [.lst xs] => some (.lst xs)
  | .list, [.tup xs] => some (.lst xs)
  | .all, [.lst xs] => (dbools xs).map fun bs => .bl (bs.all id)
  | .gcd, [.int i, .int j] => some (.int ((Nat.gcd i.natAbs j.natAbs : Nat) : Int))
  | .dict, [.lst xs] => (dpairs xs).map fun kvs => .dic (dmerge [] kvs)
  | _, _ => none
def isTy : D → Ty → Bool
  | .int _, .int => true
  | .bl _, .int => true
  | .bl _, .bool => true
  | .str _, .str => true
  | .lst _, .list => true
  | .tup _, .tuple => true
  | .dic _, .dict => true
  | _, _ => false
def plainD : D → Bool
  | .fn _ => false
  | .exc _ => false
  | .scr _ => false
  | _ => true
def met : Me → D → List D → Option D
  | .index, .tup xs, [d] => (dints xs).bind fun ns => match d with | .int i => (ns.findIdx? (· == i)).map fun (j : Nat) => D.int j | _ => none
  | .get1, .dic kvs, [k] => k.ky.map fun k => (dlook k kvs).getD .non
  | .get2, .dic kvs, [k, x] => k.ky.map fun k => (dlook k kvs).getD x
  | _, _, _ => none
def rng (lo hi c : Int) : List D := if 0 < c then (List.range ((hi - lo + c - 1) / c).toNat).map fun (i : Nat) => D.int (lo + i * c) else []
def small62 (i : Int) : Bool := decide (-(2 ^ 62) ≤ i) && decide (i < 2 ^ 62)
def slot (ρ : Env) (i : Nat) : Sl := ρ.getD i .un
def val (ρ : Env) : Vl → Option D
  | .sh d => some d
  | .ow d => some d
  | .sl i => match slot ρ i with
    | .ow d => some d
    | .sh d => some d
    | .un => none
def letgo (ρ : Env) : Vl → Option (D × Env)
  | .sh d => some (d, ρ)
  | .ow d => some (d, ρ)
  | .sl i => match slot ρ i with
    | .ow d => some (d, ρ.set i (.sh d))
    | .sh d => some (d, ρ)
    | .un => none
def letgos (ρ : Env) : List Vl → Option (List D × Env)
  | [] => some ([], ρ)
  | v :: vs => match letgo ρ v with
    | none => none
    | some (d, ρ1) => match letgos ρ1 vs with
      | none => none
      | some (ds, ρ2) => some (d :: ds, ρ2)
def vals (ρ : Env) : List Vl → Option (List D)
  | [] => some []
  | v :: vs => match val ρ v, vals ρ vs with
    | some d, some ds => some (d :: ds)
    | _, _ => none
def sole (i : Nat) : List Vl → Bool
  | [] => true
  | .sl j :: r => decide (i ≠ j) && sole i r
  | _ :: r => sole i r
def lend (ρ : Env) : List Bool → List Vl → Option (Env × Env)
  | _, [] => some ([], ρ)
  | as, v :: vs => match v with
    | .sl i => (match slot ρ i with
      | .ow d => if as.headD true || !sole i vs then (match lend (ρ.set i (.sh d)) as.tail vs with
          | some (r, ρ') => some (.sh d :: r, ρ')
          | none => none)
        else (match lend ρ as.tail vs with
          | some (r, ρ') => some (.ow d :: r, ρ')
          | none => none)
      | .sh d => (match lend ρ as.tail vs with
          | some (r, ρ') => some (.sh d :: r, ρ')
          | none => none)
      | .un => none)
    | .sh d => (match lend ρ as.tail vs with
          | some (r, ρ') => some (.sh d :: r, ρ')
          | none => none)
    | .ow d => (match lend ρ as.tail vs with
          | some (r, ρ') => some (.sh d :: r, ρ')
          | none => none)
def back (ρ : Env) : List Vl → Env → Env → Env
  | .sl i :: vs, .ow _ :: as, o :: os => back (ρ.set i o) vs as os
  | _ :: vs, _ :: as, _ :: os => back ρ vs as os
  | _, _, _ => ρ
def put1 (ρ : Env) (i : Nat) (v : Vl) : Option Env := match v with
  | .sh d => some (ρ.set i (.sh d))
  | .ow d => some (ρ.set i (.ow d))
  | .sl j => match letgo ρ (.sl j) with
    | some (d, ρ1) => some (ρ1.set i (.sh d))
    | none => none
mutual
def asgD (ρ : Env) : Tg → D → Option Env
  | .nm i, d => some (ρ.set i (.sh d))
  | .tup ts, .tup ds => asgDs ρ ts ds
  | .tup _, _ => none
def asgDs (ρ : Env) : List Tg → List D → Option Env
  | [], [] => some ρ
  | t :: ts, d :: ds => match asgD ρ t d with
    | some ρ1 => asgDs ρ1 ts ds
    | none => none
  | _, _ => none
end
def asgV (ρ : Env) (t : Tg) (v : Vl) : Option Env := match t with
  | .nm i => put1 ρ i v
  | t => match letgo ρ v with
    | some (d, ρ1) => asgD ρ1 t d
    | none => none
def parE (ρ : Env) : List Nat → List Sl → Env
  | i :: is, v :: vs => parE (ρ.set i v) is vs
  | _, _ => ρ
def hide (ρ : Env) : List Nat → Option Env
  | [] => some ρ
  | i :: r => match slot ρ i with
    | .ow _ => none
    | _ => hide (ρ.set i .un) r
def wipeE (ρ : Env) : List Nat → Env
  | [] => ρ
  | i :: r => wipeE (ρ.set i .un) r
def show_ (ρ0 ρ : Env) : List Nat → Env
  | [] => ρ
  | i :: r => show_ ρ0 (ρ.set i (slot ρ0 i)) r
def putD (kd d : D) (ρ : Env) (i : Nat) : Option Env := match slot ρ i with
  | .ow (.dic kvs) => (match kd.ky with
    | some ky => if decide (kvs.length < 16777216) then some (ρ.set i (.ow (.dic (dput kd d ky kvs)))) else none
    | none => none)
  | _ => none
def putL (kd d : D) (ρ : Env) (i : Nat) : Option Env := match slot ρ i with
  | .ow (.lst xs) => (match kd with
    | .int j => (match L2.ixN xs.length j with
      | some j => some (ρ.set i (.ow (.lst (xs.set j d))))
      | none => none)
    | _ => none)
  | _ => none
def lcGo (body : D → Env → R (List D)) : List D → Env → R (List D)
  | [], ρ => .ok [] ρ
  | x :: xs, ρ => match body x ρ with
    | .ok ys ρ1 => (match lcGo body xs ρ1 with
      | .ok zs ρ2 => .ok (ys ++ zs) ρ2
      | _ => .bad)
    | _ => .bad
def letR (v : Vl) (ρ : Env) : R (List D) := match letgo ρ v with
  | some (d, ρ) => .ok [d] ρ
  | none => .bad
def elemR (rc : Env → R Bool) (re : Env → R Vl) (ρ : Env) : R (List D) := (rc ρ).bind fun k ρ => if k then (re ρ).bind letR else .ok [] ρ
def asgThen {α : Type} (o : Option Env) (f : Env → R α) : R α := match o with
  | none => .bad
  | some ρ => f ρ
def lcFin (own : List Nat) (ρ1 : Env) (r : R (List D)) : R Vl := r.bind fun ds ρ3 => if fits ds.length then .ok (.ow (.lst ds)) (show_ ρ1 ρ3 own) else .bad
def frGo (body : D → Env → R Fl) : List D → Env → R Fl
  | [], ρ => .ok .nx ρ
  | x :: xs, ρ => (body x ρ).bind fun f ρ1 => match f with
    | .nx => frGo body xs ρ1
    | .cnt => frGo body xs ρ1
    | .brk => .ok .nx ρ1
    | .ret v => .ok (.ret v) ρ1
def whGo (c : Env → R Bool) (body : Env → R Fl) : Nat → Env → R Fl
  | 0, _ => .bad
  | n + 1, ρ => (c ρ).bind fun b ρ1 => if b then (body ρ1).bind fun f ρ2 => match f with
      | .nx => whGo c body n ρ2
      | .cnt => whGo c body n ρ2
      | .brk => .ok .nx ρ2
      | .ret v => .ok (.ret v) ρ2
    else .ok .nx ρ1
def wFuel : Nat := 1000000000
def ofO {α : Type} (o : Option α) (ρ : Env) : R α := match o with
  | some a => .ok a ρ
  | none => .bad
def rTruth (v : Vl) (ρ : Env) : R Bool := match val ρ v with
  | some d => ofO (truth d) ρ
  | none => .bad
section
variable (fc : Nat → List Bool) (call : Nat → Env → FR)
mutual
def evE : CE → Env → R Vl
  | .cst d, ρ => .ok (.sh d) ρ
  | .glo d, ρ => .ok (.sh d) ρ
  | .bad, _ => .bad
  | .var i, ρ => match slot ρ i with
    | .un => .bad
    | .sh d => .ok (.sh d) ρ
    | .ow _ => .ok (.sl i) ρ
  | .bop o a b, ρ => (evE a ρ).bind fun v ρ1 => (evE b ρ1).bind fun w ρ2 => match val ρ2 v, val ρ2 w with
    | some x, some y => ofO ((bop o x y).map fresh) ρ2
    | _, _ => .bad
  | .cmp o a b, ρ => (evE a ρ).bind fun v ρ1 => (evE b ρ1).bind fun w ρ2 => match val ρ2 v, val ρ2 w with
    | some x, some y => ofO ((cmp o x y).map fun k => .sh (.bl k)) ρ2
    | _, _ => .bad
  | .chn o p a b c, ρ => (evE a ρ).bind fun v ρ1 => (evE b ρ1).bind fun w ρ2 => match val ρ2 v, w with
    | some x, .sh y => (match cmp o x y with
      | some true => (evE c ρ2).bind fun u ρ3 => (match val ρ3 u with
        | some z => ofO ((cmp p y z).map fun k => .sh (.bl k)) ρ3
        | none => .bad)
      | some false => .ok (.sh (.bl false)) ρ2
      | none => .bad)
    | _, _ => .bad
  | .neg a, ρ => (evE a ρ).bind fun v ρ1 => match v with
    | .sh (.int i) => .ok (.sh (.int (-i))) ρ1
    | _ => .bad
  | .not a, ρ => (evE a ρ).bind fun v ρ1 => (rTruth v ρ1).bind fun b ρ1 => .ok (.sh (.bl (!b))) ρ1
  | .and a b, ρ => (evE a ρ).bind fun v ρ1 => (rTruth v ρ1).bind fun k ρ1 => if k then evE b ρ1 else .ok v ρ1
  | .or a b, ρ => (evE a ρ).bind fun v ρ1 => (rTruth v ρ1).bind fun k ρ1 => if k then .ok v ρ1 else evE b ρ1
  | .ite c a b, ρ => (evE c ρ).bind fun v ρ1 => (rTruth v ρ1).bind fun k ρ1 => if k then evE a ρ1 else evE b ρ1
  | .tup es, ρ => (evEs es ρ).bind fun ds ρ1 => .ok (.sh (.tup ds)) ρ1
  | .lst es, ρ => (evEs es ρ).bind fun ds ρ1 => .ok (.ow (.lst ds)) ρ1
  | .star t es, ρ => (evTs es ρ).bind fun ds ρ1 => if fits ds.length then (if t then .ok (.sh (.tup ds)) ρ1 else .ok (.ow (.lst ds)) ρ1) else .bad
  | .dict es, ρ => (evKs es ρ).bind fun kvs ρ1 => .ok (.ow (.dic (dmerge [] kvs))) ρ1
  | .idx a b, ρ => (evE a ρ).bind fun v ρ1 => (evE b ρ1).bind fun w ρ2 => match val ρ2 v, val ρ2 w with
    | some x, some y => ofO ((idx x y).map .sh) ρ2
    | _, _ => .bad
  | .sli a lo hi, ρ => (evE a ρ).bind fun v ρ1 => (evO lo ρ1).bind fun l ρ2 => (evO hi ρ2).bind fun h ρ3 => match val ρ3 v with
    | some x => ofO ((sli x l h).map fresh) ρ3
    | _ => .bad
  | .rev a, ρ => (evE a ρ).bind fun v ρ1 => match val ρ1 v with
    | some (.tup xs) => .ok (.sh (.tup xs.reverse)) ρ1
    | some (.lst xs) => .ok (.ow (.lst xs.reverse)) ρ1
    | _ => .bad
  | .call f es, ρ => (evVs es ρ).bind fun vs ρ1 => match lend ρ1 (fc f) vs with
    | some (args, ρ2) => (match call f args with
      | .ret (.sl _) _ => .bad
      | .ret v outs => .ok v (back ρ2 vs args outs)
      | .ex c outs => .ex c (back ρ2 vs args outs)
      | .bad => .bad)
    | none => .bad
  | .bi f es, ρ => (evVs es ρ).bind fun vs ρ1 => match vals ρ1 vs with
    | some ds => ofO ((bi f ds).map fresh) ρ1
    | none => .bad
  | .isi a ts, ρ => (evE a ρ).bind fun v ρ1 => match val ρ1 v with
    | some d => if plainD d then .ok (.sh (.bl (ts.any (isTy d)))) ρ1 else .bad
    | none => .bad
  | .isx a c, ρ => (evE a ρ).bind fun v ρ1 => match v with
    | .sh (.exc k) => .ok (.sh (.bl (c == 0 || c == k))) ρ1
    | .sh .non => .ok (.sh (.bl false)) ρ1
    | _ => .bad
  | .met m a es, ρ => (evE a ρ).bind fun v ρ1 => (evVs es ρ1).bind fun vs ρ2 => match val ρ2 v, vals ρ2 vs with
    | some x, some ds => ofO ((met m x ds).map .sh) ρ2
    | _, _ => .bad
  | .tix ns e, ρ => (evE e ρ).bind fun v ρ1 => match v with
    | .sh (.int i) => ofO ((ns.findIdx? (· == i)).map fun (j : Nat) => Vl.sh (D.int j)) ρ1
    | _ => .bad
  | .app i e, ρ => match slot ρ i with
    | .ow (.lst _) => (evE e ρ).bind fun v ρ1 => match letgo ρ1 v with
      | some (d, ρ2) => (match slot ρ2 i with
        | .ow (.lst xs) => if decide (xs.length < 16777216) then .ok (.sh .non) (ρ2.set i (.ow (.lst (xs ++ [d])))) else .bad
        | _ => .bad)
      | none => .bad
    | _ => .bad
  | .pop i, ρ => match slot ρ i with
    | .ow (.lst xs) => (match xs.getLast? with
      | some d => .ok (.sh d) (ρ.set i (.ow (.lst xs.dropLast)))
      | none => .bad)
    | _ => .bad
  | .lc own t it c e, ρ => (evI it ρ).bind fun xs ρ1 => asgThen (hide ρ1 own) fun ρ2 => lcFin own ρ1 (lcGo (fun x ρ => asgThen (asgD (wipeE ρ own) t x) (elemR (fun ρ => evC c ρ) (fun ρ => evE e ρ))) xs ρ2)
  | .lc2 own own1 t it t1 it1 c e, ρ => (evI it ρ).bind fun xs ρ1 => asgThen (hide ρ1 own) fun ρ2 =>
    lcFin own ρ1 (lcGo (fun x ρ => asgThen (asgD (wipeE ρ own) t x) fun ρ => (evI it1 ρ).bind fun ys ρ => lcGo (fun y ρ => asgThen (asgD (wipeE ρ own1) t1 y) (elemR (fun ρ => evC c ρ) (fun ρ => evE e ρ))) ys ρ) xs ρ2)
def evEs : CEs → Env → R (List D)
  | .nil, ρ => .ok [] ρ
  | .cons e es, ρ => (evE e ρ).bind fun v ρ1 => match letgo ρ1 v with
    | some (d, ρ2) => (evEs es ρ2).bind fun ds ρ3 => .ok (d :: ds) ρ3
    | none => .bad
def evVs : CEs → Env → R (List Vl)
  | .nil, ρ => .ok [] ρ
  | .cons e es, ρ => (evE e ρ).bind fun v ρ1 => (evVs es ρ1).bind fun vs ρ2 => .ok ((match v with | .ow d => .sh d | v => v) :: vs) ρ2
def evPs : CEs → Env → R (List Sl)
  | .nil, ρ => .ok [] ρ
  | .cons e es, ρ => (evE e ρ).bind fun v ρ1 => match v with
    | .ow d => (evPs es ρ1).bind fun r ρ2 => .ok (.ow d :: r) ρ2
    | v => (match letgo ρ1 v with
      | some (d, ρ2) => (evPs es ρ2).bind fun r ρ3 => .ok (.sh d :: r) ρ3
      | none => .bad)
def evTs : CTs → Env → R (List D)
  | .nil, ρ => .ok [] ρ
  | .cons st e es, ρ => (evE e ρ).bind fun v ρ1 => match letgo ρ1 v with
    | some (d, ρ2) => (match (if st then items d else some [d]) with
      | some as => (evTs es ρ2).bind fun ds ρ3 => .ok (as ++ ds) ρ3
      | none => .bad)
    | none => .bad
def evKs : CKs → Env → R (List (D × D))
  | .nil, ρ => .ok [] ρ
  | .cons k v es, ρ => (evE k ρ).bind fun kv ρ1 => match kv with
    | .sh kd => (match kd.ky with
      | some _ => (evE v ρ1).bind fun vv ρ2 => (match letgo ρ2 vv with
        | some (vd, ρ3) => (evKs es ρ3).bind fun r ρ4 => .ok ((kd, vd) :: r) ρ4
        | none => .bad)
      | none => .bad)
    | _ => .bad
def evO : CEs → Env → R (Option Int)
  | .nil, ρ => .ok none ρ
  | .cons e _, ρ => (evE e ρ).bind fun v ρ1 => match v with
    | .sh (.int i) => .ok (some i) ρ1
    | _ => .bad
def evC : CEs → Env → R Bool
  | .nil, ρ => .ok true ρ
  | .cons e _, ρ => (evE e ρ).bind rTruth
def evI : CI → Env → R (List D)
  | .val e, ρ => (evE e ρ).bind fun v ρ1 => match letgo ρ1 v with
    | some (d, ρ2) => ofO (items d) ρ2
    | none => .bad
  | .rng es, ρ => (evVs es ρ).bind fun vs ρ1 => match vs with
    | [.sh (.int j)] => if small62 j then .ok (rng 0 j 1) ρ1 else .bad
    | [.sh (.int i), .sh (.int j)] => if small62 i && small62 j then .ok (rng i j 1) ρ1 else .bad
    | [.sh (.int i), .sh (.int j), .sh (.int c)] => if decide (0 < c) && decide (c < 1073741824) && decide (-1073741824 < i) && decide (i < 1073741824) && decide (-1073741824 < j) && decide (j < 1073741824) then .ok (rng i j c) ρ1 else .bad
    | _ => .bad
  | .enum es, ρ => (evEs es ρ).bind fun ds ρ1 => match ds with
    | [.lst xs] => .ok (xs.mapIdx fun i d => .tup [.int i, d]) ρ1
    | [.tup xs] => .ok (xs.mapIdx fun i d => .tup [.int i, d]) ρ1
    | _ => .bad
  | .zip es, ρ => (evEs es ρ).bind fun ds ρ1 => match ds with
    | [.lst xs, .lst ys] => .ok ((xs.zip ys).map fun p => .tup [p.1, p.2]) ρ1
    | [.tup xs, .tup ys] => .ok ((xs.zip ys).map fun p => .tup [p.1, p.2]) ρ1
    | _ => .bad
end
end
section
variable (fc : Nat → List Bool) (call : Nat → Env → FR)
mutual
def exS : CS → Env → R Fl
  | .exp e, ρ => (evE fc call e ρ).bind fun _ ρ1 => .ok .nx ρ1
  | .asg t e, ρ => (evE fc call e ρ).bind fun v ρ1 => asgThen (asgV ρ1 t v) (fun ρ2 => .ok .nx ρ2)
  | .par ts es, ρ => (evPs fc call es ρ).bind fun vs ρ1 => if vs.length = ts.length then .ok .nx (parE ρ1 ts vs) else .bad
  | .put i k v, ρ => (evE fc call v ρ).bind fun vv ρ1 => match letgo ρ1 vv with
    | some (d, ρ2) => (match slot ρ2 i with
      | .ow (.lst _) => (evE fc call k ρ2).bind fun kv ρ3 => (match kv with
        | .sh kd => asgThen (putL kd d ρ3 i) (fun ρ4 => .ok .nx ρ4)
        | _ => .bad)
      | .ow (.dic _) => (evE fc call k ρ2).bind fun kv ρ3 => (match kv with
        | .sh kd => asgThen (putD kd d ρ3 i) (fun ρ4 => .ok .nx ρ4)
        | _ => .bad)
      | _ => .bad)
    | none => .bad
  | .ret e, ρ => (evE fc call e ρ).bind fun v ρ1 => .ok (.ret v) ρ1
  | .ret0, ρ => .ok (.ret (.sh .non)) ρ
  | .ite c a b, ρ => (evE fc call c ρ).bind fun v ρ1 => (rTruth v ρ1).bind fun k ρ1 => if k then exL a ρ1 else exL b ρ1
  | .fr t it b, ρ => (evI fc call it ρ).bind fun xs ρ1 => frGo (fun x ρ => asgThen (asgD ρ t x) (fun ρ => exL b ρ)) xs ρ1
  | .wh c b, ρ => whGo (fun ρ => (evE fc call c ρ).bind rTruth) (exL b) wFuel ρ
  | .rse c, ρ => .ex c ρ
  | .pass, ρ => .ok .nx ρ
  | .brk, ρ => .ok .brk ρ
  | .cnt, ρ => .ok .cnt ρ
def exL : CSs → Env → R Fl
  | .nil, ρ => .ok .nx ρ
  | .cons s r, ρ => (exS s ρ).bind fun f ρ1 => match f with
    | .nx => exL r ρ1
    | f => .ok f ρ1
end
end
structure Fn where
  n : Nat
  ps : Nat
  st : List Bool
  body : CSs
def outsOf (args ρ : Env) : Env := args.mapIdx fun j a => match a with
  | .ow _ => slot ρ j
  | a => a
def isOw : Sl → Bool
  | .ow _ => true
  | _ => false
def keptAll (args ρ : Env) : Bool := (List.range args.length).all fun j => !isOw (slot args j) || isOw (slot ρ j)
def finF (f : Fn) (args : Env) (v : Vl) (ρ : Env) : FR := match v with
  | .sh d => .ret (.sh d) (outsOf args ρ)
  | .ow d => .ret (.ow d) (outsOf args ρ)
  | .sl i => match slot ρ i with
    | .ow d => if decide (f.ps ≤ i) && keptAll args ρ then .ret (.ow d) (outsOf args ρ) else .ret (.sh d) (outsOf args (ρ.set i (.sh d)))
    | .sh d => .ret (.sh d) (outsOf args ρ)
    | .un => .bad
def okArgs : List Bool → Env → Bool
  | [], [] => true
  | b :: bs, a :: as => (match a with
    | .un => false
    | .sh _ => true
    | .ow _ => !b) && okArgs bs as
  | _, _ => false
def fcOf (P : List Fn) (i : Nat) : List Bool := match P[i]? with
  | some f => f.st
  | none => []
def callF (P : List Fn) : Nat → Nat → Env → FR
  | 0, _, _ => .bad
  | k + 1, i, args => match P[i]? with
    | none => .bad
    | some f => if okArgs f.st args then match exL (fcOf P) (callF P k) f.body (args ++ List.replicate (f.n - f.ps) .un) with
        | .ok (.ret v) ρ => finF f args v ρ
        | .ok .nx ρ => .ret (.sh .non) (outsOf args ρ)
        | .ok _ _ => .bad
        | .ex c ρ => .ex c (outsOf args ρ)
        | .bad => .bad
      else .bad
end Lv
namespace Lv
open PySem
section
variable {fc : Nat → List Bool} {call : Nat → Env → FR} {ρ : Env}
def fin (f : Fn) (args : Env) (r : R Fl) : FR := match r with
  | .ok (.ret v) ρ => finF f args v ρ
  | .ok .nx ρ => .ret (.sh .non) (outsOf args ρ)
  | .ok _ _ => .bad
  | .ex c ρ => .ex c (outsOf args ρ)
  | .bad => .bad
theorem callF_eq {C : List Fn} {k i : Nat} {f : Fn} {args : Env} (h : C[i]? = some f) (ho : okArgs f.st args = true) : callF C (k + 1) i args = fin f args (exL (fcOf C) (callF C k) f.body (args ++ List.replicate (f.n - f.ps) .un)) := by
  unfold callF
  rw [h]
  simp only [ho, if_true]
  rfl
theorem fin_ret {f : Fn} {args : Env} {v : Vl} : fin f args (.ok (.ret v) ρ) = finF f args v ρ := rfl
theorem bind_ok {α β : Type} {a : α} {g : α → Env → R β} : (R.ok a ρ).bind g = g a ρ := rfl
theorem bind_bad {α β : Type} {g : α → Env → R β} : (R.bad : R α).bind g = .bad := rfl
end
end Lv
namespace Lv
open PySem
theorem thenS {α : Type} {ρ : Env} {f : Env → R α} : asgThen (some ρ) f = f ρ := rfl
theorem thenN {α : Type} {f : Env → R α} : asgThen none f = .bad := rfl
theorem frGo_mem {body : D → Env → R Fl} (S : Env → Prop) : ∀ {xs : List D} {ρ : Env}, S ρ → (∀ x ∈ xs, ∀ ρ, S ρ → ∃ ρ', body x ρ = .ok .nx ρ' ∧ S ρ') → ∃ ρ', frGo body xs ρ = .ok .nx ρ' ∧ S ρ'
  | [], ρ, h, _ => ⟨ρ, rfl, h⟩
  | x :: xs, ρ, h, st => by
    obtain ⟨ρ1, e1, h1⟩ := st x List.mem_cons_self ρ h
    obtain ⟨ρ2, e2, h2⟩ := frGo_mem S (xs := xs) h1 fun y hy => st y (List.mem_cons_of_mem _ hy)
    refine ⟨ρ2, ?_, h2⟩
    unfold frGo
    rw [e1]
    exact e2
theorem frGo_fold {α β : Type} {body : D → Env → R Fl} (e : α → Env) (v : β → D) (f : α → β → α) : ∀ {xs : List β} {s : α}, (∀ x ∈ xs, ∀ s, body (v x) (e s) = .ok .nx (e (f s x))) → frGo body (xs.map v) (e s) = .ok .nx (e (xs.foldl f s))
  | [], s, _ => rfl
  | x :: xs, s, st => by
    show (body (v x) (e s)).bind _ = _
    rw [st x List.mem_cons_self s]
    exact frGo_fold e v f fun y hy => st y (List.mem_cons_of_mem _ hy)
end Lv
namespace Lv
open PySem
theorem wh_stop {c : Env → R Bool} {body : Env → R Fl} {ρ ρ1 : Env} (h : c ρ = .ok false ρ1) : whGo c body wFuel ρ = .ok .nx ρ1 := by
  show whGo c body (999999999 + 1) ρ = _
  unfold whGo
  rw [h]
  rfl
theorem wh_go {c : Env → R Bool} {body : Env → R Fl} {ρ ρ1 ρ2 : Env} {n : Nat} (h : c ρ = .ok true ρ1) (h2 : body ρ1 = .ok .nx ρ2) : whGo c body (n + 1) ρ = whGo c body n ρ2 := by
  show (c ρ).bind _ = _
  rw [h]
  show (body ρ1).bind _ = _
  rw [h2]
  rfl
theorem wh_end {c : Env → R Bool} {body : Env → R Fl} {ρ ρ1 : Env} {n : Nat} (h : c ρ = .ok false ρ1) : whGo c body (n + 1) ρ = .ok .nx ρ1 := by
  show (c ρ).bind _ = _
  rw [h]
  rfl
theorem wh_inv {c : Env → R Bool} {body : Env → R Fl} (S : Nat → Env → Prop) (T : Env → Prop) (st : ∀ m ρ, S m ρ → (∃ ρ1, c ρ = .ok false ρ1 ∧ T ρ1) ∨ (∃ ρ1 ρ2 m', c ρ = .ok true ρ1 ∧ body ρ1 = .ok .nx ρ2 ∧ m' < m ∧ S m' ρ2)) : ∀ {n m : Nat} {ρ : Env}, m < n → S m ρ → ∃ ρ', whGo c body n ρ = .ok .nx ρ' ∧ T ρ'
  | 0, _, _, h, _ => absurd h (Nat.not_lt_zero _)
  | n + 1, m, ρ, hm, hs => by
    rcases st m ρ hs with ⟨ρ1, e, t⟩ | ⟨ρ1, ρ2, m', e1, e2, lt, s⟩
    · exact ⟨ρ1, wh_end e, t⟩
    · rw [wh_go e1 e2]
      exact wh_inv S T st (by omega) s
end Lv
namespace Lv
open PySem
section
variable (fc : Nat → List Bool) (call : Nat → Env → FR)
def cndR (c : CE) (ρ : Env) : R Bool := (evE fc call c ρ).bind rTruth
def frT (t : Tg) (b : CSs) (x : D) (ρ : Env) : R Fl := asgThen (asgD ρ t x) (fun ρ => exL fc call b ρ)
def lcT (own : List Nat) (t : Tg) (c : CEs) (e : CE) (x : D) (ρ : Env) : R (List D) := asgThen (asgD (wipeE ρ own) t x) (elemR (fun ρ => evC fc call c ρ) (fun ρ => evE fc call e ρ))
def lcT2 (own own1 : List Nat) (t : Tg) (t1 : Tg) (it1 : CI) (c : CEs) (e : CE) (x : D) (ρ : Env) : R (List D) := asgThen (asgD (wipeE ρ own) t x) fun ρ => (evI fc call it1 ρ).bind fun ys ρ => lcGo (lcT fc call own1 t1 c e) ys ρ
end
section
variable {fc : Nat → List Bool} {call : Nat → Env → FR} {ρ : Env}
theorem exS_wh {c : CE} {b : CSs} : exS fc call (.wh c b) ρ = whGo (cndR fc call c) (exL fc call b) wFuel ρ := by
  unfold exS
  rfl
theorem exS_fr {t : Tg} {it : CI} {b : CSs} : exS fc call (.fr t it b) ρ = (evI fc call it ρ).bind fun xs ρ1 => frGo (frT fc call t b) xs ρ1 := by
  unfold exS
  rfl
theorem evE_lc {own : List Nat} {t : Tg} {it : CI} {c : CEs} {e : CE} : evE fc call (.lc own t it c e) ρ = (evI fc call it ρ).bind fun xs ρ1 => asgThen (hide ρ1 own) fun ρ2 => lcFin own ρ1 (lcGo (lcT fc call own t c e) xs ρ2) := by
  unfold evE
  rfl
theorem evE_lc2 {own own1 : List Nat} {t t1 : Tg} {it it1 : CI} {c : CEs} {e : CE} : evE fc call (.lc2 own own1 t it t1 it1 c e) ρ = (evI fc call it ρ).bind fun xs ρ1 => asgThen (hide ρ1 own) fun ρ2 => lcFin own ρ1 (lcGo (lcT2 fc call own own1 t t1 it1 c e) xs ρ2) := by
  unfold evE
  rfl
end
end Lv
namespace Lv
open PySem
theorem lcGo_map {β : Type} {body : D → Env → R (List D)} (S : Env → Prop) (v : β → D) (g : β → List D) : ∀ {xs : List β} {ρ : Env}, S ρ → (∀ x ∈ xs, ∀ ρ, S ρ → ∃ ρ', body (v x) ρ = .ok (g x) ρ' ∧ S ρ') → ∃ ρ', lcGo body (xs.map v) ρ = .ok (xs.map g).flatten ρ' ∧ S ρ'
  | [], ρ, h, _ => ⟨ρ, rfl, h⟩
  | x :: xs, ρ, h, st => by
    obtain ⟨ρ1, e1, h1⟩ := st x List.mem_cons_self ρ h
    obtain ⟨ρ2, e2, h2⟩ := lcGo_map S v g (xs := xs) h1 fun y hy => st y (List.mem_cons_of_mem _ hy)
    refine ⟨ρ2, ?_, h2⟩
    rw [List.map_cons]
    unfold lcGo
    rw [e1]
    simp only
    rw [e2]
    rfl
theorem flat_one {β γ : Type} (g : β → γ) : ∀ xs : List β, (xs.map fun x => [g x]).flatten = xs.map g
  | [] => rfl
  | x :: xs => by rw [List.map_cons, List.flatten_cons, flat_one g xs]; rfl
theorem dbools_map {β : Type} (g : β → Bool) : ∀ xs : List β, dbools (xs.map fun x => D.bl (g x)) = some (xs.map g)
  | [] => rfl
  | x :: xs => by
    show (dbools (xs.map fun x => D.bl (g x))).map _ = _
    rw [dbools_map g xs]
    rfl
theorem dints_map : ∀ xs : List Int, dints (xs.map D.int) = some xs
  | [] => rfl
  | x :: xs => by
    show (dints (xs.map D.int)).map _ = _
    rw [dints_map xs]
    rfl
theorem fits_of {n : Nat} (h : n ≤ 16777216) : fits n = true := decide_eq_true h
end Lv
namespace Lv
open PySem
theorem deq_int {a b : Int} : deq (.int a) (.int b) = some (decide (a = b)) := by
  show (if (SeqAt.shaped (.int a) && SeqAt.shaped (.int b)) = true then some (PyData.eqv (.int a) (.int b)) else none) = _
  have e1 : SeqAt.shaped (.int a) = true := rfl
  have e2 : SeqAt.shaped (.int b) = true := rfl
  rw [e1, e2]
  rfl
end Lv
namespace Lv
open PySem
theorem evI_rng1 {fc : Nat → List Bool} {call : Nat → Env → FR} {ρ ρ1 : Env} {es : CEs} {j : Int} (h : evVs fc call es ρ = .ok [.sh (.int j)] ρ1) (hs : small62 j = true) : evI fc call (.rng es) ρ = .ok (rng 0 j 1) ρ1 := by
  unfold evI
  rw [h]
  show (if small62 j = true then R.ok (rng 0 j 1) ρ1 else R.bad) = _
  rw [if_pos hs]
theorem evI_rng2 {fc : Nat → List Bool} {call : Nat → Env → FR} {ρ ρ1 : Env} {es : CEs} {i j : Int} (h : evVs fc call es ρ = .ok [.sh (.int i), .sh (.int j)] ρ1) (hs : small62 i = true) (hs2 : small62 j = true) : evI fc call (.rng es) ρ = .ok (rng i j 1) ρ1 := by
  unfold evI
  rw [h]
  show (if (small62 i && small62 j) = true then R.ok (rng i j 1) ρ1 else R.bad) = _
  rw [if_pos (by rw [hs, hs2]; rfl)]
end Lv
namespace Lv
open PySem
section
variable {fc : Nat → List Bool} {call : Nat → Env → FR} {ρ ρ1 ρ2 : Env} {s : CS} {r : CSs} {v : Vl}
theorem exL_nx (h : exS fc call s ρ = .ok .nx ρ1) : exL fc call (.cons s r) ρ = exL fc call r ρ1 := by
  show (exS fc call s ρ).bind _ = _
  rw [h]
  rfl
theorem exL_rt (h : exS fc call s ρ = .ok (.ret v) ρ1) : exL fc call (.cons s r) ρ = .ok (.ret v) ρ1 := by
  show (exS fc call s ρ).bind _ = _
  rw [h]
  rfl
theorem exS_frk {t : Tg} {it : CI} {b : CSs} {xs : List D} {f : Fl} (h : evI fc call it ρ = .ok xs ρ1) (l : frGo (frT fc call t b) xs ρ1 = .ok f ρ2) : exS fc call (.fr t it b) ρ = .ok f ρ2 := by
  rw [exS_fr, h]
  exact l
theorem exS_rtk {e : CE} (h : evE fc call e ρ = .ok v ρ1) : exS fc call (.ret e) ρ = .ok (.ret v) ρ1 := by
  show (evE fc call e ρ).bind _ = _
  rw [h]
  rfl
end
end Lv
namespace Lv
open PySem
theorem evI_rng3 {fc : Nat → List Bool} {call : Nat → Env → FR} {ρ ρ1 : Env} {es : CEs} {i j c : Int} (h : evVs fc call es ρ = .ok [.sh (.int i), .sh (.int j), .sh (.int c)] ρ1) (hs : (decide (0 < c) && decide (c < 1073741824) && decide (-1073741824 < i) && decide (i < 1073741824) && decide (-1073741824 < j) && decide (j < 1073741824)) = true) : evI fc call (.rng es) ρ = .ok (rng i j c) ρ1 := by
  unfold evI
  rw [h]
  show (if _ = true then R.ok (rng i j c) ρ1 else R.bad) = _
  rw [if_pos hs]
end Lv
namespace Lv
open PySem
theorem flat_flat {β γ δ : Type} (g : β → List γ) (h : γ → δ) : ∀ xs : List β, (xs.map fun x => (g x).map h).flatten = (xs.flatMap g).map h
  | [] => rfl
  | x :: xs => by
    rw [List.map_cons, List.flatten_cons, flat_flat g h xs, List.flatMap_cons, List.map_append]
end Lv
namespace Lv
open PySem
def F_is_whole : Fn := ⟨1, 1, [false], (.cons (.ret (.and (.isi (.var 0) [.int]) (.not (.isi (.var 0) [.bool])))) .nil)⟩
def F_is_within_bounds (i_is_whole : Nat) : Fn := ⟨3, 3, [false, false, false], (.cons (.ret (.and (.call i_is_whole (.cons (.var 0) .nil)) (.chn .le .le (.var 1) (.var 0) (.var 2)))) .nil)⟩
def F_need_number (i_is_within_bounds : Nat) : Fn := ⟨2, 2, [false, false], (.cons (.ite (.call i_is_within_bounds (.cons (.var 0) (.cons (.cst (.int 1)) (.cons (.glo (.int 120)) .nil)))) (.cons .ret0 .nil) .nil) (.cons (.ite (.cmp .eq (.var 1) (.cst (.str "m"))) (.cons (.exp .bad) .nil) .nil) (.cons (.ite (.cmp .eq (.var 1) (.cst (.str "n"))) (.cons (.exp .bad) .nil) .nil) (.cons (.exp .bad) .nil))))⟩
def F_need_reach (i_is_within_bounds : Nat) : Fn := ⟨1, 1, [false], (.cons (.ite (.not (.call i_is_within_bounds (.cons (.var 0) (.cons (.cst (.int 1)) (.cons (.glo (.int 120)) .nil))))) (.cons (.exp .bad) .nil) .nil) .nil)⟩
def F_is_next : Fn := ⟨3, 2, [false, false], (.cons (.asg (.nm 2) (.bop .add (.bi .len (.cons (.var 0) .nil)) (.cst (.int 1)))) (.cons (.ret (.or (.cmp .eq (.var 1) (.var 2)) (.and (.cmp .eq (.bop .mod (.var 2) (.var 1)) (.cst (.int 0))) (.cmp .eq (.idx (.var 0) (.bop .sub (.bop .sub (.var 2) (.var 1)) (.cst (.int 1)))) (.var 1))))) .nil))⟩
def E_is_row_of1 (i_is_within_bounds : Nat) : CE := (.call i_is_within_bounds (.cons (.var 3) (.cons (.cst (.int 1)) (.cons (.bop .add (.var 2) (.cst (.int 1))) .nil))))
def C_is_row_of1 (i_is_within_bounds : Nat) : CE := (.lc [2, 3] (.tup [(.nm 2), (.nm 3)]) (.enum (.cons (.var 0) .nil)) .nil (E_is_row_of1 i_is_within_bounds))
def E_is_row_of2 (i_is_next : Nat) : CE := (.call i_is_next (.cons (.sli (.var 0) .nil (.cons (.var 2) .nil)) (.cons (.var 3) .nil)))
def C_is_row_of2 (i_is_next : Nat) : CE := (.lc [2, 3] (.tup [(.nm 2), (.nm 3)]) (.enum (.cons (.var 0) .nil)) .nil (E_is_row_of2 i_is_next))
def F_is_row_of (i_is_within_bounds i_is_next : Nat) : Fn := ⟨4, 2, [false, false], (.cons (.ite (.or (.not (.isi (.var 0) [.tuple])) (.cmp .ne (.bi .len (.cons (.var 0) .nil)) (.var 1))) (.cons (.ret (.cst (.bl false))) .nil) .nil) (.cons (.ite (.not (.bi .all (.cons (C_is_row_of1 i_is_within_bounds) .nil))) (.cons (.ret (.cst (.bl false))) .nil) .nil) (.cons (.ret (.bi .all (.cons (C_is_row_of2 i_is_next) .nil))) .nil)))⟩
def E_is_law_of1 (i_is_row_of : Nat) : CE := (.call i_is_row_of (.cons (.var 1) (.cons (.var 2) .nil)))
def C_is_law_of1 (i_is_row_of : Nat) : CE := (.lc [1, 2] (.tup [(.nm 1), (.nm 2)]) (.zip (.cons (.var 0) (.cons (.glo (.tup [(.int 6), (.int 4), (.int 2), (.int 2)])) .nil))) .nil (E_is_law_of1 i_is_row_of))
def F_is_law_of (i_is_row_of : Nat) : Fn := ⟨3, 1, [false], (.cons (.ite (.or (.not (.isi (.var 0) [.tuple])) (.cmp .ne (.bi .len (.cons (.var 0) .nil)) (.bi .len (.cons (.glo (.tup [(.int 6), (.int 4), (.int 2), (.int 2)])) .nil)))) (.cons (.ret (.cst (.bl false))) .nil) .nil) (.cons (.ret (.bi .all (.cons (C_is_law_of1 i_is_row_of) .nil))) .nil))⟩
def F_need_law (i_is_law_of : Nat) : Fn := ⟨1, 1, [false], (.cons (.ite (.not (.call i_is_law_of (.cons (.var 0) .nil))) (.cons (.exp .bad) .nil) .nil) .nil)⟩
def W_factors_of1 : CE := (.cmp .eq (.bop .mod (.var 2) (.var 3)) (.cst (.int 0)))
def B_factors_of1 : CSs := (.cons (.par [2, 4] (.cons (.bop .fdiv (.var 2) (.var 3)) (.cons (.bop .add (.var 4) (.cst (.int 1))) .nil))) .nil)
def S_factors_of1 : CS := (.wh W_factors_of1 B_factors_of1)
def W_factors_of2 : CE := (.cmp .gt (.var 2) (.cst (.int 1)))
def B_factors_of2 : CSs := (.cons (.asg (.nm 4) (.cst (.int 0))) (.cons S_factors_of1 (.cons (.ite (.cmp .gt (.var 4) (.cst (.int 0))) (.cons (.exp (.app 1 (.tup (.cons (.var 3) (.cons (.var 4) .nil))))) .nil) .nil) (.cons (.asg (.nm 3) (.bop .add (.var 3) (.cst (.int 1)))) .nil))))
def S_factors_of2 : CS := (.wh W_factors_of2 B_factors_of2)
def F_factors_of : Fn := ⟨5, 1, [false], (.cons (.par [1, 2, 3] (.cons (.lst .nil) (.cons (.var 0) (.cons (.cst (.int 2)) .nil)))) (.cons S_factors_of2 (.cons (.ret (.var 1)) .nil)))⟩
def F_type_by : Fn := ⟨3, 3, [false, false, false], (.cons (.ret (.ite (.cmp .isin (.var 1) (.glo (.tup [(.int 2), (.int 3), (.int 5), (.int 7)]))) (.idx (.idx (.var 0) (.tix [2, 3, 5, 7] (.var 1))) (.bop .sub (.var 2) (.cst (.int 1)))) (.cst (.int 1)))) .nil)⟩
def F_type_of (i_need_law i_is_within_bounds i_factors_of i_type_by : Nat) : Fn := ⟨3, 3, [false, false, false], (.cons (.exp (.call i_need_law (.cons (.var 0) .nil))) (.cons (.ite (.or (.not (.call i_is_within_bounds (.cons (.var 1) (.cons (.cst (.int 2)) (.cons (.glo (.int 120)) .nil))))) (.cmp .ne (.call i_factors_of (.cons (.var 1) .nil)) (.lst (.cons (.tup (.cons (.var 1) (.cons (.cst (.int 1)) .nil))) .nil)))) (.cons (.exp .bad) .nil) .nil) (.cons (.ite (.or (.not (.call i_is_within_bounds (.cons (.var 2) (.cons (.cst (.int 1)) (.cons (.idx (.glo (.tup [(.int 6), (.int 4), (.int 2), (.int 2)])) (.cst (.int 0))) .nil))))) (.and (.cmp .isin (.var 1) (.glo (.tup [(.int 2), (.int 3), (.int 5), (.int 7)]))) (.cmp .gt (.var 2) (.idx (.glo (.tup [(.int 6), (.int 4), (.int 2), (.int 2)])) (.tix [2, 3, 5, 7] (.var 1)))))) (.cons (.exp .bad) .nil) .nil) (.cons (.ite (.and (.cmp .notin (.var 1) (.glo (.tup [(.int 2), (.int 3), (.int 5), (.int 7)]))) (.cmp .gt (.var 2) (.cst (.int 1)))) (.cons (.exp .bad) .nil) .nil) (.cons (.ret (.call i_type_by (.cons (.var 0) (.cons (.var 1) (.cons (.var 2) .nil))))) .nil)))))⟩
def B_powered1 : CSs := (.cons (.asg (.nm 2) (.bop .mul (.var 2) (.var 0))) .nil)
def S_powered1 : CS := (.fr (.nm 3) (.rng (.cons (.var 1) .nil)) B_powered1)
def F_powered : Fn := ⟨4, 2, [false, false], (.cons (.asg (.nm 2) (.cst (.int 1))) (.cons S_powered1 (.cons (.ret (.var 2)) .nil)))⟩
def E_lot_by1 (i_powered : Nat) : CE := (.call i_powered (.cons (.var 3) (.cons (.var 7) .nil)))
def C_lot_by1 (i_powered : Nat) : CE := (.lc [7] (.nm 7) (.rng (.cons (.cst (.int 0)) (.cons (.bop .add (.var 4) (.cst (.int 1))) (.cons (.var 5) .nil)))) .nil (E_lot_by1 i_powered))
def E_lot_by2 : CE := (.bop .mul (.var 8) (.var 9))
def I_lot_by1 : CI := (.val (.var 6))
def C_lot_by2 : CE := (.lc2 [8, 9] [9] (.nm 8) (.val (.var 2)) (.nm 9) I_lot_by1 .nil E_lot_by2)
def B_lot_by1 (i_type_by i_powered : Nat) : CSs := (.cons (.asg (.nm 5) (.call i_type_by (.cons (.var 0) (.cons (.var 3) (.cons (.var 4) .nil))))) (.cons (.asg (.nm 6) (C_lot_by1 i_powered)) (.cons (.asg (.nm 2) C_lot_by2) .nil)))
def S_lot_by1 (i_factors_of i_type_by i_powered : Nat) : CS := (.fr (.tup [(.nm 3), (.nm 4)]) (.val (.call i_factors_of (.cons (.var 1) .nil))) (B_lot_by1 i_type_by i_powered))
def F_lot_by (i_factors_of i_type_by i_powered : Nat) : Fn := ⟨10, 2, [false, false], (.cons (.asg (.nm 2) (.lst (.cons (.cst (.int 1)) .nil))) (.cons (S_lot_by1 i_factors_of i_type_by i_powered) (.cons (.ret (.bi .tuple (.cons (.bi .sorted (.cons (.var 2) .nil)) .nil))) .nil)))⟩
def Q_meet_by1 : CEs := (.cons (.cmp .isin (.var 4) (.var 3)) .nil)
def E_meet_by1 : CE := (.var 4)
def C_meet_by1 (i_lot_by : Nat) : CE := (.lc [4] (.nm 4) (.val (.call i_lot_by (.cons (.var 0) (.cons (.var 1) .nil)))) Q_meet_by1 E_meet_by1)
def F_meet_by (i_lot_by : Nat) : Fn := ⟨5, 3, [false, false, false], (.cons (.asg (.nm 3) (.call i_lot_by (.cons (.var 0) (.cons (.var 2) .nil)))) (.cons (.ret (.bi .max (.cons (C_meet_by1 i_lot_by) .nil))) .nil))⟩
def E_all_lots1 (i_lot_by : Nat) : CE := (.call i_lot_by (.cons (.var 0) (.cons (.var 2) .nil)))
def C_all_lots1 (i_lot_by : Nat) : CE := (.lc [2] (.nm 2) (.rng (.cons (.cst (.int 1)) (.cons (.bop .add (.var 1) (.cst (.int 1))) .nil))) .nil (E_all_lots1 i_lot_by))
def F_all_lots (i_lot_by : Nat) : Fn := ⟨3, 2, [false, false], (.cons (.ret (C_all_lots1 i_lot_by)) .nil)⟩
def F_lot (i_need_law i_need_number i_lot_by : Nat) : Fn := ⟨2, 2, [false, false], (.cons (.exp (.call i_need_law (.cons (.var 0) .nil))) (.cons (.exp (.call i_need_number (.cons (.var 1) (.cons (.cst (.str "number")) .nil)))) (.cons (.ret (.call i_lot_by (.cons (.var 0) (.cons (.var 1) .nil)))) .nil)))⟩
def F_is_in (i_need_law i_need_number i_lot_by : Nat) : Fn := ⟨3, 3, [false, false, false], (.cons (.exp (.call i_need_law (.cons (.var 0) .nil))) (.cons (.exp (.call i_need_number (.cons (.var 1) (.cons (.cst (.str "m")) .nil)))) (.cons (.exp (.call i_need_number (.cons (.var 2) (.cons (.cst (.str "n")) .nil)))) (.cons (.ret (.cmp .isin (.var 1) (.call i_lot_by (.cons (.var 0) (.cons (.var 2) .nil))))) .nil))))⟩
def F_meet (i_need_law i_need_number i_meet_by : Nat) : Fn := ⟨3, 3, [false, false, false], (.cons (.exp (.call i_need_law (.cons (.var 0) .nil))) (.cons (.exp (.call i_need_number (.cons (.var 1) (.cons (.cst (.str "m")) .nil)))) (.cons (.exp (.call i_need_number (.cons (.var 2) (.cons (.cst (.str "n")) .nil)))) (.cons (.ret (.call i_meet_by (.cons (.var 0) (.cons (.var 1) (.cons (.var 2) .nil))))) .nil))))⟩
def F_share : Fn := ⟨3, 2, [false, false], (.cons (.asg (.nm 2) (.ite (.cmp .gt (.var 1) (.cst (.int 0))) (.bi .gcd (.cons (.var 0) (.cons (.var 1) .nil))) (.neg (.bi .gcd (.cons (.var 0) (.cons (.var 1) .nil)))))) (.cons (.ret (.tup (.cons (.bop .fdiv (.var 0) (.var 2)) (.cons (.bop .fdiv (.var 1) (.var 2)) .nil)))) .nil))⟩
def F_plus (i_share : Nat) : Fn := ⟨2, 2, [false, false], (.cons (.ret (.call i_share (.cons (.bop .add (.bop .mul (.idx (.var 0) (.cst (.int 0))) (.idx (.var 1) (.cst (.int 1)))) (.bop .mul (.idx (.var 1) (.cst (.int 0))) (.idx (.var 0) (.cst (.int 1))))) (.cons (.bop .mul (.idx (.var 0) (.cst (.int 1))) (.idx (.var 1) (.cst (.int 1)))) .nil)))) .nil)⟩
def F_less (i_share : Nat) : Fn := ⟨2, 2, [false, false], (.cons (.ret (.call i_share (.cons (.bop .sub (.bop .mul (.idx (.var 0) (.cst (.int 0))) (.idx (.var 1) (.cst (.int 1)))) (.bop .mul (.idx (.var 1) (.cst (.int 0))) (.idx (.var 0) (.cst (.int 1))))) (.cons (.bop .mul (.idx (.var 0) (.cst (.int 1))) (.idx (.var 1) (.cst (.int 1)))) .nil)))) .nil)⟩
def F_by_both (i_share : Nat) : Fn := ⟨2, 2, [false, false], (.cons (.ret (.call i_share (.cons (.bop .mul (.idx (.var 0) (.cst (.int 0))) (.idx (.var 1) (.cst (.int 0)))) (.cons (.bop .mul (.idx (.var 0) (.cst (.int 1))) (.idx (.var 1) (.cst (.int 1)))) .nil)))) .nil)⟩
def F_by_part (i_share : Nat) : Fn := ⟨2, 2, [false, false], (.cons (.ret (.call i_share (.cons (.bop .mul (.idx (.var 0) (.cst (.int 0))) (.idx (.var 1) (.cst (.int 1)))) (.cons (.bop .mul (.idx (.var 0) (.cst (.int 1))) (.idx (.var 1) (.cst (.int 0)))) .nil)))) .nil)⟩
def E_is_fraction1 (i_is_whole : Nat) : CE := (.call i_is_whole (.cons (.var 1) .nil))
def C_is_fraction1 (i_is_whole : Nat) : CE := (.lc [1] (.nm 1) (.val (.var 0)) .nil (E_is_fraction1 i_is_whole))
def F_is_fraction (i_is_whole : Nat) : Fn := ⟨2, 1, [false], (.cons (.ite (.or (.not (.isi (.var 0) [.tuple])) (.or (.cmp .ne (.bi .len (.cons (.var 0) .nil)) (.cst (.int 2))) (.not (.bi .all (.cons (C_is_fraction1 i_is_whole) .nil))))) (.cons (.ret (.cst (.bl false))) .nil) .nil) (.cons (.ret (.and (.cmp .lt (.bi .abs (.cons (.idx (.var 0) (.cst (.int 0))) .nil)) (.glo (.int 100000000000000000000000000000000000000000000000000000000000000000000000000000000000000000000000000000000000000000000000000000000000000000000000000000000000000000000000000000000000000000000000000000000))) (.and (.chn .lt .lt (.cst (.int 0)) (.idx (.var 0) (.cst (.int 1))) (.glo (.int 100000000000000000000000000000000000000000000000000000000000000000000000000000000000000000000000000000000000000000000000000000000000000000000000000000000000000000000000000000000000000000000000000000000))) (.cmp .eq (.bi .gcd (.cons (.idx (.var 0) (.cst (.int 0))) (.cons (.idx (.var 0) (.cst (.int 1))) .nil))) (.cst (.int 1)))))) .nil))⟩
def E_is_table_of1 (i_is_fraction : Nat) : CE := (.call i_is_fraction (.cons (.var 1) .nil))
def C_is_table_of1 (i_is_fraction : Nat) : CE := (.lc [1] (.nm 1) (.val (.var 0)) .nil (E_is_table_of1 i_is_fraction))
def F_is_table_of (i_is_fraction : Nat) : Fn := ⟨2, 1, [false], (.cons (.ret (.and (.isi (.var 0) [.tuple]) (.and (.chn .le .le (.cst (.int 1)) (.bi .len (.cons (.var 0) .nil)) (.glo (.int 120))) (.bi .all (.cons (C_is_table_of1 i_is_fraction) .nil))))) .nil)⟩
def F_need_table (i_is_table_of : Nat) : Fn := ⟨2, 2, [false, false], (.cons (.ite (.call i_is_table_of (.cons (.var 0) .nil)) (.cons .ret0 .nil) .nil) (.cons (.ite (.cmp .eq (.var 1) (.cst (.str "one"))) (.cons (.exp .bad) .nil) .nil) (.cons (.ite (.cmp .eq (.var 1) (.cst (.str "other"))) (.cons (.exp .bad) .nil) .nil) (.cons (.exp .bad) .nil))))⟩
def F_ones_by : Fn := ⟨1, 1, [false], (.cons (.ret (.bop .mul (.lst (.cons (.glo (.tup [(.int 1), (.int 1)])) .nil)) (.var 0))) .nil)⟩
def B_product_by1 (i_plus i_by_both : Nat) : CSs := (.cons (.asg (.nm 6) (.call i_plus (.cons (.var 6) (.cons (.call i_by_both (.cons (.idx (.var 1) (.bop .sub (.var 7) (.cst (.int 1)))) (.cons (.idx (.var 2) (.bop .sub (.bop .fdiv (.bop .add (.var 4) (.cst (.int 1))) (.var 7)) (.cst (.int 1)))) .nil))) .nil)))) .nil)
def S_product_by1 (i_plus i_by_both : Nat) : CS := (.fr (.nm 7) (.val (.var 5)) (B_product_by1 i_plus i_by_both))
def B_product_by2 (i_plus i_by_both : Nat) : CSs := (.cons (.asg (.nm 6) (.glo (.tup [(.int 0), (.int 1)]))) (.cons (S_product_by1 i_plus i_by_both) (.cons (.exp (.app 3 (.var 6))) .nil)))
def S_product_by2 (i_plus i_by_both : Nat) : CS := (.fr (.tup [(.nm 4), (.nm 5)]) (.enum (.cons (.var 0) .nil)) (B_product_by2 i_plus i_by_both))
def F_product_by (i_plus i_by_both : Nat) : Fn := ⟨8, 3, [false, false, false], (.cons (.asg (.nm 3) (.lst .nil)) (.cons (S_product_by2 i_plus i_by_both) (.cons (.ret (.var 3)) .nil)))⟩
def B_inverse_by1 (i_less i_by_both : Nat) : CSs := (.cons (.ite (.cmp .le (.var 5) (.var 3)) (.cons (.asg (.nm 4) (.call i_less (.cons (.var 4) (.cons (.call i_by_both (.cons (.idx (.var 2) (.bop .sub (.var 5) (.cst (.int 1)))) (.cons (.idx (.var 1) (.bop .sub (.bop .fdiv (.bop .add (.var 3) (.cst (.int 1))) (.var 5)) (.cst (.int 1)))) .nil))) .nil)))) .nil) .nil) .nil)
def S_inverse_by1 (i_less i_by_both : Nat) : CS := (.fr (.nm 5) (.val (.idx (.var 0) (.var 3))) (B_inverse_by1 i_less i_by_both))
def B_inverse_by2 (i_less i_by_both i_by_part : Nat) : CSs := (.cons (.asg (.nm 4) (.glo (.tup [(.int 0), (.int 1)]))) (.cons (S_inverse_by1 i_less i_by_both) (.cons (.exp (.app 2 (.call i_by_part (.cons (.var 4) (.cons (.idx (.var 1) (.cst (.int 0))) .nil))))) .nil)))
def S_inverse_by2 (i_less i_by_both i_by_part : Nat) : CS := (.fr (.nm 3) (.rng (.cons (.cst (.int 1)) (.cons (.bi .len (.cons (.var 0) .nil)) .nil))) (B_inverse_by2 i_less i_by_both i_by_part))
def F_inverse_by (i_by_part i_less i_by_both : Nat) : Fn := ⟨6, 2, [false, false], (.cons (.ite (.cmp .eq (.idx (.var 1) (.cst (.int 0))) (.glo (.tup [(.int 0), (.int 1)]))) (.cons (.ret (.cst .non)) .nil) .nil) (.cons (.asg (.nm 2) (.lst (.cons (.call i_by_part (.cons (.glo (.tup [(.int 1), (.int 1)])) (.cons (.idx (.var 1) (.cst (.int 0))) .nil))) .nil))) (.cons (S_inverse_by2 i_less i_by_both i_by_part) (.cons (.ret (.var 2)) .nil))))⟩
def F_marks_by (i_inverse_by i_all_lots i_ones_by : Nat) : Fn := ⟨2, 2, [false, false], (.cons (.ret (.call i_inverse_by (.cons (.call i_all_lots (.cons (.var 0) (.cons (.var 1) .nil))) (.cons (.call i_ones_by (.cons (.var 1) .nil)) .nil)))) .nil)⟩
def F_marks (i_need_law i_need_reach i_marks_by : Nat) : Fn := ⟨2, 2, [false, false], (.cons (.exp (.call i_need_law (.cons (.var 0) .nil))) (.cons (.exp (.call i_need_reach (.cons (.var 1) .nil))) (.cons (.ret (.bi .tuple (.cons (.call i_marks_by (.cons (.var 0) (.cons (.var 1) .nil))) .nil))) .nil)))⟩
def E_weight_by1 (i_type_by : Nat) : CE := (.bop .fdiv (.var 3) (.call i_type_by (.cons (.var 0) (.cons (.var 2) (.cons (.var 3) .nil)))))
def C_weight_by1 (i_factors_of i_type_by : Nat) : CE := (.lc [2, 3] (.tup [(.nm 2), (.nm 3)]) (.val (.call i_factors_of (.cons (.var 1) .nil))) .nil (E_weight_by1 i_type_by))
def F_weight_by (i_factors_of i_type_by : Nat) : Fn := ⟨4, 2, [false, false], (.cons (.ret (.bi .sum (.cons (C_weight_by1 i_factors_of i_type_by) .nil))) .nil)⟩
def F_weight (i_need_law i_need_number i_weight_by : Nat) : Fn := ⟨2, 2, [false, false], (.cons (.exp (.call i_need_law (.cons (.var 0) .nil))) (.cons (.exp (.call i_need_number (.cons (.var 1) (.cons (.cst (.str "number")) .nil)))) (.cons (.ret (.call i_weight_by (.cons (.var 0) (.cons (.var 1) .nil)))) .nil)))⟩
def F_sums_over (i_need_law i_need_table i_product_by i_all_lots i_ones_by : Nat) : Fn := ⟨2, 2, [false, false], (.cons (.exp (.call i_need_law (.cons (.var 0) .nil))) (.cons (.exp (.call i_need_table (.cons (.var 1) (.cons (.cst (.str "table")) .nil)))) (.cons (.ret (.bi .tuple (.cons (.call i_product_by (.cons (.call i_all_lots (.cons (.var 0) (.cons (.bi .len (.cons (.var 1) .nil)) .nil))) (.cons (.var 1) (.cons (.call i_ones_by (.cons (.bi .len (.cons (.var 1) .nil)) .nil)) .nil)))) .nil))) .nil)))⟩
def B__law_begun1 : CSs := (.cons (.ite (.isi (.var 3) [.int]) (.cons (.ite (.cmp .ge (.var 3) (.bop .pow (.cst (.int 10)) (.cst (.int 18)))) (.cons (.asg (.nm 1) (.bop .add (.bop .mul (.var 1) (.bop .add (.bop .sub (.var 3) (.bop .pow (.cst (.int 10)) (.cst (.int 18)))) (.cst (.int 1)))) (.bop .sub (.var 3) (.bop .pow (.cst (.int 10)) (.cst (.int 18)))))) .nil) .nil) (.cons (.exp (.app 2 (.var 3))) .nil)) .nil) .nil)
def S__law_begun1 : CS := (.fr (.nm 3) (.val (.var 0)) B__law_begun1)
def F__law_begun : Fn := ⟨4, 1, [false], (.cons (.par [1, 2] (.cons (.cst (.int 0)) (.cons (.lst .nil) .nil))) (.cons S__law_begun1 (.cons (.ret (.dict (.cons (.cst (.str "whole")) (.var 1) (.cons (.cst (.str "cells")) (.var 2) (.cons (.cst (.str "count")) (.cst (.int 0)) .nil))))) .nil)))⟩
def B__law_mixed1 : CSs := (.cons (.asg (.nm 1) (.bop .mod (.bi .int (.cons (.bop .mul (.bop .add (.var 1) (.var 2)) (.cst (.int 1099511628211))) .nil)) (.bop .sub (.bop .pow (.cst (.int 2)) (.cst (.int 61))) (.cst (.int 1))))) (.cons (.asg (.nm 1) (.bop .add (.var 1) (.bop .fdiv (.var 1) (.bop .pow (.cst (.int 2)) (.cst (.int 17)))))) .nil))
def S__law_mixed1 : CS := (.fr (.nm 2) (.val (.bop .add (.idx (.var 0) (.cst (.str "cells"))) (.lst (.cons (.idx (.var 0) (.cst (.str "count"))) .nil)))) B__law_mixed1)
def F__law_mixed : Fn := ⟨3, 1, [false], (.cons (.put 0 (.cst (.str "count")) (.bop .add (.idx (.var 0) (.cst (.str "count"))) (.cst (.int 1)))) (.cons (.asg (.nm 1) (.bop .add (.cst (.int 1469598103934665603)) (.bop .mul (.cst (.int 97)) (.idx (.var 0) (.cst (.str "count")))))) (.cons S__law_mixed1 (.cons (.ret (.var 1)) .nil))))⟩
def W__law_take1 : CE := (.and (.cmp .gt (.var 1) (.bop .pow (.cst (.int 2)) (.cst (.int 50)))) (.cmp .lt (.var 2) (.bop .mul (.var 1) (.var 1))))
def B__law_take1 (i__law_mixed : Nat) : CSs := (.cons (.asg (.nm 2) (.bop .add (.bop .mul (.var 2) (.bop .pow (.cst (.int 2)) (.cst (.int 61)))) (.call i__law_mixed (.cons (.var 0) .nil)))) .nil)
def S__law_take1 (i__law_mixed : Nat) : CS := (.wh W__law_take1 (B__law_take1 i__law_mixed))
def F__law_take (i__law_mixed : Nat) : Fn := ⟨3, 2, [false, false], (.cons (.ite (.cmp .lt (.var 1) (.cst (.int 2))) (.cons (.ret (.cst (.int 0))) .nil) .nil) (.cons (.ite (.cmp .gt (.idx (.var 0) (.cst (.str "whole"))) (.cst (.int 0))) (.cons (.asg (.nm 2) (.bop .mod (.bi .int (.cons (.idx (.var 0) (.cst (.str "whole"))) .nil)) (.var 1))) (.cons (.put 0 (.cst (.str "whole")) (.bop .fdiv (.idx (.var 0) (.cst (.str "whole"))) (.var 1))) (.cons (.ret (.var 2)) .nil))) .nil) (.cons (.asg (.nm 2) (.call i__law_mixed (.cons (.var 0) .nil))) (.cons (S__law_take1 i__law_mixed) (.cons (.ret (.bop .mod (.bi .int (.cons (.bop .fdiv (.var 2) (.cst (.int 1024))) .nil)) (.var 1))) .nil)))))⟩
def F__law_pick (i__law_take : Nat) : Fn := ⟨2, 2, [false, false], (.cons (.ret (.idx (.var 1) (.call i__law_take (.cons (.var 0) (.cons (.bi .len (.cons (.var 1) .nil)) .nil))))) .nil)⟩
def B__law_factors1 : CSs := (.cons (.ite (.cmp .eq (.bop .mod (.bi .int (.cons (.var 2) .nil)) (.var 3)) (.cst (.int 0))) (.cons (.par [2, 4] (.cons (.bop .fdiv (.var 2) (.var 3)) (.cons (.bop .add (.var 4) (.cst (.int 1))) .nil))) .nil) .nil) .nil)
def S__law_factors1 : CS := (.fr (.nm 5) (.rng (.cons (.cst (.int 8)) .nil)) B__law_factors1)
def B__law_factors2 : CSs := (.cons (.asg (.nm 4) (.cst (.int 0))) (.cons S__law_factors1 (.cons (.ite (.cmp .gt (.var 4) (.cst (.int 0))) (.cons (.exp (.app 1 (.tup (.cons (.var 3) (.cons (.var 4) .nil))))) .nil) .nil) .nil)))
def S__law_factors2 : CS := (.fr (.nm 3) (.rng (.cons (.cst (.int 2)) (.cons (.bop .add (.var 0) (.cst (.int 1))) .nil))) B__law_factors2)
def F__law_factors : Fn := ⟨6, 1, [false], (.cons (.par [1, 2] (.cons (.lst .nil) (.cons (.var 0) .nil))) (.cons S__law_factors2 (.cons (.ret (.var 1)) .nil)))⟩
def B__law_times_itself1 : CSs := (.cons (.asg (.nm 2) (.bop .mul (.var 2) (.var 0))) .nil)
def S__law_times_itself1 : CS := (.fr (.nm 3) (.rng (.cons (.var 1) .nil)) B__law_times_itself1)
def F__law_times_itself : Fn := ⟨4, 2, [false, false], (.cons (.asg (.nm 2) (.cst (.int 1))) (.cons S__law_times_itself1 (.cons (.ret (.var 2)) .nil)))⟩
def Q__law_type_rows1 : CEs := (.cons (.or (.cmp .eq (.var 5) (.var 2)) (.and (.cmp .eq (.bop .mod (.var 2) (.var 5)) (.cst (.int 0))) (.cmp .eq (.idx (.var 4) (.bop .sub (.bop .sub (.var 2) (.var 5)) (.cst (.int 1)))) (.var 5)))) .nil)
def E__law_type_rows1 : CE := (.bop .add (.var 4) (.tup (.cons (.var 5) .nil)))
def C__law_type_rows1 : CE := (.lc [5] (.nm 5) (.rng (.cons (.cst (.int 1)) (.cons (.bop .add (.var 2) (.cst (.int 1))) .nil))) Q__law_type_rows1 E__law_type_rows1)
def B__law_type_rows1 : CSs := (.cons (.asg (.nm 3) (.bop .add (.var 3) C__law_type_rows1)) .nil)
def S__law_type_rows1 : CS := (.fr (.nm 4) (.val (.var 1)) B__law_type_rows1)
def B__law_type_rows2 : CSs := (.cons (.asg (.nm 3) (.lst .nil)) (.cons S__law_type_rows1 (.cons (.asg (.nm 1) (.var 3)) .nil)))
def S__law_type_rows2 : CS := (.fr (.nm 2) (.rng (.cons (.cst (.int 1)) (.cons (.bop .add (.var 0) (.cst (.int 1))) .nil))) B__law_type_rows2)
def F__law_type_rows : Fn := ⟨6, 1, [false], (.cons (.asg (.nm 1) (.lst (.cons (.tup .nil) .nil))) (.cons S__law_type_rows2 (.cons (.ret (.var 1)) .nil)))⟩
def E__law_law1 (i__law_pick i__law_type_rows : Nat) : CE := (.call i__law_pick (.cons (.var 0) (.cons (.call i__law_type_rows (.cons (.var 2) .nil)) .nil)))
def C__law_law1 (i__law_pick i__law_type_rows : Nat) : CE := (.lc [2] (.nm 2) (.val (.lst (.cons (.cst (.int 6)) (.cons (.cst (.int 4)) (.cons (.cst (.int 2)) (.cons (.cst (.int 2)) .nil)))))) .nil (E__law_law1 i__law_pick i__law_type_rows))
def F__law_law (i__law_take i__law_pick i__law_type_rows : Nat) : Fn := ⟨3, 1, [false], (.cons (.asg (.nm 1) (.call i__law_take (.cons (.var 0) (.cons (.cst (.int 6)) .nil)))) (.cons (.ite (.cmp .eq (.var 1) (.cst (.int 0))) (.cons (.ret (.tup (.cons (.bop .mul (.tup (.cons (.cst (.int 1)) .nil)) (.cst (.int 6))) (.cons (.bop .mul (.tup (.cons (.cst (.int 1)) .nil)) (.cst (.int 4))) (.cons (.tup (.cons (.cst (.int 1)) (.cons (.cst (.int 1)) .nil))) (.cons (.tup (.cons (.cst (.int 1)) (.cons (.cst (.int 1)) .nil))) .nil)))))) .nil) .nil) (.cons (.ite (.cmp .eq (.var 1) (.cst (.int 1))) (.cons (.ret (.tup (.cons (.tup (.cons (.cst (.int 1)) (.cons (.cst (.int 2)) (.cons (.cst (.int 3)) (.cons (.cst (.int 4)) (.cons (.cst (.int 5)) (.cons (.cst (.int 6)) .nil))))))) (.cons (.tup (.cons (.cst (.int 1)) (.cons (.cst (.int 2)) (.cons (.cst (.int 3)) (.cons (.cst (.int 4)) .nil))))) (.cons (.tup (.cons (.cst (.int 1)) (.cons (.cst (.int 2)) .nil))) (.cons (.tup (.cons (.cst (.int 1)) (.cons (.cst (.int 2)) .nil))) .nil)))))) .nil) .nil) (.cons (.ret (.bi .tuple (.cons (C__law_law1 i__law_pick i__law_type_rows) .nil))) .nil))))⟩
def E__law_mark_at1 : CE := (.tup (.cons (.bi .int (.cons (.cmp .eq (.var 2) (.bop .sub (.var 1) (.cst (.int 1)))) .nil)) (.cons (.cst (.int 1)) .nil)))
def C__law_mark_at1 : CE := (.lc [2] (.nm 2) (.rng (.cons (.var 0) .nil)) .nil E__law_mark_at1)
def F__law_mark_at : Fn := ⟨3, 2, [false, false], (.cons (.ret (.bi .tuple (.cons C__law_mark_at1 .nil))) .nil)⟩
def B__law_right1 (i_type_of i_is_in i__law_times_itself : Nat) : CSs := (.cons (.ite (.or (.cmp .ne (.call i_type_of (.cons (.var 1) (.cons (.var 8) (.cons (.var 11) .nil)))) (.var 10)) (.not (.call i_is_in (.cons (.var 1) (.cons (.call i__law_times_itself (.cons (.var 8) (.cons (.var 11) .nil))) (.cons (.var 2) .nil)))))) (.cons (.ret (.cst (.bl false))) .nil) .nil) .nil)
def S__law_right1 (i_type_of i_is_in i__law_times_itself : Nat) : CS := (.fr (.nm 11) (.rng (.cons (.var 10) (.cons (.bop .add (.var 9) (.cst (.int 1))) (.cons (.var 10) .nil)))) (B__law_right1 i_type_of i_is_in i__law_times_itself))
def B__law_right2 (i_type_of i_is_in i__law_times_itself : Nat) : CSs := (.cons (.asg (.nm 10) (.call i_type_of (.cons (.var 1) (.cons (.var 8) (.cons (.var 9) .nil))))) (.cons (.par [5, 6, 7] (.cons (.bop .mul (.var 5) (.bop .add (.bop .fdiv (.var 9) (.var 10)) (.cst (.int 1)))) (.cons (.bop .add (.var 6) (.bop .fdiv (.var 9) (.var 10))) (.cons (.ite (.cmp .eq (.var 10) (.var 9)) (.bop .sub (.cst (.int 0)) (.var 7)) (.cst (.int 0))) .nil)))) (.cons (S__law_right1 i_type_of i_is_in i__law_times_itself) .nil)))
def S__law_right2 (i_type_of i_is_in i__law_times_itself : Nat) : CS := (.fr (.tup [(.nm 8), (.nm 9)]) (.val (.var 3)) (B__law_right2 i_type_of i_is_in i__law_times_itself))
def E__law_right1 (i_weight : Nat) : CE := (.call i_weight (.cons (.var 1) (.cons (.var 12) .nil)))
def C__law_right1 (i_weight : Nat) : CE := (.lc [12] (.nm 12) (.val (.var 4)) .nil (E__law_right1 i_weight))
def Q__law_right1 (i_is_in : Nat) : CEs := (.cons (.call i_is_in (.cons (.var 1) (.cons (.var 11) (.cons (.var 12) .nil)))) .nil)
def E__law_right2 : CE := (.var 11)
def C__law_right2 (i_is_in : Nat) : CE := (.lc [11] (.nm 11) (.val (.var 4)) (Q__law_right1 i_is_in) E__law_right2)
def B__law_right3 (i_type_of : Nat) : CSs := (.cons (.ite (.cmp .ne (.call i_type_of (.cons (.var 1) (.cons (.var 8) (.cons (.var 9) .nil)))) (.call i_type_of (.cons (.var 1) (.cons (.var 8) (.cons (.idx (.bi .dict (.cons (.var 3) .nil)) (.var 8)) .nil))))) (.cons (.ret (.cst (.bl false))) .nil) .nil) .nil)
def S__law_right3 (i__law_factors i_type_of : Nat) : CS := (.fr (.tup [(.nm 8), (.nm 9)]) (.val (.call i__law_factors (.cons (.var 12) .nil))) (B__law_right3 i_type_of))
def B__law_right4 (i_weight i_meet i_lot i_is_in i__law_factors i_type_of : Nat) : CSs := (.cons (.ite (.or (.cmp .ne (.bop .add (.call i_weight (.cons (.var 1) (.cons (.var 12) .nil))) (.call i_weight (.cons (.var 1) (.cons (.bop .fdiv (.var 2) (.var 12)) .nil)))) (.var 6)) (.or (.cmp .ne (.call i_meet (.cons (.var 1) (.cons (.var 12) (.cons (.var 2) .nil)))) (.var 12)) (.cmp .ne (.call i_lot (.cons (.var 1) (.cons (.var 12) .nil))) (.bi .tuple (.cons (C__law_right2 i_is_in) .nil))))) (.cons (.ret (.cst (.bl false))) .nil) .nil) (.cons (S__law_right3 i__law_factors i_type_of) .nil))
def S__law_right4 (i_weight i_meet i_lot i_is_in i__law_factors i_type_of : Nat) : CS := (.fr (.nm 12) (.val (.var 4)) (B__law_right4 i_weight i_meet i_lot i_is_in i__law_factors i_type_of))
def E__law_right3 (i_type_of : Nat) : CE := (.bi .int (.cons (.cmp .eq (.call i_type_of (.cons (.var 1) (.cons (.var 8) (.cons (.var 9) .nil)))) (.var 9)) .nil))
def C__law_right3 (i_type_of : Nat) : CE := (.lc [8, 9] (.tup [(.nm 8), (.nm 9)]) (.val (.var 3)) .nil (E__law_right3 i_type_of))
def F__law_right (i__law_law i__law_take i__law_factors i_lot i_type_of i_is_in i__law_times_itself i_weight i_meet i_marks i_sums_over i__law_mark_at : Nat) : Fn := ⟨14, 1, [false], (.cons (.asg (.tup [(.nm 1), (.nm 2)]) (.tup (.cons (.call i__law_law (.cons (.var 0) .nil)) (.cons (.bop .add (.cst (.int 1)) (.call i__law_take (.cons (.var 0) (.cons (.cst (.int 120)) .nil)))) .nil)))) (.cons (.par [3, 4] (.cons (.call i__law_factors (.cons (.var 2) .nil)) (.cons (.call i_lot (.cons (.var 1) (.cons (.var 2) .nil))) .nil))) (.cons (.asg (.tup [(.nm 5), (.nm 6), (.nm 7)]) (.tup (.cons (.cst (.int 1)) (.cons (.cst (.int 0)) (.cons (.cst (.int 1)) .nil))))) (.cons (S__law_right2 i_type_of i_is_in i__law_times_itself) (.cons (.ite (.or (.cmp .ne (.bi .len (.cons (.var 4) .nil)) (.var 5)) (.or (.cmp .ne (.call i_weight (.cons (.var 1) (.cons (.var 2) .nil))) (.var 6)) (.cmp .ne (.bi .max (.cons (C__law_right1 i_weight) .nil)) (.var 6)))) (.cons (.ret (.cst (.bl false))) .nil) .nil) (.cons (S__law_right4 i_weight i_meet i_lot i_is_in i__law_factors i_type_of) (.cons (.asg (.nm 13) (.call i_marks (.cons (.var 1) (.cons (.var 2) .nil)))) (.cons (.ite (.cmp .ne (.idx (.var 13) (.bop .sub (.var 2) (.cst (.int 1)))) (.tup (.cons (.ite (.and (.cmp .ne (.var 3) (.lst .nil)) (.cmp .notin (.cst (.int 0)) (C__law_right3 i_type_of))) (.var 7) (.bi .int (.cons (.cmp .eq (.var 3) (.lst .nil)) .nil))) (.cons (.cst (.int 1)) .nil)))) (.cons (.ret (.cst (.bl false))) .nil) .nil) (.cons (.ret (.or (.cmp .gt (.var 2) (.cst (.int 40))) (.cmp .eq (.call i_sums_over (.cons (.var 1) (.cons (.var 13) .nil))) (.call i__law_mark_at (.cons (.var 2) (.cons (.cst (.int 1)) .nil)))))) .nil)))))))))⟩
def B_law1 (i__law_right : Nat) : CSs := (.cons (.ite (.not (.call i__law_right (.cons (.var 1) .nil))) (.cons (.ret (.cst (.bl false))) .nil) .nil) .nil)
def S_law1 (i__law_right : Nat) : CS := (.fr (.nm 2) (.rng (.cons (.bop .add (.cst (.int 8)) (.bi .min2 (.cons (.bi .len (.cons (.var 0) .nil)) (.cons (.cst (.int 16)) .nil)))) .nil)) (B_law1 i__law_right))
def F_law (i__law_begun i__law_right i_weight i_marks i_lot : Nat) : Fn := ⟨4, 1, [false], (.cons (.asg (.nm 1) (.call i__law_begun (.cons (.var 0) .nil))) (.cons (S_law1 i__law_right) (.cons (.asg (.nm 3) (.tup (.cons (.tup (.cons (.cst (.int 1)) (.cons (.cst (.int 1)) (.cons (.cst (.int 3)) (.cons (.cst (.int 4)) (.cons (.cst (.int 5)) (.cons (.cst (.int 3)) .nil))))))) (.cons (.bop .mul (.tup (.cons (.cst (.int 1)) .nil)) (.cst (.int 4))) (.cons (.tup (.cons (.cst (.int 1)) (.cons (.cst (.int 1)) .nil))) (.cons (.tup (.cons (.cst (.int 1)) (.cons (.cst (.int 1)) .nil))) .nil)))))) (.cons (.ret (.and (.cmp .eq (.call i_weight (.cons (.var 3) (.cons (.cst (.int 64)) .nil))) (.cst (.int 2))) (.and (.cmp .eq (.idx (.call i_marks (.cons (.var 3) (.cons (.cst (.int 8)) .nil))) (.cst (.int 7))) (.tup (.cons (.neg (.cst (.int 1))) (.cons (.cst (.int 1)) .nil)))) (.and (.cmp .eq (.idx (.call i_marks (.cons (.var 3) (.cons (.cst (.int 64)) .nil))) (.cst (.int 63))) (.tup (.cons (.cst (.int 0)) (.cons (.cst (.int 1)) .nil)))) (.cmp .eq (.call i_lot (.cons (.var 3) (.cons (.cst (.int 64)) .nil))) (.tup (.cons (.cst (.int 1)) (.cons (.cst (.int 8)) (.cons (.cst (.int 64)) .nil))))))))) .nil))))⟩
def F_need_other (i_is_table_of : Nat) : Fn := ⟨2, 2, [false, false], (.cons (.ite (.or (.not (.call i_is_table_of (.cons (.var 1) .nil))) (.cmp .ne (.bi .len (.cons (.var 1) .nil)) (.bi .len (.cons (.var 0) .nil)))) (.cons (.exp .bad) .nil) .nil) .nil)⟩
def Q_greatest_by1 : CEs := (.cons (.cmp .eq (.bop .mod (.var 1) (.var 3)) (.cst (.int 0))) .nil)
def E_greatest_by1 : CE := (.var 3)
def C_greatest_by1 (i_lot_by : Nat) : CE := (.lc [3] (.nm 3) (.val (.call i_lot_by (.cons (.var 0) (.cons (.var 2) .nil)))) Q_greatest_by1 E_greatest_by1)
def F_greatest_by (i_lot_by : Nat) : Fn := ⟨4, 3, [false, false, false], (.cons (.ret (.idx (C_greatest_by1 i_lot_by) (.neg (.cst (.int 1))))) .nil)⟩
def B_mark_at1 (i_type_by : Nat) : CSs := (.cons (.asg (.nm 2) (.ite (.cmp .eq (.call i_type_by (.cons (.var 0) (.cons (.var 3) (.cons (.var 4) .nil)))) (.var 4)) (.neg (.var 2)) (.cst (.int 0)))) .nil)
def S_mark_at1 (i_factors_of i_type_by : Nat) : CS := (.fr (.tup [(.nm 3), (.nm 4)]) (.val (.call i_factors_of (.cons (.var 1) .nil))) (B_mark_at1 i_type_by))
def F_mark_at (i_factors_of i_type_by : Nat) : Fn := ⟨5, 2, [false, false], (.cons (.asg (.nm 2) (.cst (.int 1))) (.cons (S_mark_at1 i_factors_of i_type_by) (.cons (.ret (.var 2)) .nil)))⟩
def Q_ramanujan_by1 : CEs := (.cons (.cmp .eq (.bop .mod (.var 1) (.var 3)) (.cst (.int 0))) .nil)
def E_ramanujan_by1 (i_mark_at : Nat) : CE := (.bop .mul (.var 3) (.call i_mark_at (.cons (.var 0) (.cons (.bop .fdiv (.var 2) (.var 3)) .nil))))
def C_ramanujan_by1 (i_lot_by i_mark_at : Nat) : CE := (.lc [3] (.nm 3) (.val (.call i_lot_by (.cons (.var 0) (.cons (.var 2) .nil)))) Q_ramanujan_by1 (E_ramanujan_by1 i_mark_at))
def F_ramanujan_by (i_lot_by i_mark_at : Nat) : Fn := ⟨4, 3, [false, false, false], (.cons (.ret (.bi .sum (.cons (C_ramanujan_by1 i_lot_by i_mark_at) .nil))) .nil)⟩
def F_need_far (i_is_within_bounds : Nat) : Fn := ⟨1, 1, [false], (.cons (.ite (.not (.call i_is_within_bounds (.cons (.var 0) (.cons (.cst (.int 1)) (.cons (.glo (.int 1000000000000000000)) .nil))))) (.cons (.exp .bad) .nil) .nil) .nil)⟩
def F_greatest (i_need_law i_need_far i_need_number i_greatest_by : Nat) : Fn := ⟨3, 3, [false, false, false], (.cons (.exp (.call i_need_law (.cons (.var 0) .nil))) (.cons (.exp (.call i_need_far (.cons (.var 1) .nil))) (.cons (.exp (.call i_need_number (.cons (.var 2) (.cons (.cst (.str "n")) .nil)))) (.cons (.ret (.call i_greatest_by (.cons (.var 0) (.cons (.var 1) (.cons (.var 2) .nil))))) .nil))))⟩
def F_ramanujan (i_need_law i_need_far i_need_number i_ramanujan_by : Nat) : Fn := ⟨3, 3, [false, false, false], (.cons (.exp (.call i_need_law (.cons (.var 0) .nil))) (.cons (.exp (.call i_need_far (.cons (.var 1) .nil))) (.cons (.exp (.call i_need_number (.cons (.var 2) (.cons (.cst (.str "n")) .nil)))) (.cons (.ret (.call i_ramanujan_by (.cons (.var 0) (.cons (.var 1) (.cons (.var 2) .nil))))) .nil))))⟩
def F_told_back (i_need_law i_need_table i_product_by i_all_lots i_marks_by : Nat) : Fn := ⟨2, 2, [false, false], (.cons (.exp (.call i_need_law (.cons (.var 0) .nil))) (.cons (.exp (.call i_need_table (.cons (.var 1) (.cons (.cst (.str "table")) .nil)))) (.cons (.ret (.bi .tuple (.cons (.call i_product_by (.cons (.call i_all_lots (.cons (.var 0) (.cons (.bi .len (.cons (.var 1) .nil)) .nil))) (.cons (.var 1) (.cons (.call i_marks_by (.cons (.var 0) (.cons (.bi .len (.cons (.var 1) .nil)) .nil))) .nil)))) .nil))) .nil)))⟩
def F_product (i_need_law i_need_table i_need_other i_product_by i_all_lots : Nat) : Fn := ⟨3, 3, [false, false, false], (.cons (.exp (.call i_need_law (.cons (.var 0) .nil))) (.cons (.exp (.call i_need_table (.cons (.var 1) (.cons (.cst (.str "one")) .nil)))) (.cons (.exp (.call i_need_other (.cons (.var 1) (.cons (.var 2) .nil)))) (.cons (.ret (.bi .tuple (.cons (.call i_product_by (.cons (.call i_all_lots (.cons (.var 0) (.cons (.bi .len (.cons (.var 1) .nil)) .nil))) (.cons (.var 1) (.cons (.var 2) .nil)))) .nil))) .nil))))⟩
def E_need_numbers1 (i_is_within_bounds : Nat) : CE := (.call i_is_within_bounds (.cons (.var 1) (.cons (.cst (.int 1)) (.cons (.glo (.int 120)) .nil))))
def C_need_numbers1 (i_is_within_bounds : Nat) : CE := (.lc [1] (.nm 1) (.val (.var 0)) .nil (E_need_numbers1 i_is_within_bounds))
def E_need_numbers2 : CE := (.cmp .lt (.var 2) (.var 3))
def C_need_numbers2 : CE := (.lc [2, 3] (.tup [(.nm 2), (.nm 3)]) (.zip (.cons (.var 0) (.cons (.sli (.var 0) (.cons (.cst (.int 1)) .nil) .nil) .nil))) .nil E_need_numbers2)
def F_need_numbers (i_is_within_bounds : Nat) : Fn := ⟨4, 1, [false], (.cons (.ite (.or (.not (.isi (.var 0) [.tuple])) (.not (.chn .le .le (.cst (.int 1)) (.bi .len (.cons (.var 0) .nil)) (.glo (.int 16))))) (.cons (.exp .bad) .nil) .nil) (.cons (.ite (.not (.bi .all (.cons (C_need_numbers1 i_is_within_bounds) .nil))) (.cons (.exp .bad) .nil) .nil) (.cons (.ite (.not (.bi .all (.cons C_need_numbers2 .nil))) (.cons (.exp .bad) .nil) .nil) .nil)))⟩
def E_is_closed_by1 : CE := (.cmp .isin (.var 3) (.var 1))
def I_is_closed_by1 (i_lot_by : Nat) : CI := (.val (.call i_lot_by (.cons (.var 0) (.cons (.var 2) .nil))))
def C_is_closed_by1 (i_lot_by : Nat) : CE := (.lc2 [2, 3] [3] (.nm 2) (.val (.var 1)) (.nm 3) (I_is_closed_by1 i_lot_by) .nil E_is_closed_by1)
def F_is_closed_by (i_lot_by : Nat) : Fn := ⟨4, 2, [false, false], (.cons (.ret (.bi .all (.cons (C_is_closed_by1 i_lot_by) .nil))) .nil)⟩
def F_is_closed (i_need_law i_need_numbers i_is_closed_by : Nat) : Fn := ⟨2, 2, [false, false], (.cons (.exp (.call i_need_law (.cons (.var 0) .nil))) (.cons (.exp (.call i_need_numbers (.cons (.var 1) .nil))) (.cons (.ret (.call i_is_closed_by (.cons (.var 0) (.cons (.var 1) .nil)))) .nil)))⟩
def Q__law_right_v21 : CEs := (.cons (.cmp .eq (.bop .mod (.bi .int (.cons (.var 3) .nil)) (.bi .int (.cons (.var 12) .nil))) (.cst (.int 0))) .nil)
def E__law_right_v21 : CE := (.var 12)
def C__law_right_v21 : CE := (.lc [12] (.nm 12) (.val (.var 4)) Q__law_right_v21 E__law_right_v21)
def E__law_right_v22 : CE := (.tup (.cons (.ite (.cmp .eq (.bop .mod (.bi .int (.cons (.var 3) .nil)) (.bi .int (.cons (.bop .add (.var 13) (.cst (.int 1))) .nil))) (.cst (.int 0))) (.bop .add (.var 13) (.cst (.int 1))) (.cst (.int 0))) (.cons (.cst (.int 1)) .nil)))
def C__law_right_v22 : CE := (.lc [13] (.nm 13) (.rng (.cons (.var 2) .nil)) .nil E__law_right_v22)
def Q__law_right_v22 : CEs := (.cons (.cmp .eq (.bop .mod (.var 3) (.var 12)) (.cst (.int 0))) .nil)
def E__law_right_v23 : CE := (.var 12)
def C__law_right_v23 : CE := (.lc [12] (.nm 12) (.val (.var 4)) Q__law_right_v22 E__law_right_v23)
def E__law_right_v24 : CE := (.tup (.cons (.var 14) (.cons (.cst (.int 1)) .nil)))
def C__law_right_v24 : CE := (.lc [14] (.nm 14) (.rng (.cons (.cst (.int 1)) (.cons (.bop .add (.var 2) (.cst (.int 1))) .nil))) .nil E__law_right_v24)
def E__law_right_v25 (i_ramanujan : Nat) : CE := (.tup (.cons (.call i_ramanujan (.cons (.var 1) (.cons (.var 12) (.cons (.var 12) .nil)))) (.cons (.cst (.int 1)) .nil)))
def C__law_right_v25 (i_ramanujan : Nat) : CE := (.lc [12] (.nm 12) (.val (.var 4)) .nil (E__law_right_v25 i_ramanujan))
def E__law_right_v26 : CE := (.idx (.var 8) (.bop .sub (.var 12) (.cst (.int 1))))
def C__law_right_v26 : CE := (.lc [12] (.nm 12) (.val (.var 4)) .nil E__law_right_v26)
def E__law_right_v27 (i_ramanujan : Nat) : CE := (.call i_ramanujan (.cons (.var 1) (.cons (.var 2) (.cons (.var 12) .nil))))
def C__law_right_v27 (i_ramanujan : Nat) : CE := (.lc [12] (.nm 12) (.val (.var 4)) .nil (E__law_right_v27 i_ramanujan))
def E__law_right_v28 (i_ramanujan : Nat) : CE := (.call i_ramanujan (.cons (.var 1) (.cons (.var 12) (.cons (.var 12) .nil))))
def C__law_right_v28 (i_ramanujan : Nat) : CE := (.lc [12] (.nm 12) (.val (.var 4)) .nil (E__law_right_v28 i_ramanujan))
def E__law_right_v29 (i_ramanujan : Nat) : CE := (.bop .mul (.call i_ramanujan (.cons (.var 1) (.cons (.var 13) (.cons (.var 9) .nil)))) (.call i_ramanujan (.cons (.var 1) (.cons (.var 13) (.cons (.var 10) .nil)))))
def C__law_right_v29 (i_ramanujan : Nat) : CE := (.lc [13] (.nm 13) (.rng (.cons (.cst (.int 1)) (.cons (.bop .add (.var 2) (.cst (.int 1))) .nil))) .nil (E__law_right_v29 i_ramanujan))
def F__law_right_v2 (i__law_law i__law_pick i__law_take i_lot i_marks i_greatest i_is_in i_ramanujan i_product i_meet i_told_back i_is_closed : Nat) : Fn := ⟨15, 1, [false], (.cons (.asg (.tup [(.nm 1), (.nm 2)]) (.tup (.cons (.call i__law_law (.cons (.var 0) .nil)) (.cons (.call i__law_pick (.cons (.var 0) (.cons (.lst (.cons (.bop .add (.cst (.int 1)) (.call i__law_take (.cons (.var 0) (.cons (.cst (.int 40)) .nil)))) (.cons (.cst (.int 12)) (.cons (.cst (.int 16)) (.cons (.cst (.int 24)) (.cons (.cst (.int 32)) (.cons (.cst (.int 36)) .nil))))))) .nil))) .nil)))) (.cons (.asg (.nm 3) (.call i__law_pick (.cons (.var 0) (.cons (.lst (.cons (.bop .add (.cst (.int 1)) (.call i__law_take (.cons (.var 0) (.cons (.cst (.int 200)) .nil)))) (.cons (.bop .add (.cst (.int 1)) (.call i__law_take (.cons (.var 0) (.cons (.var 2) .nil)))) (.cons (.bop .mul (.var 2) (.bop .add (.cst (.int 1)) (.call i__law_take (.cons (.var 0) (.cons (.cst (.int 4)) .nil))))) (.cons (.bop .add (.bop .pow (.cst (.int 10)) (.cst (.int 15))) (.call i__law_take (.cons (.var 0) (.cons (.cst (.int 1000)) .nil)))) .nil))))) .nil)))) (.cons (.par [4, 5] (.cons (.call i_lot (.cons (.var 1) (.cons (.var 2) .nil))) (.cons (.call i_marks (.cons (.var 1) (.cons (.var 2) .nil))) .nil))) (.cons (.asg (.nm 6) (.bi .max (.cons C__law_right_v21 .nil))) (.cons (.ite (.or (.cmp .ne (.call i_greatest (.cons (.var 1) (.cons (.var 3) (.cons (.var 2) .nil)))) (.var 6)) (.not (.call i_is_in (.cons (.var 1) (.cons (.var 6) (.cons (.var 2) .nil)))))) (.cons (.ret (.cst (.bl false))) .nil) .nil) (.cons (.asg (.nm 7) (.bi .tuple (.cons C__law_right_v22 .nil))) (.cons (.ite (.or (.cmp .ne (.tup (.cons (.call i_ramanujan (.cons (.var 1) (.cons (.var 3) (.cons (.var 2) .nil)))) (.cons (.cst (.int 1)) .nil))) (.idx (.call i_product (.cons (.var 1) (.cons (.var 7) (.cons (.var 5) .nil)))) (.bop .sub (.var 2) (.cst (.int 1))))) (.cmp .ne (.call i_ramanujan (.cons (.var 1) (.cons (.var 3) (.cons (.var 2) .nil)))) (.call i_ramanujan (.cons (.var 1) (.cons (.var 6) (.cons (.var 2) .nil)))))) (.cons (.ret (.cst (.bl false))) .nil) .nil) (.cons (.ite (.or (.and (.chn .lt .lt (.cst (.int 0)) (.var 3) (.cst (.int 121))) (.cmp .ne (.var 6) (.bi .max (.cons C__law_right_v23 .nil)))) (.and (.cmp .eq (.var 3) (.var 2)) (.cmp .ne (.var 6) (.call i_meet (.cons (.var 1) (.cons (.var 2) (.cons (.var 2) .nil))))))) (.cons (.ret (.cst (.bl false))) .nil) .nil) (.cons (.asg (.nm 8) (.call i_told_back (.cons (.var 1) (.cons (.bi .tuple (.cons C__law_right_v24 .nil)) .nil)))) (.cons (.ite (.or (.cmp .ne (C__law_right_v25 i_ramanujan) C__law_right_v26) (.cmp .ne (C__law_right_v27 i_ramanujan) (C__law_right_v28 i_ramanujan))) (.cons (.ret (.cst (.bl false))) .nil) .nil) (.cons (.asg (.tup [(.nm 9), (.nm 10)]) (.tup (.cons (.call i__law_pick (.cons (.var 0) (.cons (.var 4) .nil))) (.cons (.call i__law_pick (.cons (.var 0) (.cons (.var 4) .nil))) .nil)))) (.cons (.asg (.nm 11) (.bi .sum (.cons (C__law_right_v29 i_ramanujan) .nil))) (.cons (.ite (.cmp .ne (.var 11) (.ite (.cmp .eq (.var 9) (.var 10)) (.bop .mul (.var 2) (.call i_ramanujan (.cons (.var 1) (.cons (.var 9) (.cons (.var 9) .nil))))) (.cst (.int 0)))) (.cons (.ret (.cst (.bl false))) .nil) .nil) (.cons (.ret (.or (.cmp .gt (.bi .len (.cons (.var 4) .nil)) (.cst (.int 16))) (.cmp .is (.call i_is_closed (.cons (.var 1) (.cons (.var 4) .nil))) (.cst (.bl true))))) .nil))))))))))))))⟩
def B_law_v21 (i__law_right : Nat) : CSs := (.cons (.ite (.not (.call i__law_right (.cons (.var 1) .nil))) (.cons (.ret (.cst (.bl false))) .nil) .nil) .nil)
def S_law_v21 (i__law_right : Nat) : CS := (.fr (.nm 2) (.rng (.cons (.bop .add (.cst (.int 5)) (.bi .min2 (.cons (.bi .len (.cons (.var 0) .nil)) (.cons (.cst (.int 10)) .nil)))) .nil)) (B_law_v21 i__law_right))
def E_law_v21 (i_ramanujan : Nat) : CE := (.call i_ramanujan (.cons (.var 3) (.cons (.var 5) (.cons (.cst (.int 4)) .nil))))
def C_law_v21 (i_ramanujan : Nat) : CE := (.lc [5] (.nm 5) (.rng (.cons (.cst (.int 1)) (.cons (.cst (.int 5)) .nil))) .nil (E_law_v21 i_ramanujan))
def E_law_v22 (i_ramanujan : Nat) : CE := (.call i_ramanujan (.cons (.var 4) (.cons (.var 5) (.cons (.cst (.int 4)) .nil))))
def C_law_v22 (i_ramanujan : Nat) : CE := (.lc [5] (.nm 5) (.rng (.cons (.cst (.int 1)) (.cons (.cst (.int 5)) .nil))) .nil (E_law_v22 i_ramanujan))
def F_law_v2 (i__law_begun i__law_right i_ramanujan : Nat) : Fn := ⟨6, 1, [false], (.cons (.asg (.nm 1) (.call i__law_begun (.cons (.var 0) .nil))) (.cons (S_law_v21 i__law_right) (.cons (.asg (.tup [(.nm 3), (.nm 4)]) (.tup (.cons (.tup (.cons (.bop .mul (.tup (.cons (.cst (.int 1)) .nil)) (.cst (.int 6))) (.cons (.bop .mul (.tup (.cons (.cst (.int 1)) .nil)) (.cst (.int 4))) (.cons (.tup (.cons (.cst (.int 1)) (.cons (.cst (.int 1)) .nil))) (.cons (.tup (.cons (.cst (.int 1)) (.cons (.cst (.int 1)) .nil))) .nil))))) (.cons (.tup (.cons (.tup (.cons (.cst (.int 1)) (.cons (.cst (.int 2)) (.cons (.cst (.int 3)) (.cons (.cst (.int 4)) (.cons (.cst (.int 5)) (.cons (.cst (.int 6)) .nil))))))) (.cons (.tup (.cons (.cst (.int 1)) (.cons (.cst (.int 2)) (.cons (.cst (.int 3)) (.cons (.cst (.int 4)) .nil))))) (.cons (.tup (.cons (.cst (.int 1)) (.cons (.cst (.int 2)) .nil))) (.cons (.tup (.cons (.cst (.int 1)) (.cons (.cst (.int 2)) .nil))) .nil))))) .nil)))) (.cons (.ret (.and (.cmp .eq (C_law_v21 i_ramanujan) (.lst (.cons (.cst (.int 0)) (.cons (.neg (.cst (.int 2))) (.cons (.cst (.int 0)) (.cons (.cst (.int 2)) .nil)))))) (.cmp .eq (C_law_v22 i_ramanujan) (.lst (.cons (.neg (.cst (.int 1))) (.cons (.neg (.cst (.int 1))) (.cons (.neg (.cst (.int 1))) (.cons (.cst (.int 3)) .nil)))))))) .nil))))⟩
def F_ones (i_need_reach i_ones_by : Nat) : Fn := ⟨1, 1, [false], (.cons (.exp (.call i_need_reach (.cons (.var 0) .nil))) (.cons (.ret (.bi .tuple (.cons (.call i_ones_by (.cons (.var 0) .nil)) .nil))) .nil))⟩
def Q_powers_to1 (i_factors_of : Nat) : CEs := (.cons (.cmp .eq (.bi .len (.cons (.call i_factors_of (.cons (.var 1) .nil)) .nil)) (.cst (.int 1))) .nil)
def E_powers_to1 : CE := (.var 1)
def C_powers_to1 (i_factors_of : Nat) : CE := (.lc [1] (.nm 1) (.rng (.cons (.cst (.int 2)) (.cons (.bop .add (.var 0) (.cst (.int 1))) .nil))) (Q_powers_to1 i_factors_of) E_powers_to1)
def F_powers_to (i_factors_of : Nat) : Fn := ⟨2, 1, [false], (.cons (.ret (C_powers_to1 i_factors_of)) .nil)⟩
def E_need_values1 : CE := (.cmp .isin (.var 2) (.var 0))
def C_need_values1 : CE := (.lc [2] (.nm 2) (.val (.var 1)) .nil E_need_values1)
def E_need_values2 (i_is_fraction : Nat) : CE := (.call i_is_fraction (.cons (.idx (.var 0) (.var 2)) .nil))
def C_need_values2 (i_is_fraction : Nat) : CE := (.lc [2] (.nm 2) (.val (.var 1)) .nil (E_need_values2 i_is_fraction))
def F_need_values (i_is_fraction : Nat) : Fn := ⟨3, 2, [false, false], (.cons (.ite (.or (.not (.isi (.var 0) [.dict])) (.or (.cmp .ne (.bi .len (.cons (.var 0) .nil)) (.bi .len (.cons (.var 1) .nil))) (.not (.bi .all (.cons C_need_values1 .nil))))) (.cons (.exp .bad) .nil) .nil) (.cons (.ite (.not (.bi .all (.cons (C_need_values2 i_is_fraction) .nil))) (.cons (.exp .bad) .nil) .nil) .nil))⟩
def B_built_by1 (i_by_both i_powered : Nat) : CSs := (.cons (.asg (.nm 4) (.call i_by_both (.cons (.var 4) (.cons (.idx (.var 1) (.call i_powered (.cons (.var 5) (.cons (.var 6) .nil)))) .nil)))) .nil)
def S_built_by1 (i_factors_of i_by_both i_powered : Nat) : CS := (.fr (.tup [(.nm 5), (.nm 6)]) (.val (.call i_factors_of (.cons (.var 3) .nil))) (B_built_by1 i_by_both i_powered))
def B_built_by2 (i_factors_of i_by_both i_powered : Nat) : CSs := (.cons (.asg (.nm 4) (.glo (.tup [(.int 1), (.int 1)]))) (.cons (S_built_by1 i_factors_of i_by_both i_powered) (.cons (.exp (.app 2 (.var 4))) .nil)))
def S_built_by2 (i_factors_of i_by_both i_powered : Nat) : CS := (.fr (.nm 3) (.rng (.cons (.cst (.int 1)) (.cons (.bop .add (.var 0) (.cst (.int 1))) .nil))) (B_built_by2 i_factors_of i_by_both i_powered))
def F_built_by (i_factors_of i_by_both i_powered : Nat) : Fn := ⟨7, 2, [false, false], (.cons (.asg (.nm 2) (.lst .nil)) (.cons (S_built_by2 i_factors_of i_by_both i_powered) (.cons (.ret (.var 2)) .nil)))⟩
def F_built (i_need_reach i_need_values i_powers_to i_built_by : Nat) : Fn := ⟨2, 2, [false, false], (.cons (.exp (.call i_need_reach (.cons (.var 0) .nil))) (.cons (.exp (.call i_need_values (.cons (.var 1) (.cons (.call i_powers_to (.cons (.var 0) .nil)) .nil)))) (.cons (.ret (.bi .tuple (.cons (.call i_built_by (.cons (.var 0) (.cons (.var 1) .nil))) .nil))) .nil)))⟩
def F_told_powers (i_need_table : Nat) : Fn := ⟨2, 1, [false], (.cons (.exp (.call i_need_table (.cons (.var 0) (.cons (.cst (.str "table")) .nil)))) (.cons (.ret .bad) .nil))⟩
def Q_divisors1 : CEs := (.cons (.cmp .eq (.bop .mod (.var 0) (.var 1)) (.cst (.int 0))) .nil)
def E_divisors1 : CE := (.var 1)
def C_divisors1 : CE := (.lc [1] (.nm 1) (.rng (.cons (.cst (.int 1)) (.cons (.bop .add (.var 0) (.cst (.int 1))) .nil))) Q_divisors1 E_divisors1)
def F_divisors : Fn := ⟨2, 1, [false], (.cons (.ret C_divisors1) .nil)⟩
def B_bar_by1 (i_by_both : Nat) : CSs := (.cons (.ite (.and (.cmp .eq (.bi .gcd (.cons (.var 2) (.cons (.bop .fdiv (.var 1) (.var 2)) .nil))) (.cst (.int 1))) (.cmp .ne (.idx (.var 0) (.bop .sub (.var 1) (.cst (.int 1)))) (.call i_by_both (.cons (.idx (.var 0) (.bop .sub (.var 2) (.cst (.int 1)))) (.cons (.idx (.var 0) (.bop .sub (.bop .fdiv (.var 1) (.var 2)) (.cst (.int 1)))) .nil))))) (.cons (.ret (.tup (.cons (.var 1) (.cons (.var 2) .nil)))) .nil) .nil) .nil)
def S_bar_by1 (i_divisors i_by_both : Nat) : CS := (.fr (.nm 2) (.val (.sli (.call i_divisors (.cons (.var 1) .nil)) (.cons (.cst (.int 1)) .nil) (.cons (.neg (.cst (.int 1))) .nil))) (B_bar_by1 i_by_both))
def B_bar_by2 (i_divisors i_by_both : Nat) : CSs := (.cons (S_bar_by1 i_divisors i_by_both) .nil)
def S_bar_by2 (i_divisors i_by_both : Nat) : CS := (.fr (.nm 1) (.rng (.cons (.cst (.int 2)) (.cons (.bop .add (.bi .len (.cons (.var 0) .nil)) (.cst (.int 1))) .nil))) (B_bar_by2 i_divisors i_by_both))
def F_bar_by (i_divisors i_by_both : Nat) : Fn := ⟨3, 1, [false], (.cons (.ite (.cmp .ne (.idx (.var 0) (.cst (.int 0))) (.glo (.tup [(.int 1), (.int 1)]))) (.cons (.ret (.tup (.cons (.cst (.int 1)) (.cons (.cst (.int 1)) .nil)))) .nil) .nil) (.cons (S_bar_by2 i_divisors i_by_both) (.cons (.ret (.cst .non)) .nil)))⟩
def B_whole_bar_by1 (i_by_both : Nat) : CSs := (.cons (.ite (.cmp .ne (.idx (.var 1) (.bop .sub (.var 2) (.cst (.int 1)))) (.call i_by_both (.cons (.idx (.var 1) (.bop .sub (.var 3) (.cst (.int 1)))) (.cons (.idx (.var 1) (.bop .sub (.bop .fdiv (.var 2) (.var 3)) (.cst (.int 1)))) .nil)))) (.cons (.ret (.tup (.cons (.var 2) (.cons (.var 3) .nil)))) .nil) .nil) .nil)
def S_whole_bar_by1 (i_lot_by i_by_both : Nat) : CS := (.fr (.nm 3) (.val (.call i_lot_by (.cons (.var 0) (.cons (.var 2) .nil)))) (B_whole_bar_by1 i_by_both))
def B_whole_bar_by2 (i_lot_by i_by_both : Nat) : CSs := (.cons (S_whole_bar_by1 i_lot_by i_by_both) .nil)
def S_whole_bar_by2 (i_lot_by i_by_both : Nat) : CS := (.fr (.nm 2) (.rng (.cons (.cst (.int 2)) (.cons (.bop .add (.bi .len (.cons (.var 1) .nil)) (.cst (.int 1))) .nil))) (B_whole_bar_by2 i_lot_by i_by_both))
def F_whole_bar_by (i_lot_by i_by_both : Nat) : Fn := ⟨4, 2, [false, false], (.cons (.ite (.cmp .ne (.idx (.var 1) (.cst (.int 0))) (.glo (.tup [(.int 1), (.int 1)]))) (.cons (.ret (.tup (.cons (.cst (.int 1)) (.cons (.cst (.int 1)) .nil)))) .nil) .nil) (.cons (S_whole_bar_by2 i_lot_by i_by_both) (.cons (.ret (.cst .non)) .nil)))⟩
def F_is_parted (i_need_table i_bar_by : Nat) : Fn := ⟨1, 1, [false], (.cons (.exp (.call i_need_table (.cons (.var 0) (.cons (.cst (.str "table")) .nil)))) (.cons (.ret (.cmp .is (.call i_bar_by (.cons (.var 0) .nil)) (.cst .non))) .nil))⟩
def F_is_wholly (i_need_law i_need_table i_whole_bar_by : Nat) : Fn := ⟨2, 2, [false, false], (.cons (.exp (.call i_need_law (.cons (.var 0) .nil))) (.cons (.exp (.call i_need_table (.cons (.var 1) (.cons (.cst (.str "table")) .nil)))) (.cons (.ret (.cmp .is (.call i_whole_bar_by (.cons (.var 0) (.cons (.var 1) .nil))) (.cst .non))) .nil)))⟩
def E_selves_by1 : CE := (.tup (.cons (.var 1) (.cons (.cst (.int 1)) .nil)))
def C_selves_by1 : CE := (.lc [1] (.nm 1) (.rng (.cons (.cst (.int 1)) (.cons (.bop .add (.var 0) (.cst (.int 1))) .nil))) .nil E_selves_by1)
def F_selves_by : Fn := ⟨2, 1, [false], (.cons (.ret C_selves_by1) .nil)⟩
def E_sums_by_powers1 (i_powered : Nat) : CE := (.call i_powered (.cons (.var 4) (.cons (.var 2) .nil)))
def C_sums_by_powers1 (i_powered : Nat) : CE := (.lc [4] (.nm 4) (.val (.var 3)) .nil (E_sums_by_powers1 i_powered))
def E_sums_by_powers2 (i_powered : Nat) : CE := (.tup (.cons (.bi .sum (.cons (C_sums_by_powers1 i_powered) .nil)) (.cons (.cst (.int 1)) .nil)))
def C_sums_by_powers2 (i_all_lots i_powered : Nat) : CE := (.lc [3] (.nm 3) (.val (.call i_all_lots (.cons (.var 0) (.cons (.var 1) .nil)))) .nil (E_sums_by_powers2 i_powered))
def F_sums_by_powers (i_all_lots i_powered : Nat) : Fn := ⟨5, 3, [false, false, false], (.cons (.ret (C_sums_by_powers2 i_all_lots i_powered)) .nil)⟩
def F_coprimes_by (i_product_by i_all_lots i_selves_by i_marks_by : Nat) : Fn := ⟨2, 2, [false, false], (.cons (.ret (.call i_product_by (.cons (.call i_all_lots (.cons (.var 0) (.cons (.var 1) .nil))) (.cons (.call i_selves_by (.cons (.var 1) .nil)) (.cons (.call i_marks_by (.cons (.var 0) (.cons (.var 1) .nil))) .nil))))) .nil)⟩
def F_need_law_and_reach (i_need_law i_need_reach : Nat) : Fn := ⟨2, 2, [false, false], (.cons (.exp (.call i_need_law (.cons (.var 0) .nil))) (.cons (.exp (.call i_need_reach (.cons (.var 1) .nil))) .nil))⟩
def F_coprimes (i_need_law_and_reach i_coprimes_by : Nat) : Fn := ⟨2, 2, [false, false], (.cons (.exp (.call i_need_law_and_reach (.cons (.var 0) (.cons (.var 1) .nil)))) (.cons (.ret (.bi .tuple (.cons (.call i_coprimes_by (.cons (.var 0) (.cons (.var 1) .nil))) .nil))) .nil))⟩
def F_many_in (i_need_law_and_reach i_sums_by_powers : Nat) : Fn := ⟨2, 2, [false, false], (.cons (.exp (.call i_need_law_and_reach (.cons (.var 0) (.cons (.var 1) .nil)))) (.cons (.ret (.bi .tuple (.cons (.call i_sums_by_powers (.cons (.var 0) (.cons (.var 1) (.cons (.cst (.int 0)) .nil)))) .nil))) .nil))⟩
def F_sums_in (i_need_law_and_reach i_is_within_bounds i_sums_by_powers : Nat) : Fn := ⟨3, 3, [false, false, false], (.cons (.exp (.call i_need_law_and_reach (.cons (.var 0) (.cons (.var 1) .nil)))) (.cons (.ite (.not (.call i_is_within_bounds (.cons (.var 2) (.cons (.cst (.int 0)) (.cons (.glo (.int 20)) .nil))))) (.cons (.exp .bad) .nil) .nil) (.cons (.ret (.bi .tuple (.cons (.call i_sums_by_powers (.cons (.var 0) (.cons (.var 1) (.cons (.var 2) .nil)))) .nil))) .nil)))⟩
def E__law_numbers1 (i__law_times_itself : Nat) : CE := (.tup (.cons (.call i__law_times_itself (.cons (.var 2) (.cons (.var 1) .nil))) (.cons (.cst (.int 1)) .nil)))
def C__law_numbers1 (i__law_times_itself : Nat) : CE := (.lc [2] (.nm 2) (.rng (.cons (.cst (.int 1)) (.cons (.bop .add (.var 0) (.cst (.int 1))) .nil))) .nil (E__law_numbers1 i__law_times_itself))
def F__law_numbers (i__law_times_itself : Nat) : Fn := ⟨3, 2, [false, false], (.cons (.ret (.bi .tuple (.cons (C__law_numbers1 i__law_times_itself) .nil))) .nil)⟩
def E__law_right_v31 (i_lot : Nat) : CE := (.tup (.cons (.bi .len (.cons (.call i_lot (.cons (.var 1) (.cons (.var 9) .nil))) .nil)) (.cons (.cst (.int 1)) .nil)))
def C__law_right_v31 (i_lot : Nat) : CE := (.lc [9] (.nm 9) (.rng (.cons (.cst (.int 1)) (.cons (.bop .add (.var 2) (.cst (.int 1))) .nil))) .nil (E__law_right_v31 i_lot))
def E__law_right_v32 (i__law_times_itself : Nat) : CE := (.call i__law_times_itself (.cons (.var 10) (.cons (.var 3) .nil)))
def C__law_right_v32 (i_lot i__law_times_itself : Nat) : CE := (.lc [10] (.nm 10) (.val (.call i_lot (.cons (.var 1) (.cons (.var 9) .nil)))) .nil (E__law_right_v32 i__law_times_itself))
def E__law_right_v33 (i_lot i__law_times_itself : Nat) : CE := (.tup (.cons (.bi .sum (.cons (C__law_right_v32 i_lot i__law_times_itself) .nil)) (.cons (.cst (.int 1)) .nil)))
def C__law_right_v33 (i_lot i__law_times_itself : Nat) : CE := (.lc [9] (.nm 9) (.rng (.cons (.cst (.int 1)) (.cons (.bop .add (.var 2) (.cst (.int 1))) .nil))) .nil (E__law_right_v33 i_lot i__law_times_itself))
def B__law_right_v31 (i_is_parted i_built i_told_powers : Nat) : CSs := (.cons (.ite (.or (.not (.call i_is_parted (.cons (.var 8) .nil))) (.cmp .ne (.call i_built (.cons (.var 2) (.cons (.call i_told_powers (.cons (.var 8) .nil)) .nil))) (.var 8))) (.cons (.ret (.cst (.bl false))) .nil) .nil) .nil)
def S__law_right_v31 (i_is_parted i_built i_told_powers : Nat) : CS := (.fr (.nm 8) (.val (.lst (.cons (.var 5) (.cons (.var 6) (.cons (.var 7) .nil))))) (B__law_right_v31 i_is_parted i_built i_told_powers))
def F__law_right_v3 (i__law_law i__law_pick i__law_take i__law_numbers i_coprimes i_many_in i_sums_in i_told_back i_sums_over i_product i_marks i_ones i_lot i__law_times_itself i_is_parted i_built i_told_powers i_is_wholly : Nat) : Fn := ⟨11, 1, [false], (.cons (.asg (.tup [(.nm 1), (.nm 2), (.nm 3)]) (.tup (.cons (.call i__law_law (.cons (.var 0) .nil)) (.cons (.call i__law_pick (.cons (.var 0) (.cons (.lst (.cons (.cst (.int 6)) (.cons (.cst (.int 12)) (.cons (.cst (.int 24)) (.cons (.cst (.int 36)) (.cons (.cst (.int 60)) .nil)))))) .nil))) (.cons (.call i__law_take (.cons (.var 0) (.cons (.cst (.int 4)) .nil))) .nil))))) (.cons (.asg (.tup [(.nm 4), (.nm 5), (.nm 6), (.nm 7)]) (.tup (.cons (.call i__law_numbers (.cons (.var 2) (.cons (.cst (.int 1)) .nil))) (.cons (.call i_coprimes (.cons (.var 1) (.cons (.var 2) .nil))) (.cons (.call i_many_in (.cons (.var 1) (.cons (.var 2) .nil))) (.cons (.call i_sums_in (.cons (.var 1) (.cons (.var 2) (.cons (.var 3) .nil)))) .nil)))))) (.cons (.ite (.or (.cmp .ne (.var 5) (.call i_told_back (.cons (.var 1) (.cons (.var 4) .nil)))) (.or (.cmp .ne (.call i_sums_over (.cons (.var 1) (.cons (.var 5) .nil))) (.var 4)) (.cmp .ne (.var 5) (.call i_product (.cons (.var 1) (.cons (.var 4) (.cons (.call i_marks (.cons (.var 1) (.cons (.var 2) .nil))) .nil))))))) (.cons (.ret (.cst (.bl false))) .nil) .nil) (.cons (.ite (.or (.cmp .ne (.var 6) (.call i_sums_over (.cons (.var 1) (.cons (.call i_ones (.cons (.var 2) .nil)) .nil)))) (.or (.cmp .ne (.var 6) (.bi .tuple (.cons (C__law_right_v31 i_lot) .nil))) (.cmp .ne (.var 7) (.call i_sums_over (.cons (.var 1) (.cons (.call i__law_numbers (.cons (.var 2) (.cons (.var 3) .nil))) .nil)))))) (.cons (.ret (.cst (.bl false))) .nil) .nil) (.cons (.ite (.or (.cmp .ne (.var 7) (.bi .tuple (.cons (C__law_right_v33 i_lot i__law_times_itself) .nil))) (.cmp .ne (.call i_sums_in (.cons (.var 1) (.cons (.var 2) (.cons (.cst (.int 0)) .nil)))) (.var 6))) (.cons (.ret (.cst (.bl false))) .nil) .nil) (.cons (S__law_right_v31 i_is_parted i_built i_told_powers) (.cons (.ite (.or (.cmp .ne (.call i_product (.cons (.var 1) (.cons (.var 5) (.cons (.var 6) .nil)))) (.call i_sums_in (.cons (.var 1) (.cons (.var 2) (.cons (.cst (.int 1)) .nil))))) (.cmp .ne (.call i_product (.cons (.var 1) (.cons (.var 6) (.cons (.call i_marks (.cons (.var 1) (.cons (.var 2) .nil))) .nil)))) (.call i_ones (.cons (.var 2) .nil)))) (.cons (.ret (.cst (.bl false))) .nil) .nil) (.cons (.ret (.cmp .is (.call i_is_wholly (.cons (.var 1) (.cons (.call i__law_numbers (.cons (.var 2) (.cons (.var 3) .nil))) .nil))) (.cst (.bl true)))) .nil))))))))⟩
def B_law_v31 (i__law_right : Nat) : CSs := (.cons (.ite (.not (.call i__law_right (.cons (.var 1) .nil))) (.cons (.ret (.cst (.bl false))) .nil) .nil) .nil)
def S_law_v31 (i__law_right : Nat) : CS := (.fr (.nm 2) (.rng (.cons (.bop .add (.cst (.int 4)) (.bi .min2 (.cons (.bi .len (.cons (.var 0) .nil)) (.cons (.cst (.int 8)) .nil)))) .nil)) (B_law_v31 i__law_right))
def F_law_v3 (i__law_begun i__law_right i_coprimes i_sums_in : Nat) : Fn := ⟨5, 1, [false], (.cons (.asg (.nm 1) (.call i__law_begun (.cons (.var 0) .nil))) (.cons (S_law_v31 i__law_right) (.cons (.exp .bad) (.cons (.ret (.and (.cmp .eq (.call i_coprimes (.cons (.var 3) (.cons (.cst (.int 6)) .nil))) (.tup (.cons (.tup (.cons (.cst (.int 1)) (.cons (.cst (.int 1)) .nil))) (.cons (.tup (.cons (.cst (.int 1)) (.cons (.cst (.int 1)) .nil))) (.cons (.tup (.cons (.cst (.int 2)) (.cons (.cst (.int 1)) .nil))) (.cons (.tup (.cons (.cst (.int 2)) (.cons (.cst (.int 1)) .nil))) (.cons (.tup (.cons (.cst (.int 4)) (.cons (.cst (.int 1)) .nil))) (.cons (.tup (.cons (.cst (.int 2)) (.cons (.cst (.int 1)) .nil))) .nil)))))))) (.and (.cmp .eq (.idx (.call i_coprimes (.cons (.var 4) (.cons (.cst (.int 4)) .nil))) (.cst (.int 3))) (.tup (.cons (.cst (.int 3)) (.cons (.cst (.int 1)) .nil)))) (.cmp .eq (.idx (.call i_sums_in (.cons (.var 4) (.cons (.cst (.int 4)) (.cons (.cst (.int 1)) .nil)))) (.cst (.int 3))) (.tup (.cons (.cst (.int 5)) (.cons (.cst (.int 1)) .nil))))))) .nil))))⟩
def B_sum_by1 (i_plus : Nat) : CSs := (.cons (.asg (.nm 1) (.call i_plus (.cons (.var 1) (.cons (.var 2) .nil)))) .nil)
def S_sum_by1 (i_plus : Nat) : CS := (.fr (.nm 2) (.val (.var 0)) (B_sum_by1 i_plus))
def F_sum_by (i_plus : Nat) : Fn := ⟨3, 1, [false], (.cons (.asg (.nm 1) (.glo (.tup [(.int 0), (.int 1)]))) (.cons (S_sum_by1 i_plus) (.cons (.ret (.var 1)) .nil)))⟩
def F_need_reached (i_is_within_bounds : Nat) : Fn := ⟨2, 2, [false, false], (.cons (.ite (.not (.call i_is_within_bounds (.cons (.var 0) (.cons (.cst (.int 1)) (.cons (.bi .len (.cons (.var 1) .nil)) .nil))))) (.cons (.exp .bad) .nil) .nil) .nil)⟩
def B_pairs_by1 (i_plus i_by_both : Nat) : CSs := (.cons (.ite (.cmp .ge (.var 8) (.var 3)) (.cons (.asg (.nm 5) (.call i_plus (.cons (.var 5) (.cons (.call i_by_both (.cons (.idx (.var 1) (.bop .sub (.var 8) (.cst (.int 1)))) (.cons (.idx (.var 2) (.bop .sub (.bop .fdiv (.bop .add (.var 6) (.cst (.int 1))) (.var 8)) (.cst (.int 1)))) .nil))) .nil)))) .nil) .nil) .nil)
def S_pairs_by1 (i_plus i_by_both : Nat) : CS := (.fr (.nm 8) (.val (.var 7)) (B_pairs_by1 i_plus i_by_both))
def B_pairs_by2 (i_plus i_by_both : Nat) : CSs := (.cons (S_pairs_by1 i_plus i_by_both) .nil)
def S_pairs_by2 (i_all_lots i_plus i_by_both : Nat) : CS := (.fr (.tup [(.nm 6), (.nm 7)]) (.enum (.cons (.call i_all_lots (.cons (.var 0) (.cons (.var 4) .nil))) .nil)) (B_pairs_by2 i_plus i_by_both))
def F_pairs_by (i_all_lots i_plus i_by_both : Nat) : Fn := ⟨9, 5, [false, false, false, false, false], (.cons (.asg (.nm 5) (.glo (.tup [(.int 0), (.int 1)]))) (.cons (S_pairs_by2 i_all_lots i_plus i_by_both) (.cons (.ret (.var 5)) .nil)))⟩
def F_sum_to (i_need_table i_need_reached i_sum_by : Nat) : Fn := ⟨2, 2, [false, false], (.cons (.exp (.call i_need_table (.cons (.var 0) (.cons (.cst (.str "table")) .nil)))) (.cons (.exp (.call i_need_reached (.cons (.var 1) (.cons (.var 0) .nil)))) (.cons (.ret (.call i_sum_by (.cons (.sli (.var 0) .nil (.cons (.var 1) .nil)) .nil))) .nil)))⟩
def B_sums_of1 (i_plus : Nat) : CSs := (.cons (.exp (.app 1 (.ite (.var 1) (.call i_plus (.cons (.idx (.var 1) (.neg (.cst (.int 1)))) (.cons (.var 2) .nil))) (.var 2)))) .nil)
def S_sums_of1 (i_plus : Nat) : CS := (.fr (.nm 2) (.val (.var 0)) (B_sums_of1 i_plus))
def F_sums_of (i_need_table i_plus : Nat) : Fn := ⟨3, 1, [false], (.cons (.exp (.call i_need_table (.cons (.var 0) (.cons (.cst (.str "table")) .nil)))) (.cons (.asg (.nm 1) (.lst .nil)) (.cons (S_sums_of1 i_plus) (.cons (.ret (.bi .tuple (.cons (.var 1) .nil))) .nil))))⟩
def E_steps_of1 (i_less : Nat) : CE := (.call i_less (.cons (.var 2) (.cons (.var 1) .nil)))
def C_steps_of1 (i_less : Nat) : CE := (.lc [1, 2] (.tup [(.nm 1), (.nm 2)]) (.zip (.cons .bad (.cons (.var 0) .nil))) .nil (E_steps_of1 i_less))
def F_steps_of (i_need_table i_less : Nat) : Fn := ⟨3, 1, [false], (.cons (.exp (.call i_need_table (.cons (.var 0) (.cons (.cst (.str "table")) .nil)))) (.cons (.ret (.bi .tuple (.cons (C_steps_of1 i_less) .nil))) .nil))⟩
def F_need_pair_to (i_need_law i_need_table i_need_other i_need_reached : Nat) : Fn := ⟨4, 4, [false, false, false, false], (.cons (.exp (.call i_need_law (.cons (.var 0) .nil))) (.cons (.exp (.call i_need_table (.cons (.var 1) (.cons (.cst (.str "one")) .nil)))) (.cons (.exp (.call i_need_other (.cons (.var 1) (.cons (.var 2) .nil)))) (.cons (.exp (.call i_need_reached (.cons (.var 3) (.cons (.var 2) .nil)))) .nil))))⟩
def F_pair_sum (i_need_pair_to i_pairs_by : Nat) : Fn := ⟨4, 4, [false, false, false, false], (.cons (.exp (.call i_need_pair_to (.cons (.var 0) (.cons (.var 1) (.cons (.var 2) (.cons (.var 3) .nil)))))) (.cons (.ret (.call i_pairs_by (.cons (.var 0) (.cons (.var 1) (.cons (.var 2) (.cons (.cst (.int 1)) (.cons (.var 3) .nil))))))) .nil))⟩
def E_plain_by1 : CE := (.bop .mul (.tup (.cons (.cst (.int 1)) .nil)) (.var 0))
def C_plain_by1 : CE := (.lc [0] (.nm 0) (.val (.glo (.tup [(.int 6), (.int 4), (.int 2), (.int 2)]))) .nil E_plain_by1)
def F_plain_by : Fn := ⟨1, 0, [], (.cons (.ret (.bi .tuple (.cons C_plain_by1 .nil))) .nil)⟩
def E_floors_by1 (i_by_both : Nat) : CE := (.call i_by_both (.cons (.idx (.var 0) (.bop .sub (.var 4) (.cst (.int 1)))) (.cons (.idx (.var 1) (.bop .sub (.bop .fdiv (.var 3) (.var 4)) (.cst (.int 1)))) .nil)))
def C_floors_by1 (i_by_both : Nat) : CE := (.lc [4] (.nm 4) (.rng (.cons (.cst (.int 1)) (.cons (.bop .add (.var 3) (.cst (.int 1))) .nil))) .nil (E_floors_by1 i_by_both))
def B_floors_by1 (i_sum_by i_by_both : Nat) : CSs := (.cons (.exp (.app 2 (.call i_sum_by (.cons (C_floors_by1 i_by_both) .nil)))) .nil)
def S_floors_by1 (i_sum_by i_by_both : Nat) : CS := (.fr (.nm 3) (.rng (.cons (.cst (.int 1)) (.cons (.bop .add (.bi .len (.cons (.var 0) .nil)) (.cst (.int 1))) .nil))) (B_floors_by1 i_sum_by i_by_both))
def F_floors_by (i_sum_by i_by_both : Nat) : Fn := ⟨5, 2, [false, false], (.cons (.asg (.nm 2) (.lst .nil)) (.cons (S_floors_by1 i_sum_by i_by_both) (.cons (.ret (.bi .tuple (.cons (.var 2) .nil))) .nil)))⟩
def F_plain_law : Fn := ⟨0, 0, [], (.cons (.ret .bad) .nil)⟩
def F_floor_sums (i_need_table i_need_other i_floors_by : Nat) : Fn := ⟨2, 2, [false, false], (.cons (.exp (.call i_need_table (.cons (.var 0) (.cons (.cst (.str "one")) .nil)))) (.cons (.exp (.call i_need_other (.cons (.var 0) (.cons (.var 1) .nil)))) (.cons (.ret (.call i_floors_by (.cons (.var 0) (.cons (.var 1) .nil)))) .nil)))⟩
def F_selves (i_need_reach i_selves_by : Nat) : Fn := ⟨1, 1, [false], (.cons (.exp (.call i_need_reach (.cons (.var 0) .nil))) (.cons (.ret (.bi .tuple (.cons (.call i_selves_by (.cons (.var 0) .nil)) .nil))) .nil))⟩
def F_is_perfect (i_need_law i_need_number i_lot_by : Nat) : Fn := ⟨2, 2, [false, false], (.cons (.exp (.call i_need_law (.cons (.var 0) .nil))) (.cons (.exp (.call i_need_number (.cons (.var 1) (.cons (.cst (.str "n")) .nil)))) (.cons (.ret (.cmp .eq (.bi .sum (.cons (.call i_lot_by (.cons (.var 0) (.cons (.var 1) .nil))) .nil)) (.bop .mul (.cst (.int 2)) (.var 1)))) .nil)))⟩
def E__law_right_v41 (i_lot : Nat) : CE := (.bi .len (.cons (.call i_lot (.cons (.var 1) (.cons (.var 6) .nil))) .nil))
def C__law_right_v41 (i_lot : Nat) : CE := (.lc [6] (.nm 6) (.rng (.cons (.cst (.int 1)) (.cons (.bop .add (.var 3) (.cst (.int 1))) .nil))) .nil (E__law_right_v41 i_lot))
def F__law_right_v4 (i__law_law i__law_pick i__law_take i_sum_to i_many_in i_pair_sum i_ones i_coprimes i_selves i_marks i_sums_in i_lot i_sums_of i_steps_of i_told_back i_sums_over i_floor_sums i_is_perfect : Nat) : Fn := ⟨7, 1, [false], (.cons (.asg (.tup [(.nm 1), (.nm 2)]) (.tup (.cons (.call i__law_law (.cons (.var 0) .nil)) (.cons (.call i__law_pick (.cons (.var 0) (.cons (.lst (.cons (.cst (.int 6)) (.cons (.cst (.int 12)) (.cons (.cst (.int 24)) (.cons (.cst (.int 40)) .nil))))) .nil))) .nil)))) (.cons (.asg (.nm 3) (.bop .add (.cst (.int 1)) (.call i__law_take (.cons (.var 0) (.cons (.var 2) .nil))))) (.cons (.ite (.or (.cmp .ne (.call i_sum_to (.cons (.call i_many_in (.cons (.var 1) (.cons (.var 2) .nil))) (.cons (.var 3) .nil))) (.call i_pair_sum (.cons (.var 1) (.cons (.call i_ones (.cons (.var 2) .nil)) (.cons (.call i_ones (.cons (.var 2) .nil)) (.cons (.var 3) .nil)))))) (.cmp .ne (.call i_sum_to (.cons (.call i_coprimes (.cons (.var 1) (.cons (.var 2) .nil))) (.cons (.var 3) .nil))) (.call i_pair_sum (.cons (.var 1) (.cons (.call i_selves (.cons (.var 2) .nil)) (.cons (.call i_marks (.cons (.var 1) (.cons (.var 2) .nil))) (.cons (.var 3) .nil))))))) (.cons (.ret (.cst (.bl false))) .nil) .nil) (.cons (.ite (.or (.cmp .ne (.call i_sum_to (.cons (.call i_sums_in (.cons (.var 1) (.cons (.var 2) (.cons (.cst (.int 1)) .nil)))) (.cons (.var 3) .nil))) (.call i_pair_sum (.cons (.var 1) (.cons (.call i_selves (.cons (.var 2) .nil)) (.cons (.call i_ones (.cons (.var 2) .nil)) (.cons (.var 3) .nil)))))) (.cmp .ne (.call i_sum_to (.cons (.call i_many_in (.cons (.var 1) (.cons (.var 2) .nil))) (.cons (.var 3) .nil))) (.tup (.cons (.bi .sum (.cons (C__law_right_v41 i_lot) .nil)) (.cons (.cst (.int 1)) .nil))))) (.cons (.ret (.cst (.bl false))) .nil) .nil) (.cons (.ite (.or (.cmp .ne (.call i_sums_of (.cons (.call i_ones (.cons (.var 2) .nil)) .nil)) (.call i_selves (.cons (.var 2) .nil))) (.or (.cmp .ne (.call i_steps_of (.cons (.call i_selves (.cons (.var 2) .nil)) .nil)) (.call i_ones (.cons (.var 2) .nil))) (.cmp .ne (.call i_told_back (.cons (.var 1) (.cons (.call i_sums_over (.cons (.var 1) (.cons (.call i_sums_of (.cons (.call i_selves (.cons (.var 2) .nil)) .nil)) .nil))) .nil))) (.call i_sums_of (.cons (.call i_selves (.cons (.var 2) .nil)) .nil))))) (.cons (.ret (.cst (.bl false))) .nil) .nil) (.cons (.asg (.nm 4) .bad) (.cons (.ite (.or (.cmp .ne (.call i_floor_sums (.cons (.call i_marks (.cons (.var 4) (.cons (.var 2) .nil))) (.cons (.call i_selves (.cons (.var 2) .nil)) .nil))) (.call i_ones (.cons (.var 2) .nil))) (.cmp .ne (.call i_floor_sums (.cons (.call i_ones (.cons (.var 2) .nil)) (.cons (.call i_selves (.cons (.var 2) .nil)) .nil))) (.call i_sums_of (.cons (.call i_many_in (.cons (.var 4) (.cons (.var 2) .nil))) .nil)))) (.cons (.ret (.cst (.bl false))) .nil) .nil) (.cons (.asg (.nm 5) (.idx (.call i_sums_in (.cons (.var 1) (.cons (.var 2) (.cons (.cst (.int 1)) .nil)))) (.bop .sub (.var 3) (.cst (.int 1))))) (.cons (.ret (.and (.cmp .eq (.call i_is_perfect (.cons (.var 1) (.cons (.var 3) .nil))) (.cmp .eq (.var 5) (.tup (.cons (.bop .mul (.cst (.int 2)) (.var 3)) (.cons (.cst (.int 1)) .nil))))) (.cmp .eq (.var 5) (.tup (.cons (.bi .sum (.cons (.call i_lot (.cons (.var 1) (.cons (.var 3) .nil))) .nil)) (.cons (.cst (.int 1)) .nil)))))) .nil)))))))))⟩
def B_law_v41 (i__law_right : Nat) : CSs := (.cons (.ite (.not (.call i__law_right (.cons (.var 1) .nil))) (.cons (.ret (.cst (.bl false))) .nil) .nil) .nil)
def S_law_v41 (i__law_right : Nat) : CS := (.fr (.nm 2) (.rng (.cons (.bop .add (.cst (.int 5)) (.bi .min2 (.cons (.bi .len (.cons (.var 0) .nil)) (.cons (.cst (.int 10)) .nil)))) .nil)) (B_law_v41 i__law_right))
def F_law_v4 (i__law_begun i__law_right i_sum_to i_many_in i_coprimes : Nat) : Fn := ⟨3, 1, [false], (.cons (.asg (.nm 1) (.call i__law_begun (.cons (.var 0) .nil))) (.cons (S_law_v41 i__law_right) (.cons (.ret (.and (.cmp .eq (.call i_sum_to (.cons (.call i_many_in (.cons .bad (.cons (.cst (.int 10)) .nil))) (.cons (.cst (.int 10)) .nil))) (.tup (.cons (.cst (.int 27)) (.cons (.cst (.int 1)) .nil)))) (.cmp .eq (.call i_sum_to (.cons (.call i_coprimes (.cons .bad (.cons (.cst (.int 10)) .nil))) (.cons (.cst (.int 10)) .nil))) (.tup (.cons (.cst (.int 32)) (.cons (.cst (.int 1)) .nil)))))) .nil)))⟩
end Lv
namespace Lv
open PySem
def drD (w : Int) (cs : List Int) (c : Int) : D := .dic [(.str "whole", .int w), (.str "cells", .lst (cs.map .int)), (.str "count", .int c)]
theorem n1 : (Str.ofString "whole" = Str.ofString "count") = False := eq_false (by decide)
theorem n2 : (Str.ofString "cells" = Str.ofString "count") = False := eq_false (by decide)
theorem n3 : (Str.ofString "whole" = Str.ofString "cells") = False := eq_false (by decide)
theorem n4 : (Str.ofString "cells" = Str.ofString "whole") = False := eq_false (by decide)
theorem n5 : (Str.ofString "count" = Str.ofString "whole") = False := eq_false (by decide)
theorem n6 : (Str.ofString "count" = Str.ofString "cells") = False := eq_false (by decide)
def MixedOk (C : List Fn) (i : Nat) : Prop := fcOf C i = [false] ∧ ∀ k, 1 ≤ k → ∀ (w : Int) (cs : List Int) (c : Int), 0 ≤ c → cs.length ≤ 1000 → ∃ r : Int, 0 ≤ r ∧ callF C k i [.ow (drD w cs c)] = .ret (.sh (.int r)) [.ow (drD w cs (c + 1))]
theorem mulOk_l {a b : Int} (h : ibits a ≤ 64) : mulOk a b = true := by
  unfold mulOk
  have : decide (ibits a > 64) = false := decide_eq_false (by omega)
  rw [this]
  rfl
theorem mulOk_r {a b : Int} (h : ibits b ≤ 64) : mulOk a b = true := by
  unfold mulOk
  have : decide (ibits b > 64) = false := decide_eq_false (by omega)
  rw [this]
  simp
theorem mixed_step {fc : Nat → List Bool} {call : Nat → Env → FR} (d0 : Sl) (r0 z : Int) (s : Sl) (h0 : 0 ≤ r0) : ∃ r : Int, 0 ≤ r ∧ asgThen (asgD [d0, .sh (.int r0), s] (.nm 2) (.int z)) (fun ρ => exL fc call B__law_mixed1 ρ) = .ok .nx [d0, .sh (.int r), .sh (.int z)] := by
  have mk : mulOk (r0 + z) 1099511628211 = true := mulOk_r (by decide)
  have m0 : 0 ≤ ((r0 + z) * 1099511628211).fmod 2305843009213693951 := Int.fmod_nonneg_of_pos _ (by decide)
  have dv : Builtin.divisionGoesByPylong (((r0 + z) * 1099511628211).fmod 2305843009213693951) 131072 = false := PyProof.noPylong_small (by decide)
  refine ⟨_, ?_, by
    simp [B__law_mixed1, asgD, thenS, exL, exS, evE, evVs, R.bind, slot, val, ofO, bop, bi, fresh, vals, mk, dv, asgV, put1]
    rfl⟩
  exact Int.add_nonneg m0 (Int.fdiv_nonneg m0 (by decide))
theorem mixed_ok {C : List Fn} {i : Nat} (h : C[i]? = some F__law_mixed) : MixedOk C i := by
  refine ⟨by unfold fcOf; rw [h]; rfl, fun k hk w cs c hc hl => ?_⟩
  obtain ⟨k, rfl⟩ : ∃ j, k = j + 1 := ⟨k - 1, by omega⟩
  rw [callF_eq h rfl]
  have hf : fits (cs.length + 1) = true := by unfold fits; exact decide_eq_true (by omega)
  obtain ⟨ρ', e1, e2⟩ := frGo_mem (body := frT (fcOf C) (callF C k) (.nm 2) B__law_mixed1)
    (fun ρ => ∃ (r : Int) (s : Sl), 0 ≤ r ∧ ρ = [.ow (drD w cs (c + 1)), .sh (.int r), s]) (xs := cs.map .int ++ [.int (c + 1)]) (ρ := [.ow (drD w cs (c + 1)), .sh (.int (1469598103934665603 + 97 * (c + 1))), .un]) ⟨_, _, by omega, rfl⟩
    (fun x hx ρ ⟨r, s, h0, e⟩ => by
      subst e
      obtain ⟨z, rfl⟩ : ∃ z : Int, x = .int z := by
        rcases List.mem_append.mp hx with hx | hx
        · obtain ⟨z, _, e⟩ := List.mem_map.mp hx
          exact ⟨z, e.symm⟩
        · exact ⟨c + 1, by simpa using hx⟩
      obtain ⟨r', h1, e1⟩ := mixed_step (fc := fcOf C) (call := callF C k) (.ow (drD w cs (c + 1))) r z s h0
      exact ⟨_, e1, r', _, h1, rfl⟩)
  obtain ⟨r, s, h0, rfl⟩ := e2
  refine ⟨r, h0, ?_⟩
  have mk : mulOk 97 (c + 1) = true := mulOk_l (by decide)
  simp only [drD] at e1
  simp [F__law_mixed, S__law_mixed1, drD, ↓exS_wh, ↓exS_fr, exL, exS, evE, evEs, evI, R.bind, slot, val, ofO, bop, idx, D.ky, dlook, fresh, letgo, putD, dput, asgV, put1, mk, items, hf, thenS, n1, n2, n3, n4, n5, n6, e1, fin, finF, outsOf]
def TakeOk (C : List Fn) (i : Nat) : Prop := fcOf C i = [false, false] ∧ ∀ k, 2 ≤ k → ∀ (w : Int) (cs : List Int) (c a : Int), 0 ≤ c → cs.length ≤ 1000 → a ≤ 2 ^ 50 →
  ∃ r w' c' : Int, 0 ≤ r ∧ (1 ≤ a → r < a) ∧ 0 ≤ c' ∧ callF C k i [.ow (drD w cs c), .sh (.int a)] = .ret (.sh (.int r)) [.ow (drD w' cs c'), .sh (.int a)]
theorem take_ok {C : List Fn} {i im : Nat} (h : C[i]? = some (F__law_take im)) (hm : MixedOk C im) : TakeOk C i := by
  refine ⟨by unfold fcOf; rw [h]; rfl, fun k hk w cs c a hc hl ha => ?_⟩
  obtain ⟨k, rfl⟩ : ∃ j, k = j + 2 := ⟨k - 2, by omega⟩
  rw [callF_eq h rfl]
  by_cases h2 : a < 2
  · refine ⟨0, w, c, by omega, fun _ => by omega, hc, ?_⟩
    simp [F__law_take, S__law_take1, drD, ↓exS_wh, ↓exS_fr, exL, exS, evE, R.bind, slot, val, ofO, cmp, rTruth, truth, h2, fin, finF, outsOf]
  · have a0 : 0 < a := by omega
    have az : a ≠ 0 := by omega
    by_cases hw : 0 < w
    · refine ⟨w.fmod a, w.fdiv a, c, Int.fmod_nonneg_of_pos _ a0, fun _ => Int.fmod_lt_of_pos _ a0, hc, ?_⟩
      have dv : Builtin.divisionGoesByPylong w a = false := by
        refine PyProof.noPylong_of_log2 (Nat.lt_of_le_of_lt (m := 63) ?_ (by decide))
        refine Nat.le_of_lt_succ ((Nat.log2_lt (by omega)).mpr ?_)
        have e : (2 : Nat) ^ 64 = 18446744073709551616 := by decide
        have e2 : (2 : Int) ^ 50 = 1125899906842624 := by decide
        rw [e2] at ha
        show a.natAbs < 2 ^ 64
        rw [e]
        omega
      simp [F__law_take, S__law_take1, drD, ↓exS_wh, ↓exS_fr, exL, exS, evE, evVs, R.bind, slot, val, vals, ofO, bi, bop, cmp, idx, D.ky, dlook, fresh, rTruth, truth, h2, hw, az, dv, letgo, putD, dput, asgV, put1, thenS, n1, n2, n3, n4, n5, n6, fin, finF, outsOf]
    · obtain ⟨r, r0, e⟩ := hm.2 (k + 1) (by omega) w cs c hc hl
      refine ⟨(r.fdiv 1024).fmod a, w, c + 1, Int.fmod_nonneg_of_pos _ a0, fun _ => Int.fmod_lt_of_pos _ a0, by omega, ?_⟩
      simp only [drD] at e
      have wh : whGo (cndR (fcOf C) (callF C (k + 1)) W__law_take1) (exL (fcOf C) (callF C (k + 1)) (B__law_take1 im)) wFuel [.ow (.dic [(.str "whole", .int w), (.str "cells", .lst (cs.map .int)), (.str "count", .int (c + 1))]), .sh (.int a), .sh (.int r)] = .ok .nx [.ow (.dic [(.str "whole", .int w), (.str "cells", .lst (cs.map .int)), (.str "count", .int (c + 1))]), .sh (.int a), .sh (.int r)] := by
        refine wh_stop ?_
        have e2 : (2 : Int) ^ 50 = 1125899906842624 := by decide
        rw [e2] at ha
        have : ¬ (1125899906842624 < a) := by omega
        simp [cndR, W__law_take1, evE, R.bind, slot, val, ofO, bop, cmp, fresh, rTruth, truth, this]
      have dv : Builtin.divisionGoesByPylong r 1024 = false := PyProof.noPylong_small (by decide)
      simp [F__law_take, S__law_take1, drD, ↓exS_wh, ↓exS_fr, exL, exS, evE, evVs, R.bind, slot, val, vals, ofO, bi, bop, cmp, idx, D.ky, dlook, fresh, rTruth, truth, h2, hw, az, dv, letgo, lend, back, hm.1, sole, e, wh, asgV, put1, thenS, n1, n2, n3, n4, n5, n6, fin, finF, outsOf]
def PickOk (C : List Fn) (i : Nat) : Prop := fcOf C i = [false, false] ∧ ∀ k, 3 ≤ k → ∀ (w : Int) (cs : List Int) (c : Int) (xs : List D) (d : D), (d = .lst xs ∨ d = .tup xs) → 0 ≤ c → cs.length ≤ 1000 → xs ≠ [] → xs.length ≤ 2 ^ 50 →
  ∃ (j : Nat) (w' c' : Int) (x : D), xs[j]? = some x ∧ 0 ≤ c' ∧ callF C k i [.ow (drD w cs c), .sh d] = .ret (.sh x) [.ow (drD w' cs c'), .sh d]
theorem ixN_of {n j : Nat} (h : j < n) : L2.ixN n (j : Int) = some j := by
  unfold L2.ixN
  rw [if_pos (by omega), if_pos (by omega), Int.toNat_natCast]
theorem pick_ok {C : List Fn} {i it : Nat} (h : C[i]? = some (F__law_pick it)) (ht : TakeOk C it) : PickOk C i := by
  refine ⟨by unfold fcOf; rw [h]; rfl, fun k hk w cs c xs d hd hc hl hx hn => ?_⟩
  obtain ⟨k, rfl⟩ : ∃ j, k = j + 3 := ⟨k - 3, by omega⟩
  rw [callF_eq h rfl]
  have hpos : 0 < xs.length := List.length_pos_iff.mpr hx
  obtain ⟨r, w', c', r0, r1, c0, e⟩ := ht.2 (k + 2) (by omega) w cs c xs.length hc hl (by exact_mod_cast hn)
  have hr := r1 (by omega)
  obtain ⟨j, rfl⟩ := Int.eq_ofNat_of_zero_le r0
  have hj : j < xs.length := by omega
  refine ⟨j, w', c', xs[j], List.getElem?_eq_getElem hj, c0, ?_⟩
  have ei := ixN_of hj
  simp only [drD] at e
  rcases hd with rfl | rfl <;>
  simp [F__law_pick, drD, exL, exS, evE, evVs, R.bind, slot, val, vals, ofO, bi, idx, fresh, lend, back, ht.1, sole, e, ei, hj, fin, finF, outsOf]
theorem ibits_lt {i : Int} {n : Nat} (h : ibits i ≤ n) : i.natAbs < 2 ^ n := by
  unfold ibits Builtin.Int.intBits at h
  split at h
  · rename_i hz
    have : i = 0 := eq_of_beq hz
    subst this
    exact Nat.two_pow_pos n
  · rename_i hz
    have hne : i.natAbs ≠ 0 := fun z => hz (by rw [Int.natAbs_eq_zero.mp z]; rfl)
    exact (Nat.log2_lt hne).mp (by omega)
theorem ibits_le {i : Int} {n : Nat} (h : i.natAbs < 2 ^ n) : ibits i ≤ n := by
  unfold ibits Builtin.Int.intBits
  split
  · exact Nat.zero_le _
  · rename_i hz
    have hne : i.natAbs ≠ 0 := fun z => hz (by rw [Int.natAbs_eq_zero.mp z]; rfl)
    have := (Nat.log2_lt hne).mpr h
    omega
theorem mulOk_b {a b : Int} {m n : Nat} (h1 : a.natAbs < 2 ^ m) (h2 : b.natAbs < 2 ^ n) (h : m + n ≤ 134217728) : mulOk a b = true := by
  unfold mulOk
  have := ibits_le h1
  have := ibits_le h2
  have : decide (ibits a + ibits b > 134217728) = false := decide_eq_false (by omega)
  rw [this, Bool.and_false]
  rfl
def BegunOk (C : List Fn) (i : Nat) : Prop := fcOf C i = [false] ∧ ∀ k, 1 ≤ k → ∀ ns : List Int, ns.length ≤ 63 → (∀ z ∈ ns, Builtin.Int.intBits z ≤ 1048576) → ∃ w, callF C k i [.sh (.scr ns)] = .ret (.ow (drD w ns 0)) [.sh (.scr ns)]
theorem begun_step {fc : Nat → List Bool} {call : Nat → Env → FR} {B n : Nat} (d0 : Sl) (w z : Int) (ds : List D) (s : Sl) (w0 : 0 ≤ w) (hw : w + 1 ≤ ((2 ^ (B * n) : Nat) : Int)) (hz : z.natAbs < 2 ^ B) (hB : B * n + B ≤ 134217728) (hl : ds.length < 16777216) :
    ∃ w' : Int, 0 ≤ w' ∧ w' + 1 ≤ ((2 ^ (B * (n + 1)) : Nat) : Int) ∧ frT fc call (.nm 3) B__law_begun1 (.int z) [d0, .sh (.int w), .ow (.lst ds), s] = .ok .nx [d0, .sh (.int w'), .ow (.lst (ds ++ [.int z])), .sh (.int z)] := by
  have e2 : (2 ^ (B * (n + 1)) : Nat) = 2 ^ (B * n) * 2 ^ B := by rw [Nat.mul_add, Nat.mul_one, Nat.pow_add]
  have p1 : 0 < 2 ^ B := Nat.two_pow_pos B
  generalize hP : 2 ^ (B * n) = P at *
  generalize hQ : 2 ^ B = Q at *
  by_cases h : (1000000000000000000 : Int) ≤ z
  · refine ⟨w * (z - 1000000000000000000 + 1) + (z - 1000000000000000000), ?_, ?_, ?_⟩
    · exact Int.add_nonneg (Int.mul_nonneg w0 (by omega)) (by omega)
    · have e3 : w * (z - 1000000000000000000 + 1) + (z - 1000000000000000000) + 1 = (w + 1) * (z - 1000000000000000000 + 1) := by
        rw [Int.add_mul, Int.one_mul]; omega
      rw [e3, e2]
      push_cast
      have hq : z - 1000000000000000000 + 1 ≤ (Q : Int) := by omega
      exact Int.mul_le_mul hw hq (by omega) (by omega)
    · have mk : mulOk w (z - 1000000000000000000 + 1) = true := mulOk_b (m := B * n) (n := B) (by rw [hP]; omega) (by rw [hQ]; omega) hB
      simp [frT, B__law_begun1, asgD, thenS, exL, exS, evE, R.bind, slot, val, ofO, bop, cmp, isTy, plainD, rTruth, truth, fresh, asgV, put1, letgo, h, mk, hl]
  · refine ⟨w, w0, ?_, ?_⟩
    · rw [e2]
      have : P ≤ P * Q := Nat.le_mul_of_pos_right P p1
      omega
    · simp [frT, B__law_begun1, asgD, thenS, exL, exS, evE, R.bind, slot, val, ofO, bop, cmp, isTy, plainD, rTruth, truth, fresh, asgV, put1, letgo, h, hl]
theorem begun_loop {fc : Nat → List Bool} {call : Nat → Env → FR} {B : Nat} (d0 : Sl) : ∀ (zs : List Int) (n : Nat) (w : Int) (ds : List D) (s : Sl), 0 ≤ w → w + 1 ≤ ((2 ^ (B * n) : Nat) : Int) → (∀ z ∈ zs, z.natAbs < 2 ^ B) → B * (n + zs.length) + B ≤ 134217728 → ds.length + zs.length < 16777216 →
    ∃ w' s', frGo (frT fc call (.nm 3) B__law_begun1) (zs.map .int) [d0, .sh (.int w), .ow (.lst ds), s] = .ok .nx [d0, .sh (.int w'), .ow (.lst (ds ++ zs.map .int)), s']
  | [], n, w, ds, s, _, _, _, _, _ => ⟨w, s, by rw [List.map_nil, List.append_nil]; rfl⟩
  | z :: zs, n, w, ds, s, w0, hw, hz, hB, hl => by
    simp only [List.length_cons] at hB hl
    have hB1 : B * n + B ≤ 134217728 := by
      have : B * n ≤ B * (n + (zs.length + 1)) := Nat.mul_le_mul_left B (by omega)
      omega
    obtain ⟨w1, a1, a2, a3⟩ := begun_step (fc := fc) (call := call) d0 w z ds s w0 hw (hz z List.mem_cons_self) hB1 (by omega)
    obtain ⟨w2, s2, e⟩ := begun_loop (fc := fc) (call := call) d0 zs (n + 1) w1 (ds ++ [.int z]) (.sh (.int z)) a1 a2 (fun y hy => hz y (List.mem_cons_of_mem _ hy)) (by rw [show n + 1 + zs.length = n + (zs.length + 1) by omega]; exact hB) (by rw [List.length_append]; simp; omega)
    refine ⟨w2, s2, ?_⟩
    rw [List.map_cons]
    unfold frGo
    rw [a3]
    show frGo _ _ _ = _
    rw [e, List.append_assoc]
    rfl
theorem begun_ok {C : List Fn} {i : Nat} (h : C[i]? = some F__law_begun) : BegunOk C i := by
  refine ⟨by unfold fcOf; rw [h]; rfl, fun k hk ns hn hb => ?_⟩
  obtain ⟨k, rfl⟩ : ∃ j, k = j + 1 := ⟨k - 1, by omega⟩
  rw [callF_eq h rfl]
  obtain ⟨w, s, e⟩ := begun_loop (fc := fcOf C) (call := callF C k) (B := 1048576) (.sh (.scr ns)) ns 0 0 [] .un (by omega) (by simp) (fun z hz => ibits_lt (hb z hz)) (by omega) (by simp; omega)
  refine ⟨w, ?_⟩
  simp only [List.nil_append] at e
  simp [F__law_begun, S__law_begun1, drD, ↓exS_fr, exL, exS, evE, evEs, e, evPs, evKs, evI, R.bind, slot, val, ofO, parE, letgo, items, D.ky, dmerge, dput, fresh, n1, n2, n3, n4, n5, n6, fin, finF, outsOf]
end Lv
namespace Lv
open PySem
def isW : D → Bool
  | .int _ => true
  | _ => false
def IsWhole (C : List Fn) (i : Nat) : Prop := fcOf C i = [false] ∧ ∀ k, 1 ≤ k → ∀ d, plainD d = true → callF C k i [.sh d] = .ret (.sh (.bl (isW d))) [.sh d]
theorem is_whole_ok {C : List Fn} {i : Nat} (h : C[i]? = some F_is_whole) : IsWhole C i := by
  refine ⟨by unfold fcOf; rw [h]; rfl, fun k hk d hd => ?_⟩
  obtain ⟨k, rfl⟩ : ∃ j, k = j + 1 := ⟨k - 1, by omega⟩
  rw [callF_eq h rfl]
  cases d <;> first | rfl | cases hd
def IsWithin (C : List Fn) (i : Nat) : Prop := fcOf C i = [false, false, false] ∧ ∀ k, 2 ≤ k → ∀ x a b : Int, callF C k i [.sh (.int x), .sh (.int a), .sh (.int b)] = .ret (.sh (.bl (decide (a ≤ x) && decide (x ≤ b)))) [.sh (.int x), .sh (.int a), .sh (.int b)]
theorem is_within_ok {C : List Fn} {i iw : Nat} (h : C[i]? = some (F_is_within_bounds iw)) (hw : IsWhole C iw) : IsWithin C i := by
  refine ⟨by unfold fcOf; rw [h]; rfl, fun k hk x a b => ?_⟩
  obtain ⟨k, rfl⟩ : ∃ j, k = j + 2 := ⟨k - 2, by omega⟩
  rw [callF_eq h rfl]
  have e := hw.2 (k + 1) (by omega) (.int x) rfl
  simp [F_is_within_bounds, exL, exS, evE, evVs, R.bind, slot, lend, hw.1, e, isW, rTruth, val, truth, ofO, cmp, back, fin, finF, outsOf]
  by_cases h : a ≤ x <;> simp [h]
def rowD (r : List Nat) : D := .tup (r.map fun (n : Nat) => .int n)
def nextB (r : List Nat) (t : Nat) : Bool := decide (t = r.length + 1) || (decide ((r.length + 1) % t = 0) && decide (r[r.length - t]? = some t))
def NextOk (C : List Fn) (i : Nat) : Prop := fcOf C i = [false, false] ∧ ∀ k, 1 ≤ k → ∀ (r : List Nat) (t : Nat), 1 ≤ t → t ≤ r.length + 1 → callF C k i [.sh (rowD r), .sh (.int t)] = .ret (.sh (.bl (nextB r t))) [.sh (rowD r), .sh (.int t)]
theorem next_ok {C : List Fn} {i : Nat} (h : C[i]? = some F_is_next) : NextOk C i := by
  refine ⟨by unfold fcOf; rw [h]; rfl, fun k hk r t h1 h2 => ?_⟩
  obtain ⟨k, rfl⟩ : ∃ j, k = j + 1 := ⟨k - 1, by omega⟩
  rw [callF_eq h rfl]
  by_cases e : t = r.length + 1
  · have e' : ((t : Int) = (r.length : Int) + 1) := by omega
    simp [F_is_next, rowD, exL, exS, evE, evVs, R.bind, slot, val, vals, ofO, bi, bop, cmp, deq_int, e', rTruth, truth, asgV, put1, thenS, fresh, fin, finF, outsOf, nextB, e]
  · have e' : ¬ ((t : Int) = (r.length : Int) + 1) := by omega
    have tz : ¬ t = 0 := by omega
    have em : ((r.length : Int) + 1).fmod t = (((r.length + 1) % t : Nat) : Int) := by
      rw [Int.fmod_eq_emod_of_nonneg _ (by omega)]
      push_cast
      rfl
    have ei : (r.length : Int) + 1 - t - 1 = ((r.length - t : Nat) : Int) := by omega
    have hj : r.length - t < r.length := by omega
    have ex := L2.ixN r.length ((r.length : Int) + 1 - t - 1)
    have en : L2.ixN r.length ((r.length : Int) + 1 - t - 1) = some (r.length - t) := by rw [ei]; exact ixN_of hj
    by_cases m : (r.length + 1) % t = 0
    · simp [F_is_next, rowD, exL, exS, evE, evVs, R.bind, slot, val, vals, ofO, bi, bop, cmp, deq_int, e', rTruth, truth, asgV, put1, thenS, fresh, fin, finF, outsOf, nextB, e, tz, em, m, idx, en, hj]
      omega
    · have m' : ¬ (((r.length : Int) + 1) % t = 0) := by
        intro z
        apply m
        have : (((r.length + 1) % t : Nat) : Int) = 0 := by push_cast; exact z
        omega
      simp [F_is_next, rowD, exL, exS, evE, evVs, R.bind, slot, val, vals, ofO, bi, bop, cmp, deq_int, e', rTruth, truth, asgV, put1, thenS, fresh, fin, finF, outsOf, nextB, e, tz, em, m, m']
theorem enum_row (r : List Nat) : ((r.map fun (n : Nat) => D.int n).mapIdx fun i d => D.tup [.int i, d]) = (r.zipIdx).map fun q => D.tup [.int (q.2 : Nat), .int (q.1 : Nat)] := by
  apply List.ext_getElem?
  intro i
  simp only [List.getElem?_mapIdx, List.getElem?_map, List.getElem?_zipIdx]
  cases r[i]? <;> simp
theorem cut_take {r : List Nat} {i : Nat} (h : i ≤ r.length) : cut (r.map fun (n : Nat) => D.int n) none (some (i : Int)) = (r.take i).map fun (n : Nat) => D.int n := by
  unfold cut
  have e1 : HT.sIx (r.map fun (n : Nat) => D.int n).length 0 none = 0 := rfl
  have e2 : HT.sIx (r.map fun (n : Nat) => D.int n).length (r.map fun (n : Nat) => D.int n).length (some (i : Int)) = i := by
    unfold HT.sIx
    simp only [List.length_map]
    rw [if_neg (by omega), Int.toNat_natCast]
    omega
  rw [e1, e2, List.drop_zero, Nat.sub_zero, List.map_take]
def rowB (r : List Nat) (n : Nat) : Bool := decide (r.length = n) && ((r.zipIdx).map fun q => decide (1 ≤ q.1) && decide (q.1 ≤ q.2 + 1)).all id && ((r.zipIdx).map fun q => nextB (r.take q.2) q.1).all id
def RowOk (C : List Fn) (i : Nat) : Prop := fcOf C i = [false, false] ∧ ∀ k, 3 ≤ k → ∀ (r : List Nat) (n : Nat), r.length ≤ 1000 → callF C k i [.sh (rowD r), .sh (.int n)] = .ret (.sh (.bl (rowB r n))) [.sh (rowD r), .sh (.int n)]
theorem row_ok {C : List Fn} {i iw ix : Nat} (h : C[i]? = some (F_is_row_of iw ix)) (hw : IsWithin C iw) (hx : NextOk C ix) : RowOk C i := by
  refine ⟨by unfold fcOf; rw [h]; rfl, fun k hk r n hl => ?_⟩
  obtain ⟨k, rfl⟩ : ∃ j, k = j + 3 := ⟨k - 3, by omega⟩
  rw [callF_eq h rfl]
  obtain ⟨ρa, a1, x1, y1, a2⟩ := lcGo_map (body := lcT (fcOf C) (callF C (k + 2)) [2, 3] (.tup [.nm 2, .nm 3]) .nil (E_is_row_of1 iw)) (fun ρ => ∃ x y : Sl, ρ = [.sh (rowD r), .sh (.int n), x, y]) (fun q : Nat × Nat => D.tup [.int (q.2 : Nat), .int (q.1 : Nat)])
    (fun q => [.bl (decide (1 ≤ q.1) && decide (q.1 ≤ q.2 + 1))]) (xs := r.zipIdx) (ρ := [.sh (rowD r), .sh (.int n), .un, .un]) ⟨_, _, rfl⟩ (fun q hq ρ ⟨x, y, e⟩ => by
      subst e
      have e := hw.2 (k + 2) (by omega) q.1 1 (q.2 + 1)
      refine ⟨[.sh (rowD r), .sh (.int n), .sh (.int q.2), .sh (.int q.1)], ?_, _, _, rfl⟩
      simp [lcT, wipeE, asgD, asgDs, thenS, elemR, evC, E_is_row_of1, evE, evVs, R.bind, slot, val, ofO, bop, fresh, lend, back, hw.1, e, letR, letgo]
      rw [show decide ((1 : Int) ≤ q.1) = decide (1 ≤ q.1) from decide_eq_decide.mpr (by omega), show decide ((q.1 : Int) ≤ q.2 + 1) = decide (q.1 ≤ q.2 + 1) from decide_eq_decide.mpr (by omega)])
  obtain ⟨x1, y1, rfl⟩ : ∃ x y : Sl, ρa = [.sh (rowD r), .sh (.int n), x, y] := ⟨x1, y1, a2⟩
  rw [flat_one] at a1
  have hf : fits r.length = true := fits_of (by omega)
  by_cases en : r.length = n
  case neg =>
    have en' : ¬ ((r.length : Int) = (n : Int)) := by omega
    have eb : rowB r n = false := by unfold rowB; simp [en]
    rw [eb]
    simp [F_is_row_of, C_is_row_of1, C_is_row_of2, rowD, ↓evE_lc, exL, exS, evE, evVs, R.bind, slot, val, vals, ofO, bi, cmp, deq_int, en', isTy, plainD, rTruth, truth, fresh, fin, finF, outsOf]
  case pos =>
    subst en
    by_cases hall : ((r.zipIdx).map fun q => decide (1 ≤ q.1) && decide (q.1 ≤ q.2 + 1)).all id = true
    case neg =>
      have eb : rowB r r.length = false := by
        unfold rowB
        rw [Bool.eq_false_iff.mpr hall]
        simp
      rw [eb]
      have hall := Bool.eq_false_iff.mpr hall
      simp only [rowD] at a1
      simp [F_is_row_of, C_is_row_of1, C_is_row_of2, rowD, ↓evE_lc, exL, exS, evE, evEs, evVs, evI, R.bind, slot, val, vals, ofO, bi, cmp, deq_int, isTy, plainD, rTruth, truth, fresh, letgo, enum_row, hide, thenS, lcFin, a1, hf, show_, dbools_map, hall, fin, finF, outsOf]
    case pos =>
      have hq1 : ∀ q ∈ r.zipIdx, 1 ≤ q.1 ∧ q.1 ≤ q.2 + 1 ∧ q.2 < r.length := fun q hq => by
        have := List.all_eq_true.mp hall _ (List.mem_map.mpr ⟨q, hq, rfl⟩)
        simp only [id, Bool.and_eq_true, decide_eq_true_eq] at this
        have h2 := List.snd_lt_of_mem_zipIdx hq
        exact ⟨this.1, this.2, by simpa using h2⟩
      obtain ⟨ρb, b1, x2, y2, b2⟩ := lcGo_map (body := lcT (fcOf C) (callF C (k + 2)) [2, 3] (.tup [.nm 2, .nm 3]) .nil (E_is_row_of2 ix)) (fun ρ => ∃ x y : Sl, ρ = [.sh (rowD r), .sh (.int r.length), x, y]) (fun q : Nat × Nat => D.tup [.int (q.2 : Nat), .int (q.1 : Nat)])
        (fun q => [.bl (nextB (r.take q.2) q.1)]) (xs := r.zipIdx) (ρ := [.sh (rowD r), .sh (.int r.length), .un, .un]) ⟨_, _, rfl⟩ (fun q hq ρ ⟨x, y, e⟩ => by
          subst e
          obtain ⟨c1, c2, c3⟩ := hq1 q hq
          have lt : (r.take q.2).length = q.2 := by rw [List.length_take]; omega
          have e := hx.2 (k + 2) (by omega) (r.take q.2) q.1 c1 (by rw [lt]; exact c2)
          simp only [rowD, List.map_take] at e
          have ec := cut_take (r := r) (i := q.2) (by omega)
          refine ⟨[.sh (rowD r), .sh (.int r.length), .sh (.int q.2), .sh (.int q.1)], ?_, _, _, rfl⟩
          simp [lcT, rowD, wipeE, asgD, asgDs, thenS, elemR, evC, E_is_row_of2, evE, evO, evVs, R.bind, slot, val, ofO, sli, fresh, ec, lend, back, hx.1, e, letR, letgo])
      obtain ⟨x2, y2, rfl⟩ : ∃ x y : Sl, ρb = [.sh (rowD r), .sh (.int r.length), x, y] := ⟨x2, y2, b2⟩
      rw [flat_one] at b1
      have eb : rowB r r.length = ((r.zipIdx).map fun q => nextB (r.take q.2) q.1).all id := by
        unfold rowB
        rw [hall]
        simp
      rw [eb]
      simp only [rowD] at a1 b1
      simp [F_is_row_of, C_is_row_of1, C_is_row_of2, rowD, ↓evE_lc, exL, exS, evE, evEs, evVs, evI, R.bind, slot, val, vals, ofO, bi, cmp, deq_int, isTy, plainD, rTruth, truth, fresh, letgo, enum_row, hide, thenS, lcFin, a1, b1, hf, show_, dbools_map, hall, fin, finF, outsOf]
def lawD (L : List (List Nat)) : D := .tup (L.map rowD)
def lawB (L : List (List Nat)) : Bool := decide (L.length = 4) && ((L.zip [6, 4, 2, 2]).map fun q => rowB q.1 q.2).all id
def LawOk (C : List Fn) (i : Nat) : Prop := fcOf C i = [false] ∧ ∀ k, 4 ≤ k → ∀ (L : List (List Nat)), lawB L = true → callF C k i [.sh (lawD L)] = .ret (.sh (.bl true)) [.sh (lawD L)]
theorem lawB_rows {L : List (List Nat)} (h : lawB L = true) : ∃ a b c d, L = [a, b, c, d] ∧ rowB a 6 = true ∧ rowB b 4 = true ∧ rowB c 2 = true ∧ rowB d 2 = true := by
  unfold lawB at h
  rw [Bool.and_eq_true, decide_eq_true_eq] at h
  obtain ⟨h1, h2⟩ := h
  match L, h1 with
  | [a, b, c, d], _ =>
    simp at h2
    exact ⟨a, b, c, d, rfl, h2.1, h2.2.1, h2.2.2.1, h2.2.2.2⟩
theorem rowB_len {r : List Nat} {n : Nat} (h : rowB r n = true) : r.length = n := by
  unfold rowB at h
  simp only [Bool.and_eq_true, decide_eq_true_eq] at h
  exact h.1.1
theorem law_ok {C : List Fn} {i ir : Nat} (h : C[i]? = some (F_is_law_of ir)) (hr : RowOk C ir) : LawOk C i := by
  refine ⟨by unfold fcOf; rw [h]; rfl, fun k hk L hL => ?_⟩
  obtain ⟨k, rfl⟩ : ∃ j, k = j + 4 := ⟨k - 4, by omega⟩
  rw [callF_eq h rfl]
  obtain ⟨a, b, c, d, rfl, ra, rb, rc, rd⟩ := lawB_rows hL
  have ea := hr.2 (k + 3) (by omega) a 6 (by rw [rowB_len ra]; omega)
  have eb := hr.2 (k + 3) (by omega) b 4 (by rw [rowB_len rb]; omega)
  have ec := hr.2 (k + 3) (by omega) c 2 (by rw [rowB_len rc]; omega)
  have ed := hr.2 (k + 3) (by omega) d 2 (by rw [rowB_len rd]; omega)
  rw [ra] at ea
  rw [rb] at eb
  rw [rc] at ec
  rw [rd] at ed
  simp at ea eb ec ed
  have d1 : ∀ n : Nat, deq (.int n) (.int n) = some true := fun n => by rw [deq_int]; simp
  have d2 : deq (.int 4) (.int 4) = some true := d1 4
  simp [F_is_law_of, C_is_law_of1, lawD, ↓evE_lc, exL, exS, evE, evEs, evVs, evI, R.bind, slot, val, vals, ofO, bi, cmp, d2, isTy, plainD, rTruth, truth, fresh, letgo, hide, thenS, lcFin, lcGo, lcT, wipeE, asgD, asgDs, elemR, evC, E_is_law_of1, lend, back, hr.1, ea, eb, ec, ed, letR, fits, show_, dbools, fin, finF, outsOf]
end Lv
namespace Lv
open PySem
def NeedLawOk (C : List Fn) (i : Nat) : Prop := fcOf C i = [false] ∧ ∀ k, 5 ≤ k → ∀ L : List (List Nat), lawB L = true → callF C k i [.sh (lawD L)] = .ret (.sh .non) [.sh (lawD L)]
theorem need_law_ok {C : List Fn} {i il : Nat} (h : C[i]? = some (F_need_law il)) (hl : LawOk C il) : NeedLawOk C i := by
  refine ⟨by unfold fcOf; rw [h]; rfl, fun k hk L hL => ?_⟩
  obtain ⟨k, rfl⟩ : ∃ j, k = j + 5 := ⟨k - 5, by omega⟩
  rw [callF_eq h rfl]
  have e := hl.2 (k + 4) (by omega) L hL
  simp [F_need_law, exL, exS, evE, evVs, R.bind, slot, val, rTruth, truth, ofO, lend, back, hl.1, e, fin, finF, outsOf]
def NeedNumOk (C : List Fn) (i : Nat) : Prop := fcOf C i = [false, false] ∧ ∀ k, 3 ≤ k → ∀ (n : Int) (w : Str), 1 ≤ n → n ≤ 120 → callF C k i [.sh (.int n), .sh (.str w)] = .ret (.sh .non) [.sh (.int n), .sh (.str w)]
theorem need_num_ok {C : List Fn} {i iw : Nat} (h : C[i]? = some (F_need_number iw)) (hw : IsWithin C iw) : NeedNumOk C i := by
  refine ⟨by unfold fcOf; rw [h]; rfl, fun k hk n w h1 h2 => ?_⟩
  obtain ⟨k, rfl⟩ : ∃ j, k = j + 3 := ⟨k - 3, by omega⟩
  rw [callF_eq h rfl]
  have e := hw.2 (k + 2) (by omega) n 1 120
  simp [h1, h2] at e
  simp [F_need_number, exL, exS, evE, evVs, R.bind, slot, val, rTruth, truth, ofO, lend, back, hw.1, e, fin, finF, outsOf]
def PowOk (C : List Fn) (i : Nat) : Prop := fcOf C i = [false, false] ∧ ∀ k, 1 ≤ k → ∀ (b : Int) (n : Nat), ibits b ≤ 64 → n ≤ 1000 → callF C k i [.sh (.int b), .sh (.int n)] = .ret (.sh (.int (b ^ n))) [.sh (.int b), .sh (.int n)]
theorem pow_fold (b : Int) : ∀ (l : List Nat) (s : Int), l.foldl (fun s _ => s * b) s = s * b ^ l.length
  | [], s => by simp
  | _ :: l, s => by
    rw [List.foldl_cons, pow_fold b l, List.length_cons, Int.pow_succ, Int.mul_assoc, Int.mul_comm b]
theorem rng_map (n : Nat) : rng 0 n 1 = (List.range n).map fun (i : Nat) => D.int i := by
  unfold rng
  rw [if_pos (by decide), show ((n : Int) - 0 + 1 - 1) / 1 = n by omega, Int.toNat_natCast]
  refine List.map_congr_left fun i _ => ?_
  simp
theorem small_of {n : Nat} (h : n ≤ 1000000) : small62 n = true := by
  have e : (2 : Int) ^ 62 = 4611686018427387904 := by decide
  unfold small62
  rw [e]
  simp only [Bool.and_eq_true, decide_eq_true_eq]
  omega
theorem powered_ok {C : List Fn} {i : Nat} (h : C[i]? = some F_powered) : PowOk C i := by
  refine ⟨by unfold fcOf; rw [h]; rfl, fun k hk b n hb hn => ?_⟩
  obtain ⟨k, rfl⟩ : ∃ j, k = j + 1 := ⟨k - 1, by omega⟩
  rw [callF_eq h rfl]
  have lp := frGo_fold (body := frT (fcOf C) (callF C k) (.nm 3) B_powered1) (fun s : Int × Sl => [.sh (.int b), .sh (.int n), .sh (.int s.1), s.2]) (fun (i : Nat) => D.int i) (fun s i => (s.1 * b, .sh (.int i))) (xs := List.range n) (s := (1, .un)) (fun x _ s => by
    have mk : mulOk s.1 b = true := mulOk_r hb
    simp [frT, B_powered1, asgD, thenS, exL, exS, evE, R.bind, slot, val, ofO, bop, fresh, asgV, put1, mk])
  have sm : small62 n = true := small_of (by omega)
  have ef : ∀ (l : List Nat) (s : Int × Sl), (l.foldl (fun s i => (s.1 * b, Sl.sh (.int (i : Nat)))) s).1 = l.foldl (fun s _ => s * b) s.1 := fun l => by
    induction l with
    | nil => intro s; rfl
    | cons x l ih => intro s; exact ih _
  generalize hr : (List.range n).foldl (fun (s : Int × Sl) (i : Nat) => (s.1 * b, Sl.sh (.int i))) (1, .un) = q at lp
  have q1 : q.1 = b ^ n := by rw [← hr, ef, pow_fold, List.length_range]; simp
  have ei : evI (fcOf C) (callF C k) (.rng (.cons (.var 1) .nil)) [.sh (.int b), .sh (.int n), .sh (.int 1), .un] = .ok ((List.range n).map fun (i : Nat) => D.int i) [.sh (.int b), .sh (.int n), .sh (.int 1), .un] := by
    rw [← rng_map]
    exact evI_rng1 rfl sm
  have h1 : exS (fcOf C) (callF C k) (.asg (.nm 2) (.cst (.int 1))) [.sh (.int b), .sh (.int n), .un, .un] = .ok .nx [.sh (.int b), .sh (.int n), .sh (.int 1), .un] := by
    simp [exS, evE, R.bind, asgV, put1, thenS]
  have e : exL (fcOf C) (callF C k) F_powered.body [.sh (.int b), .sh (.int n), .un, .un] = .ok (.ret (.sh (.int q.1))) [.sh (.int b), .sh (.int n), .sh (.int q.1), q.2] := by
    show exL _ _ (.cons _ (.cons (.fr _ _ B_powered1) (.cons _ .nil))) _ = _
    rw [exL_nx h1, exL_nx (exS_frk ei lp), exL_rt (exS_rtk rfl)]
  have e' : exL (fcOf C) (callF C k) F_powered.body ([.sh (.int b), .sh (.int n)] ++ List.replicate (F_powered.n - F_powered.ps) Sl.un) = .ok (.ret (.sh (.int q.1))) [.sh (.int b), .sh (.int n), .sh (.int q.1), q.2] := e
  rw [e', q1]
  rfl
end Lv
namespace Lv
open PySem
theorem pys_ints : ∀ ys : List Int, D.py.pys (ys.map D.int) = some (ys.map PyData.int)
  | [] => rfl
  | y :: ys => by
    show (match (some (PyData.int y) : Option PyData), D.py.pys (ys.map D.int) with | some a, some as => some (a :: as) | _, _ => none) = _
    rw [pys_ints ys]
    rfl
theorem shaped_ints (ys : List Int) (h : SeqAt.shaped (.list (ys.map PyData.int)) = true) (x : Int) : dmem (.int x) (ys.map D.int) = some (ys.any fun y => decide (y = x)) := by
  show (match (some (PyData.int x) : Option PyData), D.py.pys (ys.map D.int) with
    | some y, some zs => if (SeqAt.shaped y && SeqAt.shaped (.list zs)) = true then some (zs.any fun z => PyData.eqv z y) else none
    | _, _ => none) = _
  rw [pys_ints]
  have e1 : SeqAt.shaped (PyData.int x) = true := rfl
  simp only [e1, h, Bool.and_self, if_true]
  rw [List.any_map]
  rfl
theorem mem_primes (x : Int) : dmem (.int x) [.int 2, .int 3, .int 5, .int 7] = some ([2, 3, 5, 7].any fun y => decide (y = x)) := shaped_ints [2, 3, 5, 7] rfl x
end Lv
namespace Lv
open PySem
def rowAt (L : List (List Nat)) (p : Nat) : Option (List Nat) := if p = 2 then L[0]? else if p = 3 then L[1]? else if p = 5 then L[2]? else if p = 7 then L[3]? else none
def typeN (L : List (List Nat)) (p t : Nat) : Nat := match rowAt L p with
  | some r => r.getD (t - 1) 1
  | none => 1
def TypeByOk (C : List Fn) (i : Nat) : Prop := fcOf C i = [false, false, false] ∧ ∀ k, 1 ≤ k → ∀ (L : List (List Nat)) (p t : Nat), L.length = 4 → (∀ r, rowAt L p = some r → 1 ≤ t ∧ t ≤ r.length) →
  callF C k i [.sh (lawD L), .sh (.int p), .sh (.int t)] = .ret (.sh (.int (typeN L p t))) [.sh (lawD L), .sh (.int p), .sh (.int t)]
theorem type_by_ok {C : List Fn} {i : Nat} (h : C[i]? = some F_type_by) : TypeByOk C i := by
  refine ⟨by unfold fcOf; rw [h]; rfl, fun k hk L p t hL ht => ?_⟩
  obtain ⟨k, rfl⟩ : ∃ j, k = j + 1 := ⟨k - 1, by omega⟩
  rw [callF_eq h rfl]
  match L, hL with
  | [a, b, c, d], _ =>
    have key : ∀ r : List Nat, rowAt [a, b, c, d] p = some r → L2.ixN r.length ((t : Int) - 1) = some (t - 1) ∧ t - 1 < r.length := fun r hr => by
      obtain ⟨h1, h2⟩ := ht r hr
      have : ((t : Int) - 1) = ((t - 1 : Nat) : Int) := by omega
      rw [this]
      exact ⟨ixN_of (by omega), by omega⟩
    have x0 : L2.ixN 4 0 = some 0 := rfl
    have x1 : L2.ixN 4 1 = some 1 := rfl
    have x2 : L2.ixN 4 2 = some 2 := rfl
    have x3 : L2.ixN 4 3 = some 3 := rfl
    have fx2 : List.findIdx? (fun x => x == (2 : Int)) [2, 3, 5, 7] = some 0 := rfl
    have fx3 : List.findIdx? (fun x => x == (3 : Int)) [2, 3, 5, 7] = some 1 := rfl
    have fx5 : List.findIdx? (fun x => x == (5 : Int)) [2, 3, 5, 7] = some 2 := rfl
    have fx7 : List.findIdx? (fun x => x == (7 : Int)) [2, 3, 5, 7] = some 3 := rfl
    by_cases p2 : p = 2
    · subst p2
      obtain ⟨e1, e2⟩ := key a rfl
      simp [F_type_by, lawD, rowD, exL, exS, evE, R.bind, slot, val, ofO, bop, cmp, mem_primes, rTruth, truth, fresh, idx, x0, fx2, e1, e2, fin, finF, outsOf, typeN, rowAt]
    · by_cases p3 : p = 3
      · subst p3
        obtain ⟨e1, e2⟩ := key b rfl
        simp [F_type_by, lawD, rowD, exL, exS, evE, R.bind, slot, val, ofO, bop, cmp, mem_primes, rTruth, truth, fresh, idx, x1, fx3, e1, e2, fin, finF, outsOf, typeN, rowAt]
      · by_cases p5 : p = 5
        · subst p5
          obtain ⟨e1, e2⟩ := key c rfl
          simp [F_type_by, lawD, rowD, exL, exS, evE, R.bind, slot, val, ofO, bop, cmp, mem_primes, rTruth, truth, fresh, idx, x2, fx5, e1, e2, fin, finF, outsOf, typeN, rowAt]
        · by_cases p7 : p = 7
          · subst p7
            obtain ⟨e1, e2⟩ := key d rfl
            simp [F_type_by, lawD, rowD, exL, exS, evE, R.bind, slot, val, ofO, bop, cmp, mem_primes, rTruth, truth, fresh, idx, x3, fx7, e1, e2, fin, finF, outsOf, typeN, rowAt]
          · have c2 : ¬ (2 : Int) = (p : Int) := by omega
            have c3 : ¬ (3 : Int) = (p : Int) := by omega
            have c5 : ¬ (5 : Int) = (p : Int) := by omega
            have c7 : ¬ (7 : Int) = (p : Int) := by omega
            simp [F_type_by, lawD, rowD, exL, exS, evE, R.bind, slot, val, ofO, cmp, mem_primes, c2, c3, c5, c7, rTruth, truth, fin, finF, outsOf, typeN, rowAt, p2, p3, p5, p7]
end Lv
namespace Lv
open PySem
def divGo : Nat → Nat → Nat → Nat → Nat × Nat
  | 0, l, _, t => (l, t)
  | f + 1, l, p, t => if l % p = 0 then divGo f (l / p) p (t + 1) else (l, t)
theorem divGo_fuel {p : Nat} (hp : 2 ≤ p) : ∀ (f g l t : Nat), 1 ≤ l → l ≤ f → l ≤ g → divGo f l p t = divGo g l p t
  | 0, _, l, t, h1, h2, _ => by omega
  | _ + 1, 0, l, t, h1, _, h3 => by omega
  | f + 1, g + 1, l, t, h1, h2, h3 => by
    unfold divGo
    split
    · rename_i hm
      have hd : p ∣ l := Nat.dvd_of_mod_eq_zero hm
      have hlt : l / p < l := Nat.div_lt_self h1 hp
      have hpos : 1 ≤ l / p := Nat.div_pos (Nat.le_of_dvd h1 hd) (by omega)
      exact divGo_fuel hp f g (l / p) (t + 1) hpos (by omega) (by omega)
    · rfl
theorem divGo_pos {p : Nat} (hp : 2 ≤ p) : ∀ (f l t : Nat), 1 ≤ l → 1 ≤ (divGo f l p t).1 ∧ (divGo f l p t).1 ≤ l
  | 0, l, t, h1 => ⟨h1, Nat.le_refl _⟩
  | f + 1, l, t, h1 => by
    unfold divGo
    split
    · rename_i hm
      have hd : p ∣ l := Nat.dvd_of_mod_eq_zero hm
      have hpos : 1 ≤ l / p := Nat.div_pos (Nat.le_of_dvd h1 hd) (by omega)
      obtain ⟨a, b⟩ := divGo_pos hp f (l / p) (t + 1) hpos
      exact ⟨a, Nat.le_trans b (Nat.div_le_self l p)⟩
    · exact ⟨h1, Nat.le_refl _⟩
def pairD (q : Nat × Nat) : D := .tup [.int q.1, .int q.2]
def facE (n : Int) (acc : List (Nat × Nat)) (l p t : Nat) : Env := [.sh (.int n), .ow (.lst (acc.map pairD)), .sh (.int l), .sh (.int p), .sh (.int t)]
section
variable {fc : Nat → List Bool} {call : Nat → Env → FR}
theorem fac_in {n : Int} {acc : List (Nat × Nat)} {p : Nat} (hp : 2 ≤ p) (hp2 : p < 1073741824) (l : Nat) (h1 : 1 ≤ l) (h2 : l < wFuel) : whGo (cndR fc call W_factors_of1) (exL fc call B_factors_of1) wFuel (facE n acc l p 0) = .ok .nx (facE n acc (divGo l l p 0).1 p (divGo l l p 0).2) := by
  obtain ⟨ρ', e, t⟩ := wh_inv (c := cndR fc call W_factors_of1) (body := exL fc call B_factors_of1) (fun m ρ => ∃ k t, m = k ∧ 1 ≤ k ∧ divGo k k p t = divGo l l p 0 ∧ ρ = facE n acc k p t) (fun ρ => ρ = facE n acc (divGo l l p 0).1 p (divGo l l p 0).2) (fun m ρ ⟨k, t, em, hk, ed, eρ⟩ => by
    subst em eρ
    have em : ((m : Int)).fmod p = ((m % p : Nat) : Int) := by
      rw [Int.fmod_eq_emod_of_nonneg _ (by omega)]
      push_cast
      rfl
    have pz : ¬ p = 0 := by omega
    by_cases hm : m % p = 0
    · right
      have hd : p ∣ m := Nat.dvd_of_mod_eq_zero hm
      have hlt : m / p < m := Nat.div_lt_self hk hp
      have hpos : 1 ≤ m / p := Nat.div_pos (Nat.le_of_dvd hk hd) (by omega)
      have dv : Builtin.divisionGoesByPylong m p = false := PyProof.noPylong_small (by omega)
      have ef : ((m : Int)).fdiv p = ((m / p : Nat) : Int) := by
        rw [Int.fdiv_eq_ediv_of_nonneg _ (by omega)]
        push_cast
        rfl
      refine ⟨facE n acc m p t, facE n acc (m / p) p (t + 1), m / p, ?_, ?_, hlt, m / p, t + 1, rfl, hpos, ?_, rfl⟩
      · simp [cndR, W_factors_of1, facE, evE, R.bind, slot, val, ofO, bop, cmp, deq_int, fresh, rTruth, truth, em, hm, pz]
      · simp [B_factors_of1, facE, exL, exS, evE, evPs, R.bind, slot, val, ofO, bop, fresh, letgo, parE, pz, dv, ef]
      · rw [← ed, divGo_fuel hp (m / p) (m - 1) (m / p) (t + 1) hpos (Nat.le_refl _) (by omega)]
        obtain ⟨j, rfl⟩ : ∃ j, m = j + 1 := ⟨m - 1, by omega⟩
        show _ = divGo (j + 1) (j + 1) p t
        rw [divGo.eq_2, if_pos hm]
        rfl
    · left
      refine ⟨facE n acc m p t, ?_, ?_⟩
      · have hm' : ¬ ((m % p : Nat) : Int) = 0 := by omega
        have hm2 : ¬ ((m : Int) % (p : Int) = 0) := by
          intro z
          apply hm'
          push_cast
          exact z
        simp [cndR, W_factors_of1, facE, evE, R.bind, slot, val, ofO, bop, cmp, deq_int, fresh, rTruth, truth, em, hm', hm2, pz]
      · rw [← ed]
        obtain ⟨j, rfl⟩ : ∃ j, m = j + 1 := ⟨m - 1, by omega⟩
        rw [divGo.eq_2, if_neg hm]) h2 ⟨l, 0, rfl, h1, rfl, rfl⟩
  rw [e, t]
end
end Lv
namespace Lv
open PySem
theorem divGo_dvd {p : Nat} (hp : 2 ≤ p) : ∀ (f l t : Nat), 1 ≤ l → l ≤ f → (divGo f l p t).1 ∣ l ∧ ¬ p ∣ (divGo f l p t).1
  | 0, l, t, h1, h2 => by omega
  | f + 1, l, t, h1, h2 => by
    unfold divGo
    split
    · rename_i hm
      have hd : p ∣ l := Nat.dvd_of_mod_eq_zero hm
      have hlt : l / p < l := Nat.div_lt_self h1 hp
      have hpos : 1 ≤ l / p := Nat.div_pos (Nat.le_of_dvd h1 hd) (by omega)
      obtain ⟨a, b⟩ := divGo_dvd hp f (l / p) (t + 1) hpos (by omega)
      exact ⟨Nat.dvd_trans a (Nat.div_dvd_of_dvd hd), b⟩
    · rename_i hm
      exact ⟨Nat.dvd_refl _, fun hd => hm (Nat.mod_eq_zero_of_dvd hd)⟩
def facGo : Nat → Nat → Nat → List (Nat × Nat) → List (Nat × Nat)
  | 0, _, _, acc => acc
  | f + 1, l, p, acc => if 1 < l then facGo f (divGo l l p 0).1 (p + 1) (if 0 < (divGo l l p 0).2 then acc ++ [(p, (divGo l l p 0).2)] else acc) else acc
def NoBelow (l p : Nat) : Prop := ∀ d, 2 ≤ d → d < p → ¬ d ∣ l
theorem NoBelow.ge {l p : Nat} (h : NoBelow l p) (hl : 1 < l) : p ≤ l := by
  by_cases q : p ≤ l
  · exact q
  · exact absurd (Nat.dvd_refl l) (h l hl (by omega))
theorem NoBelow.next {l p : Nat} (h : NoBelow l p) (hp : 2 ≤ p) (h1 : 1 ≤ l) : NoBelow (divGo l l p 0).1 (p + 1) := fun d d2 hd hdv => by
  obtain ⟨a, b⟩ := divGo_dvd hp l l 0 h1 (Nat.le_refl _)
  by_cases e : d = p
  · exact b (e ▸ hdv)
  · exact h d d2 (by omega) (Nat.dvd_trans hdv a)
theorem facGo_fuel : ∀ (f g l p : Nat) (acc : List (Nat × Nat)), 2 ≤ p → 1 ≤ l → NoBelow l p → l + 1 - p < f → l + 1 - p < g → facGo f l p acc = facGo g l p acc
  | 0, g, l, p, acc, _, _, _, h, _ => absurd h (Nat.not_lt_zero _)
  | f + 1, 0, l, p, acc, _, _, _, _, h => absurd h (Nat.not_lt_zero _)
  | f + 1, g + 1, l, p, acc, hp, h1, hb, hf, hg => by
    unfold facGo
    split
    · rename_i hl
      have ge := hb.ge hl
      obtain ⟨p1, p2⟩ := divGo_pos hp l l 0 h1
      exact facGo_fuel f g _ (p + 1) _ (by omega) p1 (hb.next hp h1) (by omega) (by omega)
    · rfl
def facN (n : Nat) : List (Nat × Nat) := facGo (n + 1) n 2 []
end Lv
namespace Lv
open PySem
section
variable {fc : Nat → List Bool} {call : Nat → Env → FR}
theorem exL_nil {ρ : Env} : exL fc call .nil ρ = .ok .nx ρ := rfl
theorem fac_turn {n : Int} {acc : List (Nat × Nat)} {l p : Nat} {s : Sl} (hp : 2 ≤ p) (hp2 : p < 1073741824) (h1 : 1 ≤ l) (h2 : l < wFuel) (ha : acc.length < 16777216) :
    exL fc call B_factors_of2 [.sh (.int n), .ow (.lst (acc.map pairD)), .sh (.int l), .sh (.int p), s] = .ok .nx [.sh (.int n), .ow (.lst ((if 0 < (divGo l l p 0).2 then acc ++ [(p, (divGo l l p 0).2)] else acc).map pairD)), .sh (.int (divGo l l p 0).1), .sh (.int (p + 1 : Nat)), .sh (.int (divGo l l p 0).2)] := by
  have e1 : exS fc call (.asg (.nm 4) (.cst (.int 0))) [.sh (.int n), .ow (.lst (acc.map pairD)), .sh (.int l), .sh (.int p), s] = .ok .nx (facE n acc l p 0) := by
    simp [exS, evE, R.bind, asgV, put1, thenS, facE]
  have e2 : exS fc call (.wh W_factors_of1 B_factors_of1) (facE n acc l p 0) = .ok .nx (facE n acc (divGo l l p 0).1 p (divGo l l p 0).2) := by
    rw [exS_wh]
    exact fac_in hp hp2 l h1 h2
  unfold B_factors_of2 S_factors_of1
  rw [exL_nx e1, exL_nx e2]
  generalize (divGo l l p 0).1 = l'
  generalize (divGo l l p 0).2 = t
  by_cases ht : 0 < t
  · rw [if_pos ht]
    simp [facE, pairD, exL, exS, evE, evEs, R.bind, slot, val, ofO, bop, cmp, rTruth, truth, fresh, letgo, asgV, put1, thenS, ht, ha]
  · rw [if_neg ht]
    simp [facE, exL, exS, evE, R.bind, slot, val, ofO, bop, cmp, rTruth, truth, fresh, asgV, put1, thenS, ht]
end
end Lv
namespace Lv
open PySem
def FacOk (C : List Fn) (i : Nat) : Prop := fcOf C i = [false] ∧ ∀ k, 1 ≤ k → ∀ n : Nat, 1 ≤ n → n ≤ 1000000 → callF C k i [.sh (.int n)] = .ret (.ow (.lst ((facN n).map pairD))) [.sh (.int n)]
theorem fac_loop {fc : Nat → List Bool} {call : Nat → Env → FR} {n : Nat} (hn : 1 ≤ n) (hn2 : n ≤ 1000000) : ∃ (l p : Nat) (s : Sl), whGo (cndR fc call W_factors_of2) (exL fc call B_factors_of2) wFuel [.sh (.int n), .ow (.lst []), .sh (.int n), .sh (.int 2), .un] = .ok .nx [.sh (.int n), .ow (.lst ((facN n).map pairD)), .sh (.int l), .sh (.int p), s] := by
  have st : ∀ (m : Nat) (ρ : Env), (∃ (l p : Nat) (acc : List (Nat × Nat)) (s : Sl), m = l + 1 - p ∧ 1 ≤ l ∧ l ≤ n ∧ 2 ≤ p ∧ p ≤ n + 2 ∧ acc.length ≤ p ∧ NoBelow l p ∧ facGo (l + 1 - p + 1) l p acc = facN n ∧ ρ = [.sh (.int n), .ow (.lst (acc.map pairD)), .sh (.int l), .sh (.int p), s]) →
      (∃ ρ1, cndR fc call W_factors_of2 ρ = .ok false ρ1 ∧ ∃ (l p : Nat) (s : Sl), ρ1 = [.sh (.int n), .ow (.lst ((facN n).map pairD)), .sh (.int l), .sh (.int p), s]) ∨
      (∃ ρ1 ρ2 m', cndR fc call W_factors_of2 ρ = .ok true ρ1 ∧ exL fc call B_factors_of2 ρ1 = .ok .nx ρ2 ∧ m' < m ∧ ∃ (l p : Nat) (acc : List (Nat × Nat)) (s : Sl), m' = l + 1 - p ∧ 1 ≤ l ∧ l ≤ n ∧ 2 ≤ p ∧ p ≤ n + 2 ∧ acc.length ≤ p ∧ NoBelow l p ∧ facGo (l + 1 - p + 1) l p acc = facN n ∧ ρ2 = [.sh (.int n), .ow (.lst (acc.map pairD)), .sh (.int l), .sh (.int p), s]) := by
    rintro m ρ ⟨l, p, acc, s, em, h1, hl, hp, hpn, ha, hb, ef, rfl⟩
    by_cases hg : 1 < l
    · right
      have ge := hb.ge hg
      obtain ⟨p1, p2⟩ := divGo_pos hp l l 0 h1
      have hg' : (1 : Int) < l := by omega
      refine ⟨_, _, (divGo l l p 0).1 + 1 - (p + 1), ?_, fac_turn (acc := acc) (s := s) hp (by omega) h1 (by show _ < 1000000000; omega) (by omega), by omega, (divGo l l p 0).1, p + 1, _, _, rfl, p1, by omega, by omega, by omega, ?_, hb.next hp h1, ?_, rfl⟩
      · simp [cndR, W_factors_of2, evE, R.bind, slot, val, ofO, cmp, rTruth, truth, hg']
      · split
        · rw [List.length_append, List.length_singleton]; omega
        · omega
      · have stp : facGo (l + 1 - p + 1) l p acc = facGo (l + 1 - p) (divGo l l p 0).1 (p + 1) (if 0 < (divGo l l p 0).2 then acc ++ [(p, (divGo l l p 0).2)] else acc) := by rw [facGo.eq_2, if_pos hg]
        rw [← ef, stp]
        exact facGo_fuel _ _ _ _ _ (by omega) p1 (hb.next hp h1) (by omega) (by omega)
    · left
      have hg' : ¬ (1 : Int) < l := by omega
      have ea : acc = facN n := by
        rw [← ef, facGo.eq_2, if_neg hg]
      subst ea
      exact ⟨_, by simp [cndR, W_factors_of2, evE, R.bind, slot, val, ofO, cmp, rTruth, truth, hg'], l, p, s, rfl⟩
  obtain ⟨ρ', e, l, p, s, t⟩ := wh_inv _ _ st (n := wFuel) (m := n + 1 - 2) (ρ := [.sh (.int n), .ow (.lst []), .sh (.int n), .sh (.int 2), .un]) (by show _ < 1000000000; omega)
    ⟨n, 2, [], .un, rfl, hn, Nat.le_refl _, Nat.le_refl _, by omega, by simp, fun d h1 h2 => by omega, facGo_fuel _ _ _ _ _ (by omega) hn (fun d h1 h2 => by omega) (by omega) (by omega), rfl⟩
  subst t
  exact ⟨l, p, s, e⟩
theorem fac_ok {C : List Fn} {i : Nat} (h : C[i]? = some F_factors_of) : FacOk C i := by
  refine ⟨by unfold fcOf; rw [h]; rfl, fun k hk n h1 h2 => ?_⟩
  obtain ⟨k, rfl⟩ : ∃ j, k = j + 1 := ⟨k - 1, by omega⟩
  rw [callF_eq h rfl]
  obtain ⟨l, p, s, e⟩ := fac_loop (fc := fcOf C) (call := callF C k) h1 h2
  have e1 : exS (fcOf C) (callF C k) (.par [1, 2, 3] (.cons (.lst .nil) (.cons (.var 0) (.cons (.cst (.int 2)) .nil)))) [.sh (.int n), .un, .un, .un, .un] = .ok .nx [.sh (.int n), .ow (.lst []), .sh (.int n), .sh (.int 2), .un] := by
    simp [exS, evE, evEs, evPs, R.bind, slot, letgo, parE]
  have e3 : exL (fcOf C) (callF C k) F_factors_of.body [.sh (.int n), .un, .un, .un, .un] = .ok (.ret (.sl 1)) [.sh (.int n), .ow (.lst ((facN n).map pairD)), .sh (.int l), .sh (.int p), s] := by
    show exL _ _ (.cons _ (.cons (.wh W_factors_of2 B_factors_of2) (.cons _ .nil))) _ = _
    rw [exL_nx e1, exL_nx (exS_wh.trans e), exL_rt (exS_rtk rfl)]
  have e4 : exL (fcOf C) (callF C k) F_factors_of.body ([.sh (.int n)] ++ List.replicate (F_factors_of.n - F_factors_of.ps) Sl.un) = .ok (.ret (.sl 1)) [.sh (.int n), .ow (.lst ((facN n).map pairD)), .sh (.int l), .sh (.int p), s] := e3
  rw [e4]
  rfl
end Lv
namespace Lv
open PySem
def facFine (n : Nat) : Bool := (facN n).all fun q => decide (2 ≤ q.1) && decide (q.1 ≤ 120) && decide (1 ≤ q.2) && decide (q.2 ≤ 6) && decide (q.1 = 3 → q.2 ≤ 4) && decide (q.1 = 5 → q.2 ≤ 2) && decide (q.1 = 7 → q.2 ≤ 2)
theorem fac_fine : ∀ n, n ≤ 120 → facFine n = true := by decide +kernel
end Lv
namespace Lv
open PySem
def powsN (L : List (List Nat)) (p t : Nat) : List Int := (List.range ((t + 1 + typeN L p t - 1) / typeN L p t)).map fun i => (p : Int) ^ (i * typeN L p t)
theorem rng_step (t s : Nat) (hs : 1 ≤ s) : rng 0 (t + 1 : Nat) s = (List.range ((t + 1 + s - 1) / s)).map fun (i : Nat) => D.int ((i * s : Nat) : Int) := by
  unfold rng
  rw [if_pos (by omega)]
  have e : (((t + 1 : Nat) : Int) - 0 + s - 1) / s = (((t + 1 + s - 1) / s : Nat) : Int) := by
    push_cast
    congr 1
    omega
  rw [e, Int.toNat_natCast]
  refine List.map_congr_left fun i _ => ?_
  push_cast
  simp
end Lv
namespace Lv
open PySem
section
variable {C : List Fn} {k it ip : Nat}
theorem lot_pow (hp : PowOk C ip) {e0 e1 e2 s5 s6 s7 s8 s9 : Sl} {L : List (List Nat)} {p t : Nat} (h7 : ∀ d, s7 ≠ .ow d) (hs : 1 ≤ typeN L p t) (hs2 : typeN L p t ≤ 1000) (hpb : p ≤ 120) (ht : t ≤ 1000) :
    evE (fcOf C) (callF C (k + 1)) (.lc [7] (.nm 7) (.rng (.cons (.cst (.int 0)) (.cons (.bop .add (.var 4) (.cst (.int 1))) (.cons (.var 5) .nil)))) .nil (E_lot_by1 ip)) [e0, e1, e2, .sh (.int p), .sh (.int t), .sh (.int (typeN L p t)), s6, s7, s8, s9] =
      .ok (.ow (.lst ((powsN L p t).map .int))) [e0, e1, e2, .sh (.int p), .sh (.int t), .sh (.int (typeN L p t)), s6, s7, s8, s9] := by
  generalize hst : typeN L p t = st at *
  have ei : evI (fcOf C) (callF C (k + 1)) (.rng (.cons (.cst (.int 0)) (.cons (.bop .add (.var 4) (.cst (.int 1))) (.cons (.var 5) .nil)))) [e0, e1, e2, .sh (.int p), .sh (.int t), .sh (.int st), s6, s7, s8, s9] = .ok ((List.range ((t + 1 + st - 1) / st)).map fun (i : Nat) => D.int ((i * st : Nat) : Int)) [e0, e1, e2, .sh (.int p), .sh (.int t), .sh (.int st), s6, s7, s8, s9] := by
    rw [← rng_step t st hs]
    refine evI_rng3 (j := ((t + 1 : Nat) : Int)) (by simp [evVs, evE, R.bind, slot, val, ofO, bop, fresh]) ?_
    simp only [Bool.and_eq_true, decide_eq_true_eq]
    omega
  obtain ⟨ρ', e3, x, hx⟩ := lcGo_map (body := lcT (fcOf C) (callF C (k + 1)) [7] (.nm 7) .nil (E_lot_by1 ip)) (fun ρ => ∃ x : Sl, ρ = [e0, e1, e2, .sh (.int p), .sh (.int t), .sh (.int st), s6, x, s8, s9]) (fun (i : Nat) => D.int ((i * st : Nat) : Int)) (fun i => [.int ((p : Int) ^ (i * st))])
    (xs := List.range ((t + 1 + st - 1) / st)) (ρ := [e0, e1, e2, .sh (.int p), .sh (.int t), .sh (.int st), s6, .un, s8, s9]) ⟨_, rfl⟩ (fun i hi ρ ⟨x, e⟩ => by
      subst e
      have hi' : i < (t + 1 + st - 1) / st := List.mem_range.mp hi
      have hb : i * st ≤ 1000 := by
        have h1 : (i + 1) * st ≤ t + 1 + st - 1 := Nat.le_trans (Nat.mul_le_mul_right st hi') (Nat.div_mul_le_self _ _)
        rw [Nat.add_mul] at h1
        omega
      have e := hp.2 (k + 1) (by omega) p (i * st) (ibits_le (Nat.lt_of_le_of_lt (show (p : Int).natAbs ≤ 120 by omega) (by decide))) hb
      generalize i * st = m at e ⊢
      refine ⟨[e0, e1, e2, .sh (.int p), .sh (.int t), .sh (.int st), s6, .sh (.int (m : Nat)), s8, s9], ?_, _, rfl⟩
      simp only [lcT, wipeE, asgD, List.set_cons_succ, List.set_cons_zero, thenS, elemR, evC, E_lot_by1, evE, evVs, R.bind, slot, List.getD_eq_getElem?_getD, List.getElem?_cons_succ, List.getElem?_cons_zero, Option.getD_some, lend, hp.1]
      simp [e, back, letR, letgo])
  subst hx
  rw [flat_one] at e3
  have hl : fits ((List.range ((t + 1 + st - 1) / st)).map fun i => D.int ((p : Int) ^ (i * st))).length = true := by
    rw [List.length_map, List.length_range]
    exact fits_of (Nat.le_trans (Nat.div_le_self _ _) (by omega))
  rw [evE_lc, ei]
  show asgThen (hide _ [7]) _ = _
  have hh : hide [e0, e1, e2, .sh (.int p), .sh (.int t), .sh (.int st), s6, s7, s8, s9] [7] = some [e0, e1, e2, .sh (.int p), .sh (.int t), .sh (.int st), s6, .un, s8, s9] := by
    cases s7 with
    | ow d => exact absurd rfl (h7 d)
    | un => rfl
    | sh d => rfl
  rw [hh, thenS, e3]
  show (if fits _ = true then _ else _) = _
  rw [if_pos hl]
  unfold powsN
  rw [hst, List.map_map]
  rfl
end
end Lv
namespace Lv
open PySem
section
variable {C : List Fn} {k : Nat}
def timesL (fs ps : List Int) : List Int := fs.flatMap fun f => ps.map fun q => f * q
theorem lot_times {e0 e1 s3 s4 s5 s7 s8 s9 : Sl} {fs ps : List Int} (h8 : ∀ d, s8 ≠ .ow d) (h9 : ∀ d, s9 ≠ .ow d) (hm : ∀ f ∈ fs, ∀ q ∈ ps, mulOk f q = true) (hl : (timesL fs ps).length ≤ 16777216) :
    ∃ s6 : Sl, evE (fcOf C) (callF C k) (.lc2 [8, 9] [9] (.nm 8) (.val (.var 2)) (.nm 9) I_lot_by1 .nil E_lot_by2) [e0, e1, .ow (.lst (fs.map .int)), s3, s4, s5, .ow (.lst (ps.map .int)), s7, s8, s9] =
      .ok (.ow (.lst ((timesL fs ps).map .int))) [e0, e1, .sh (.lst (fs.map .int)), s3, s4, s5, s6, s7, s8, s9] := by
  obtain ⟨ρ', e, s6, x, y, h6, rfl⟩ := lcGo_map (body := lcT2 (fcOf C) (callF C k) [8, 9] [9] (.nm 8) (.nm 9) I_lot_by1 .nil E_lot_by2)
    (fun ρ => ∃ s6 x y : Sl, (s6 = .ow (.lst (ps.map .int)) ∨ s6 = .sh (.lst (ps.map .int))) ∧ ρ = [e0, e1, .sh (.lst (fs.map .int)), s3, s4, s5, s6, s7, x, y]) D.int (fun f => (ps.map fun q => f * q).map .int) (xs := fs)
    (ρ := [e0, e1, .sh (.lst (fs.map .int)), s3, s4, s5, .ow (.lst (ps.map .int)), s7, .un, .un]) ⟨_, _, _, .inl rfl, rfl⟩ (fun f hf ρ ⟨s6, x, y, h6, e⟩ => by
      subst e
      obtain ⟨ρ2, e2, z, hz⟩ := lcGo_map (body := lcT (fcOf C) (callF C k) [9] (.nm 9) .nil E_lot_by2) (fun ρ => ∃ z : Sl, ρ = [e0, e1, .sh (.lst (fs.map .int)), s3, s4, s5, .sh (.lst (ps.map .int)), s7, .sh (.int f), z]) D.int (fun q => [.int (f * q)]) (xs := ps)
        (ρ := [e0, e1, .sh (.lst (fs.map .int)), s3, s4, s5, .sh (.lst (ps.map .int)), s7, .sh (.int f), .un]) ⟨_, rfl⟩ (fun q hq ρ ⟨z, e⟩ => by
          subst e
          have mk := hm f hf q hq
          refine ⟨[e0, e1, .sh (.lst (fs.map .int)), s3, s4, s5, .sh (.lst (ps.map .int)), s7, .sh (.int f), .sh (.int q)], ?_, _, rfl⟩
          simp [lcT, wipeE, asgD, thenS, elemR, evC, E_lot_by2, evE, R.bind, slot, val, ofO, bop, mk, fresh, letR, letgo])
      subst hz
      rw [flat_one] at e2
      refine ⟨[e0, e1, .sh (.lst (fs.map .int)), s3, s4, s5, .sh (.lst (ps.map .int)), s7, .sh (.int f), z], ?_, _, _, _, .inr rfl, rfl⟩
      have ei : evI (fcOf C) (callF C k) I_lot_by1 [e0, e1, .sh (.lst (fs.map .int)), s3, s4, s5, s6, s7, .sh (.int f), .un] = .ok (ps.map .int) [e0, e1, .sh (.lst (fs.map .int)), s3, s4, s5, .sh (.lst (ps.map .int)), s7, .sh (.int f), .un] := by
        rcases h6 with rfl | rfl <;> simp [I_lot_by1, evI, evE, R.bind, slot, letgo, items, ofO]
      show asgThen (asgD [e0, e1, .sh (.lst (fs.map .int)), s3, s4, s5, s6, s7, .un, .un] (.nm 8) (.int f)) _ = _
      show (evI (fcOf C) (callF C k) I_lot_by1 [e0, e1, .sh (.lst (fs.map .int)), s3, s4, s5, s6, s7, .sh (.int f), .un]).bind _ = _
      rw [ei]
      show lcGo _ _ _ = _
      rw [e2, List.map_map]
      rfl)
  refine ⟨s6, ?_⟩
  have ei : evI (fcOf C) (callF C k) (.val (.var 2)) [e0, e1, .ow (.lst (fs.map .int)), s3, s4, s5, .ow (.lst (ps.map .int)), s7, s8, s9] = .ok (fs.map .int) [e0, e1, .sh (.lst (fs.map .int)), s3, s4, s5, .ow (.lst (ps.map .int)), s7, s8, s9] := by
    simp [evI, evE, R.bind, slot, letgo, items, ofO]
  have hh : hide [e0, e1, .sh (.lst (fs.map .int)), s3, s4, s5, .ow (.lst (ps.map .int)), s7, s8, s9] [8, 9] = some [e0, e1, .sh (.lst (fs.map .int)), s3, s4, s5, .ow (.lst (ps.map .int)), s7, .un, .un] := by
    cases s8 with
    | ow d => exact absurd rfl (h8 d)
    | un => cases s9 with
      | ow d => exact absurd rfl (h9 d)
      | un => rfl
      | sh d => rfl
    | sh d => cases s9 with
      | ow d => exact absurd rfl (h9 d)
      | un => rfl
      | sh d => rfl
  rw [evE_lc2, ei]
  show asgThen (hide _ [8, 9]) _ = _
  rw [hh, thenS, e, flat_flat]
  show (if fits _ = true then _ else _) = _
  rw [if_pos (by rw [List.length_map]; exact fits_of hl)]
  rfl
end
end Lv
namespace Lv
open PySem
theorem nr {α : Sort _} {a b : α} (h : a = b) : a = b := h
section
variable {fc : Nat → List Bool} {call : Nat → Env → FR} {ρ ρ1 : Env}
theorem vExL0 : exL fc call .nil ρ = .ok .nx ρ := nr rfl
theorem vExL1 {s : CS} {r : CSs} : exL fc call (.cons s r) ρ = (exS fc call s ρ).bind fun f ρ1 => match f with
    | .nx => exL fc call r ρ1
    | f => .ok f ρ1 := nr rfl
theorem vExp {e : CE} : exS fc call (.exp e) ρ = (evE fc call e ρ).bind fun _ ρ1 => .ok .nx ρ1 := nr rfl
theorem vAsg {t : Tg} {e : CE} : exS fc call (.asg t e) ρ = (evE fc call e ρ).bind fun v ρ1 => asgThen (asgV ρ1 t v) (fun ρ2 => .ok .nx ρ2) := nr rfl
theorem vPar {ts : List Nat} {es : CEs} : exS fc call (.par ts es) ρ = (evPs fc call es ρ).bind fun vs ρ1 => if vs.length = ts.length then .ok .nx (parE ρ1 ts vs) else .bad := nr rfl
theorem vPut {i : Nat} {k v : CE} : exS fc call (.put i k v) ρ = (evE fc call v ρ).bind fun vv ρ1 => match letgo ρ1 vv with
    | some (d, ρ2) => (match slot ρ2 i with
      | .ow (.lst _) => (evE fc call k ρ2).bind fun kv ρ3 => (match kv with
        | .sh kd => asgThen (putL kd d ρ3 i) (fun ρ4 => .ok .nx ρ4)
        | _ => .bad)
      | .ow (.dic _) => (evE fc call k ρ2).bind fun kv ρ3 => (match kv with
        | .sh kd => asgThen (putD kd d ρ3 i) (fun ρ4 => .ok .nx ρ4)
        | _ => .bad)
      | _ => .bad)
    | none => .bad := nr rfl
theorem vRet {e : CE} : exS fc call (.ret e) ρ = (evE fc call e ρ).bind fun v ρ1 => .ok (.ret v) ρ1 := nr rfl
theorem vRet0 : exS fc call .ret0 ρ = .ok (.ret (.sh .non)) ρ := nr rfl
theorem vIte {c : CE} {a b : CSs} : exS fc call (.ite c a b) ρ = (evE fc call c ρ).bind fun v ρ1 => (rTruth v ρ1).bind fun k ρ1 => if k then exL fc call a ρ1 else exL fc call b ρ1 := nr rfl
theorem vPass : exS fc call .pass ρ = .ok .nx ρ := nr rfl
theorem vBrk : exS fc call .brk ρ = .ok .brk ρ := nr rfl
theorem vCnt : exS fc call .cnt ρ = .ok .cnt ρ := nr rfl
theorem vRse {c : Nat} : exS fc call (.rse c) ρ = .ex c ρ := nr rfl
theorem vCst {d : D} : evE fc call (.cst d) ρ = .ok (.sh d) ρ := nr rfl
theorem vGlo {d : D} : evE fc call (.glo d) ρ = .ok (.sh d) ρ := nr rfl
theorem vVar {i : Nat} : evE fc call (.var i) ρ = match slot ρ i with
    | .un => .bad
    | .sh d => .ok (.sh d) ρ
    | .ow _ => .ok (.sl i) ρ := nr rfl
def bin2 (g : D → D → Option Vl) (ρ2 : Env) (v w : Vl) : R Vl := match val ρ2 v, val ρ2 w with
    | some x, some y => ofO (g x y) ρ2
    | _, _ => .bad
theorem bin2_v {g : D → D → Option Vl} {v w : Vl} : bin2 g ρ v w = match val ρ v, val ρ w with
    | some x, some y => ofO (g x y) ρ
    | _, _ => .bad := nr rfl
theorem vBop {o : Bop} {a b : CE} : evE fc call (.bop o a b) ρ = (evE fc call a ρ).bind fun v ρ1 => (evE fc call b ρ1).bind fun w ρ2 => bin2 (fun x y => (bop o x y).map fresh) ρ2 v w := nr rfl
theorem vCmp {o : Cop} {a b : CE} : evE fc call (.cmp o a b) ρ = (evE fc call a ρ).bind fun v ρ1 => (evE fc call b ρ1).bind fun w ρ2 => bin2 (fun x y => (cmp o x y).map fun k => .sh (.bl k)) ρ2 v w := nr rfl
theorem vIdx {a b : CE} : evE fc call (.idx a b) ρ = (evE fc call a ρ).bind fun v ρ1 => (evE fc call b ρ1).bind fun w ρ2 => bin2 (fun x y => (idx x y).map .sh) ρ2 v w := nr rfl
theorem vChn {o p : Cop} {a b c : CE} : evE fc call (.chn o p a b c) ρ = (evE fc call a ρ).bind fun v ρ1 => (evE fc call b ρ1).bind fun w ρ2 => match val ρ2 v, w with
    | some x, .sh y => (match cmp o x y with
      | some true => (evE fc call c ρ2).bind fun u ρ3 => (match val ρ3 u with
        | some z => ofO ((cmp p y z).map fun k => .sh (.bl k)) ρ3
        | none => .bad)
      | some false => .ok (.sh (.bl false)) ρ2
      | none => .bad)
    | _, _ => .bad := nr rfl
theorem vNeg {a : CE} : evE fc call (.neg a) ρ = (evE fc call a ρ).bind fun v ρ1 => match v with
    | .sh (.int i) => .ok (.sh (.int (-i))) ρ1
    | _ => .bad := nr rfl
theorem vNot {a : CE} : evE fc call (.not a) ρ = (evE fc call a ρ).bind fun v ρ1 => (rTruth v ρ1).bind fun b ρ1 => .ok (.sh (.bl (!b))) ρ1 := nr rfl
theorem vAnd {a b : CE} : evE fc call (.and a b) ρ = (evE fc call a ρ).bind fun v ρ1 => (rTruth v ρ1).bind fun k ρ1 => if k then evE fc call b ρ1 else .ok v ρ1 := nr rfl
theorem vOr {a b : CE} : evE fc call (.or a b) ρ = (evE fc call a ρ).bind fun v ρ1 => (rTruth v ρ1).bind fun k ρ1 => if k then .ok v ρ1 else evE fc call b ρ1 := nr rfl
theorem vIteE {c a b : CE} : evE fc call (.ite c a b) ρ = (evE fc call c ρ).bind fun v ρ1 => (rTruth v ρ1).bind fun k ρ1 => if k then evE fc call a ρ1 else evE fc call b ρ1 := nr rfl
theorem vTup {es : CEs} : evE fc call (.tup es) ρ = (evEs fc call es ρ).bind fun ds ρ1 => .ok (.sh (.tup ds)) ρ1 := nr rfl
theorem vLst {es : CEs} : evE fc call (.lst es) ρ = (evEs fc call es ρ).bind fun ds ρ1 => .ok (.ow (.lst ds)) ρ1 := nr rfl
theorem vStar {t : Bool} {es : CTs} : evE fc call (.star t es) ρ = (evTs fc call es ρ).bind fun ds ρ1 => if fits ds.length then (if t then .ok (.sh (.tup ds)) ρ1 else .ok (.ow (.lst ds)) ρ1) else .bad := nr rfl
theorem vDict {es : CKs} : evE fc call (.dict es) ρ = (evKs fc call es ρ).bind fun kvs ρ1 => .ok (.ow (.dic (dmerge [] kvs))) ρ1 := nr rfl
theorem vSli {a : CE} {lo hi : CEs} : evE fc call (.sli a lo hi) ρ = (evE fc call a ρ).bind fun v ρ1 => (evO fc call lo ρ1).bind fun l ρ2 => (evO fc call hi ρ2).bind fun h ρ3 => match val ρ3 v with
    | some x => ofO ((sli x l h).map fresh) ρ3
    | _ => .bad := nr rfl
theorem vRev {a : CE} : evE fc call (.rev a) ρ = (evE fc call a ρ).bind fun v ρ1 => match val ρ1 v with
    | some (.tup xs) => .ok (.sh (.tup xs.reverse)) ρ1
    | some (.lst xs) => .ok (.ow (.lst xs.reverse)) ρ1
    | _ => .bad := nr rfl
theorem vCall {f : Nat} {es : CEs} : evE fc call (.call f es) ρ = (evVs fc call es ρ).bind fun vs ρ1 => match lend ρ1 (fc f) vs with
    | some (args, ρ2) => (match call f args with
      | .ret (.sl _) _ => .bad
      | .ret v outs => .ok v (back ρ2 vs args outs)
      | .ex c outs => .ex c (back ρ2 vs args outs)
      | .bad => .bad)
    | none => .bad := nr rfl
theorem vBi {f : Bi} {es : CEs} : evE fc call (.bi f es) ρ = (evVs fc call es ρ).bind fun vs ρ1 => match vals ρ1 vs with
    | some ds => ofO ((bi f ds).map fresh) ρ1
    | none => .bad := nr rfl
theorem vIsi {a : CE} {ts : List Ty} : evE fc call (.isi a ts) ρ = (evE fc call a ρ).bind fun v ρ1 => match val ρ1 v with
    | some d => if plainD d then .ok (.sh (.bl (ts.any (isTy d)))) ρ1 else .bad
    | none => .bad := nr rfl
theorem vMet {m : Me} {a : CE} {es : CEs} : evE fc call (.met m a es) ρ = (evE fc call a ρ).bind fun v ρ1 => (evVs fc call es ρ1).bind fun vs ρ2 => match val ρ2 v, vals ρ2 vs with
    | some x, some ds => ofO ((met m x ds).map .sh) ρ2
    | _, _ => .bad := nr rfl
theorem vTix {ns : List Int} {e : CE} : evE fc call (.tix ns e) ρ = (evE fc call e ρ).bind fun v ρ1 => match v with
    | .sh (.int i) => ofO ((ns.findIdx? (· == i)).map fun (j : Nat) => Vl.sh (D.int j)) ρ1
    | _ => .bad := nr rfl
theorem vApp {i : Nat} {e : CE} : evE fc call (.app i e) ρ = match slot ρ i with
    | .ow (.lst _) => (evE fc call e ρ).bind fun v ρ1 => match letgo ρ1 v with
      | some (d, ρ2) => (match slot ρ2 i with
        | .ow (.lst xs) => if decide (xs.length < 16777216) then .ok (.sh .non) (ρ2.set i (.ow (.lst (xs ++ [d])))) else .bad
        | _ => .bad)
      | none => .bad
    | _ => .bad := nr rfl
theorem vPop {i : Nat} : evE fc call (.pop i) ρ = match slot ρ i with
    | .ow (.lst xs) => (match xs.getLast? with
      | some d => .ok (.sh d) (ρ.set i (.ow (.lst xs.dropLast)))
      | none => .bad)
    | _ => .bad := nr rfl
theorem vEs0 : evEs fc call .nil ρ = .ok [] ρ := nr rfl
theorem vEs1 {e : CE} {es : CEs} : evEs fc call (.cons e es) ρ = (evE fc call e ρ).bind fun v ρ1 => match letgo ρ1 v with
    | some (d, ρ2) => (evEs fc call es ρ2).bind fun ds ρ3 => .ok (d :: ds) ρ3
    | none => .bad := nr rfl
theorem vVs0 : evVs fc call .nil ρ = .ok [] ρ := nr rfl
theorem vVs1 {e : CE} {es : CEs} : evVs fc call (.cons e es) ρ = (evE fc call e ρ).bind fun v ρ1 => (evVs fc call es ρ1).bind fun vs ρ2 => .ok ((match v with | .ow d => .sh d | v => v) :: vs) ρ2 := nr rfl
theorem vPs0 : evPs fc call .nil ρ = .ok [] ρ := nr rfl
theorem vPs1 {e : CE} {es : CEs} : evPs fc call (.cons e es) ρ = (evE fc call e ρ).bind fun v ρ1 => match v with
    | .ow d => (evPs fc call es ρ1).bind fun r ρ2 => .ok (.ow d :: r) ρ2
    | v => (match letgo ρ1 v with
      | some (d, ρ2) => (evPs fc call es ρ2).bind fun r ρ3 => .ok (.sh d :: r) ρ3
      | none => .bad) := nr rfl
theorem vTs0 : evTs fc call .nil ρ = .ok [] ρ := nr rfl
theorem vTs1 {st : Bool} {e : CE} {es : CTs} : evTs fc call (.cons st e es) ρ = (evE fc call e ρ).bind fun v ρ1 => match letgo ρ1 v with
    | some (d, ρ2) => (match (if st then items d else some [d]) with
      | some as => (evTs fc call es ρ2).bind fun ds ρ3 => .ok (as ++ ds) ρ3
      | none => .bad)
    | none => .bad := nr rfl
theorem vKs0 : evKs fc call .nil ρ = .ok [] ρ := nr rfl
theorem vO0 : evO fc call .nil ρ = .ok none ρ := nr rfl
theorem vO1 {e : CE} {es : CEs} : evO fc call (.cons e es) ρ = (evE fc call e ρ).bind fun v ρ1 => match v with
    | .sh (.int i) => .ok (some i) ρ1
    | _ => .bad := nr rfl
theorem vC0 : evC fc call .nil ρ = .ok true ρ := nr rfl
theorem vC1 {e : CE} {es : CEs} : evC fc call (.cons e es) ρ = (evE fc call e ρ).bind rTruth := nr rfl
theorem vIv {e : CE} : evI fc call (.val e) ρ = (evE fc call e ρ).bind fun v ρ1 => match letgo ρ1 v with
    | some (d, ρ2) => ofO (items d) ρ2
    | none => .bad := nr rfl
theorem vIe {es : CEs} : evI fc call (.enum es) ρ = (evEs fc call es ρ).bind fun ds ρ1 => match ds with
    | [.lst xs] => .ok (xs.mapIdx fun i d => .tup [.int i, d]) ρ1
    | [.tup xs] => .ok (xs.mapIdx fun i d => .tup [.int i, d]) ρ1
    | _ => .bad := nr rfl
theorem vIz {es : CEs} : evI fc call (.zip es) ρ = (evEs fc call es ρ).bind fun ds ρ1 => match ds with
    | [.lst xs, .lst ys] => .ok ((xs.zip ys).map fun p => .tup [p.1, p.2]) ρ1
    | [.tup xs, .tup ys] => .ok ((xs.zip ys).map fun p => .tup [p.1, p.2]) ρ1
    | _ => .bad := nr rfl
end
end Lv
namespace Lv
open PySem
section
variable {ρ : Env} {α β : Type}
theorem bOk {a : α} {g : α → Env → R β} : (R.ok a ρ).bind g = g a ρ := nr rfl
theorem bEx {c : Nat} {g : α → Env → R β} : (R.ex c ρ : R α).bind g = .ex c ρ := nr rfl
theorem bBad {g : α → Env → R β} : (R.bad : R α).bind g = .bad := nr rfl
theorem sl0 {a : Sl} {r : Env} : slot (a :: r) 0 = a := nr rfl
theorem slS {a : Sl} {r : Env} {i : Nat} : slot (a :: r) (i + 1) = slot r i := nr rfl
theorem vlSh {d : D} : val ρ (.sh d) = some d := nr rfl
theorem vlOw {d : D} : val ρ (.ow d) = some d := nr rfl
theorem vlSl {i : Nat} : val ρ (.sl i) = match slot ρ i with
    | .ow d => some d
    | .sh d => some d
    | .un => none := nr rfl
theorem lgSh {d : D} : letgo ρ (.sh d) = some (d, ρ) := nr rfl
theorem lgOw {d : D} : letgo ρ (.ow d) = some (d, ρ) := nr rfl
theorem lgSl {i : Nat} : letgo ρ (.sl i) = match slot ρ i with
    | .ow d => some (d, ρ.set i (.sh d))
    | .sh d => some (d, ρ)
    | .un => none := nr rfl
theorem vs0 : vals ρ [] = some [] := nr rfl
theorem vs1 {v : Vl} {vs : List Vl} : vals ρ (v :: vs) = match val ρ v, vals ρ vs with
    | some d, some ds => some (d :: ds)
    | _, _ => none := nr rfl
theorem ofS {a : α} : ofO (some a) ρ = .ok a ρ := nr rfl
theorem ofN : ofO (none : Option α) ρ = .bad := nr rfl
theorem rTr {v : Vl} : rTruth v ρ = match val ρ v with
  | some d => ofO (truth d) ρ
  | none => .bad := nr rfl
theorem avN {i : Nat} {v : Vl} : asgV ρ (.nm i) v = put1 ρ i v := nr rfl
theorem avT {ts : List Tg} {v : Vl} : asgV ρ (.tup ts) v = match letgo ρ v with
    | some (d, ρ1) => asgD ρ1 (.tup ts) d
    | none => none := nr rfl
theorem p1Sh {i : Nat} {d : D} : put1 ρ i (.sh d) = some (ρ.set i (.sh d)) := nr rfl
theorem p1Ow {i : Nat} {d : D} : put1 ρ i (.ow d) = some (ρ.set i (.ow d)) := nr rfl
theorem p1Sl {i j : Nat} : put1 ρ i (.sl j) = match letgo ρ (.sl j) with
    | some (d, ρ1) => some (ρ1.set i (.sh d))
    | none => none := nr rfl
theorem aD1 {i : Nat} {d : D} : asgD ρ (.nm i) d = some (ρ.set i (.sh d)) := nr rfl
theorem aD2 {ts : List Tg} {ds : List D} : asgD ρ (.tup ts) (.tup ds) = asgDs ρ ts ds := by unfold asgD; rfl
theorem aDs0 : asgDs ρ [] [] = some ρ := by unfold asgDs; rfl
theorem aDs1 {t : Tg} {ts : List Tg} {d : D} {ds : List D} : asgDs ρ (t :: ts) (d :: ds) = match asgD ρ t d with
    | some ρ1 => asgDs ρ1 ts ds
    | none => none := by first | (rw [asgDs]; done) | (rw [asgDs]; rfl)
theorem pE0 {vs : List Sl} : parE ρ [] vs = ρ := by cases vs <;> rfl
theorem pE1 {i : Nat} {is : List Nat} {v : Sl} {vs : List Sl} : parE ρ (i :: is) (v :: vs) = parE (ρ.set i v) is vs := nr rfl
theorem so0 {i : Nat} : sole i [] = true := nr rfl
theorem so1 {i j : Nat} {r : List Vl} : sole i (.sl j :: r) = (decide (i ≠ j) && sole i r) := nr rfl
theorem so2 {i : Nat} {d : D} {r : List Vl} : sole i (.sh d :: r) = sole i r := nr rfl
theorem ld0 {bs : List Bool} : lend ρ bs [] = some ([], ρ) := by unfold lend; cases bs <;> rfl
theorem ldSh {bs : List Bool} {d : D} {vs : List Vl} : lend ρ bs (.sh d :: vs) = match lend ρ bs.tail vs with
          | some (r, ρ') => some (.sh d :: r, ρ')
          | none => none := by first | (rw [lend]; done) | (rw [lend]; rfl)
theorem ldSl {bs : List Bool} {i : Nat} {vs : List Vl} : lend ρ bs (.sl i :: vs) = match slot ρ i with
      | .ow d => if bs.headD true || !sole i vs then (match lend (ρ.set i (.sh d)) bs.tail vs with
          | some (r, ρ') => some (.sh d :: r, ρ')
          | none => none)
        else (match lend ρ bs.tail vs with
          | some (r, ρ') => some (.ow d :: r, ρ')
          | none => none)
      | .sh d => (match lend ρ bs.tail vs with
          | some (r, ρ') => some (.sh d :: r, ρ')
          | none => none)
      | .un => none := by first | (rw [lend]; done) | (rw [lend]; rfl)
theorem bk0 {as os : Env} : back ρ [] as os = ρ := by cases as <;> cases os <;> rfl
theorem bkSh {d a o : _} {vs : List Vl} {as os : Env} : back ρ (.sh d :: vs) (a :: as) (o :: os) = back ρ vs as os := by cases a <;> rfl
theorem bkSl {i : Nat} {d : D} {o : Sl} {vs : List Vl} {as os : Env} : back ρ (.sl i :: vs) (.ow d :: as) (o :: os) = back (ρ.set i o) vs as os := nr rfl
theorem bkSs {i : Nat} {d : D} {o : Sl} {vs : List Vl} {as os : Env} : back ρ (.sl i :: vs) (.sh d :: as) (o :: os) = back ρ vs as os := nr rfl
theorem hd1 {b : Bool} {bs : List Bool} : (b :: bs).headD true = b := nr rfl
theorem tl1 {b : Bool} {bs : List Bool} : (b :: bs).tail = bs := nr rfl
theorem frI {i : Int} : fresh (.int i) = .sh (.int i) := nr rfl
theorem frN : fresh .non = .sh .non := nr rfl
theorem frB {i : Bool} : fresh (.bl i) = .sh (.bl i) := nr rfl
theorem frT' {ds : List D} : fresh (.tup ds) = .sh (.tup ds) := nr rfl
theorem frL {ds : List D} : fresh (.lst ds) = .ow (.lst ds) := nr rfl
theorem frS {s : Str} : fresh (.str s) = .sh (.str s) := nr rfl
theorem frD {s : List (D × D)} : fresh (.dic s) = .ow (.dic s) := nr rfl
theorem tNon : truth .non = some false := nr rfl
theorem tBl {b : Bool} : truth (.bl b) = some b := nr rfl
theorem tTup {ds : List D} : truth (.tup ds) = some (!ds.isEmpty) := nr rfl
theorem tLst {ds : List D} : truth (.lst ds) = some (!ds.isEmpty) := nr rfl
theorem tInt {i : Int} : truth (.int i) = some (i != 0) := nr rfl
theorem fnR {f : Fn} {args : Env} {v : Vl} : fin f args (.ok (.ret v) ρ) = finF f args v ρ := nr rfl
theorem fnN {f : Fn} {args : Env} : fin f args (.ok .nx ρ) = .ret (.sh .non) (outsOf args ρ) := nr rfl
theorem fnE {f : Fn} {args : Env} {c : Nat} : fin f args (.ex c ρ) = .ex c (outsOf args ρ) := nr rfl
theorem ffSh {f : Fn} {args : Env} {d : D} : finF f args (.sh d) ρ = .ret (.sh d) (outsOf args ρ) := nr rfl
theorem ffOw {f : Fn} {args : Env} {d : D} : finF f args (.ow d) ρ = .ret (.ow d) (outsOf args ρ) := nr rfl
theorem ffSl {f : Fn} {args : Env} {i : Nat} : finF f args (.sl i) ρ = match slot ρ i with
    | .ow d => if decide (f.ps ≤ i) && keptAll args ρ then .ret (.ow d) (outsOf args ρ) else .ret (.sh d) (outsOf args (ρ.set i (.sh d)))
    | .sh d => .ret (.sh d) (outsOf args ρ)
    | .un => .bad := nr rfl
def outs2 : Env → Env → Env
  | [], _ => []
  | .ow _ :: as, ρ => slot ρ 0 :: outs2 as ρ.tail
  | a :: as, ρ => a :: outs2 as ρ.tail
end
theorem slot_tail (ρ : Env) (j : Nat) : slot ρ.tail j = slot ρ (j + 1) := by
  cases ρ <;> rfl
theorem outs_eq : ∀ (as ρ : Env), outsOf as ρ = outs2 as ρ
  | [], _ => rfl
  | a :: as, ρ => by
    unfold outsOf
    rw [List.mapIdx_cons]
    have ih := outs_eq as ρ.tail
    unfold outsOf at ih
    have e : (as.mapIdx fun j a => match a with | .ow _ => slot ρ (j + 1) | a => a) = outs2 as ρ.tail := by
      rw [← ih]
      congr 1
      funext j a
      cases a <;> first | rfl | (simp only [slot_tail])
    cases a <;> exact congrArg _ e
theorem ou0 {ρ : Env} : outs2 [] ρ = [] := nr rfl
theorem ouSh {ρ as : Env} {a : Sl} {d : D} : outs2 (.sh d :: as) (a :: ρ) = .sh d :: outs2 as ρ := nr rfl
theorem ouOw {ρ as : Env} {a : Sl} {d : D} : outs2 (.ow d :: as) (a :: ρ) = a :: outs2 as ρ := nr rfl
def kept2 : Env → Env → Bool
  | [], _ => true
  | a :: as, ρ => (!isOw a || isOw (slot ρ 0)) && kept2 as ρ.tail
theorem kept_eq : ∀ (as ρ : Env), keptAll as ρ = kept2 as ρ
  | [], _ => rfl
  | a :: as, ρ => by
    unfold keptAll
    rw [List.length_cons, List.range_succ_eq_map, List.all_cons, List.all_map]
    have ih := kept_eq as ρ.tail
    unfold keptAll at ih
    show _ = ((!isOw a || isOw (slot ρ 0)) && kept2 as ρ.tail)
    rw [← ih]
    congr 1
    congr 1
    funext j
    simp only [Function.comp, slot_tail]
    rfl
theorem ke0 {ρ : Env} : kept2 [] ρ = true := nr rfl
theorem keSh {ρ as : Env} {a : Sl} {d : D} : kept2 (.sh d :: as) (a :: ρ) = kept2 as ρ := nr rfl
theorem keOw {ρ as : Env} {d d' : D} : kept2 (.ow d :: as) (.ow d' :: ρ) = kept2 as ρ := nr rfl
theorem litN {n : Nat} : (OfNat.ofNat n : Int) = ((OfNat.ofNat n : Nat) : Int) := nr rfl
theorem nAdd {a b : Nat} : ((a : Int) + (b : Int)) = ((a + b : Nat) : Int) := by omega
theorem nMul {a b : Nat} : ((a : Int) * (b : Int)) = ((a * b : Nat) : Int) := by push_cast; rfl
theorem nSub {a b : Nat} (h : b ≤ a) : ((a : Int) - (b : Int)) = ((a - b : Nat) : Int) := by omega
theorem nDiv {a b : Nat} : (a : Int).fdiv (b : Int) = ((a / b : Nat) : Int) := by
  rw [Int.fdiv_eq_ediv_of_nonneg _ (by omega)]; push_cast; rfl
theorem nMod {a b : Nat} : (a : Int).fmod (b : Int) = ((a % b : Nat) : Int) := by
  rw [Int.fmod_eq_emod_of_nonneg _ (by omega)]; push_cast; rfl
theorem nPow {a b : Nat} : (a : Int) ^ b = ((a ^ b : Nat) : Int) := by push_cast; rfl
theorem nToNat {a : Nat} : (a : Int).toNat = a := nr rfl
theorem oAdd {i j : Int} : bop .add (.int i) (.int j) = some (.int (i + j)) := nr rfl
theorem oSub {i j : Int} : bop .sub (.int i) (.int j) = some (.int (i - j)) := nr rfl
theorem oMulL {i j : Int} (h1 : -18446744073709551616 < i) (h2 : i < 18446744073709551616) : bop .mul (.int i) (.int j) = some (.int (i * j)) := by
  have mk : mulOk i j = true := mulOk_l (ibits_le (by have e : (2 : Nat) ^ 64 = 18446744073709551616 := by decide
                                                      rw [e]; omega))
  show (if mulOk i j = true then _ else _) = _
  rw [if_pos mk]
theorem oMulR {i j : Int} (h1 : -18446744073709551616 < j) (h2 : j < 18446744073709551616) : bop .mul (.int i) (.int j) = some (.int (i * j)) := by
  have mk : mulOk i j = true := mulOk_r (ibits_le (by have e : (2 : Nat) ^ 64 = 18446744073709551616 := by decide
                                                      rw [e]; omega))
  show (if mulOk i j = true then _ else _) = _
  rw [if_pos mk]
theorem oMulH {i j : Int} (mk : mulOk i j = true) : bop .mul (.int i) (.int j) = some (.int (i * j)) := by
  show (if mulOk i j = true then _ else _) = _
  rw [if_pos mk]
theorem oDiv {i j : Int} (h1 : 0 < j) (h2 : j < 1073741824) : bop .fdiv (.int i) (.int j) = some (.int (i.fdiv j)) := by
  have dv : Builtin.divisionGoesByPylong i j = false := PyProof.noPylong_small (by omega)
  have jz : decide (j ≠ 0) = true := decide_eq_true (by omega)
  show (if (decide (j ≠ 0) && !(Builtin.divisionGoesByPylong i j)) = true then _ else _) = _
  rw [dv, jz]
  rfl
theorem oMod {i j : Int} (h1 : j ≠ 0) : bop .mod (.int i) (.int j) = some (.int (i.fmod j)) := by
  show (if decide (j ≠ 0) = true then _ else _) = _
  rw [if_pos (decide_eq_true h1)]
theorem oPow {i j : Int} (h1 : 0 ≤ j) (h2 : j ≤ 1000000) (h3 : i.natAbs < 2 ^ 64) : bop .pow (.int i) (.int j) = some (.int (i ^ j.toNat)) := by
  show (if (decide (0 ≤ j) && decide (j ≤ 1000000) && decide (i.natAbs < 2 ^ 64)) = true then _ else _) = _
  rw [if_pos (by rw [decide_eq_true h1, decide_eq_true h2, decide_eq_true h3]; rfl)]
theorem cLtT {i j : Int} (h : i < j) : cmp .lt (.int i) (.int j) = some true := congrArg some (decide_eq_true h)
theorem cLtF {i j : Int} (h : j ≤ i) : cmp .lt (.int i) (.int j) = some false := congrArg some (decide_eq_false (by omega))
theorem cLeT {i j : Int} (h : i ≤ j) : cmp .le (.int i) (.int j) = some true := congrArg some (decide_eq_true h)
theorem cLeF {i j : Int} (h : j < i) : cmp .le (.int i) (.int j) = some false := congrArg some (decide_eq_false (by omega))
theorem cGtT {i j : Int} (h : j < i) : cmp .gt (.int i) (.int j) = some true := congrArg some (decide_eq_true h)
theorem cGtF {i j : Int} (h : i ≤ j) : cmp .gt (.int i) (.int j) = some false := congrArg some (decide_eq_false (by omega))
theorem cGeT {i j : Int} (h : j ≤ i) : cmp .ge (.int i) (.int j) = some true := congrArg some (decide_eq_true h)
theorem cGeF {i j : Int} (h : i < j) : cmp .ge (.int i) (.int j) = some false := congrArg some (decide_eq_false (by omega))
theorem cEqT {i j : Int} (h : i = j) : cmp .eq (.int i) (.int j) = some true := by
  rw [cmp, deq_int, decide_eq_true h]
theorem cEqF {i j : Int} (h : ¬ i = j) : cmp .eq (.int i) (.int j) = some false := by
  rw [cmp, deq_int, decide_eq_false h]
theorem cNeT {i j : Int} (h : ¬ i = j) : cmp .ne (.int i) (.int j) = some true := by
  rw [cmp, deq_int, decide_eq_false h]
  rfl
theorem cNeF {i j : Int} (h : i = j) : cmp .ne (.int i) (.int j) = some false := by
  rw [cmp, deq_int, decide_eq_true h]
  rfl
theorem cIs {a : D} : cmp .is a .non = some (isNon a) := by cases a <;> rfl
theorem cIsB {a b : Bool} : cmp .is (.bl a) (.bl b) = some (a == b) := nr rfl
theorem cIsnB {a b : Bool} : cmp .isnot (.bl a) (.bl b) = some (!(a == b)) := nr rfl
theorem cIsn {a : D} : cmp .isnot a .non = some (!isNon a) := by cases a <;> rfl
theorem xTup {ds : List D} {j : Nat} (h : j < ds.length) : idx (.tup ds) (.int (j : Int)) = some (ds[j]) := by
  show (L2.ixN ds.length j).bind _ = _
  rw [ixN_of h]
  exact List.getElem?_eq_getElem h
theorem xLst {ds : List D} {j : Nat} (h : j < ds.length) : idx (.lst ds) (.int (j : Int)) = some (ds[j]) := by
  show (L2.ixN ds.length j).bind _ = _
  rw [ixN_of h]
  exact List.getElem?_eq_getElem h
section
variable {t : Ty} {i : Int} {b : Bool} {x : Str} {ds : List D} {kv : List (D × D)}
theorem zyI : isTy (.int i) t = match t with | .int => true | _ => false := by cases t <;> rfl
theorem zyB : isTy (.bl b) t = match t with | .int => true | .bool => true | _ => false := by cases t <;> rfl
theorem zyS : isTy (.str x) t = match t with | .str => true | _ => false := by cases t <;> rfl
theorem zyT : isTy (.tup ds) t = match t with | .tuple => true | _ => false := by cases t <;> rfl
theorem zyL : isTy (.lst ds) t = match t with | .list => true | _ => false := by cases t <;> rfl
theorem zyD : isTy (.dic kv) t = match t with | .dict => true | _ => false := by cases t <;> rfl
theorem zyN : isTy .non t = false := by cases t <;> rfl
theorem plI : plainD (.int i) = true := nr rfl
theorem plB : plainD (.bl b) = true := nr rfl
theorem plS : plainD (.str x) = true := nr rfl
theorem plT : plainD (.tup ds) = true := nr rfl
theorem plL : plainD (.lst ds) = true := nr rfl
theorem plD : plainD (.dic kv) = true := nr rfl
theorem plN : plainD .non = true := nr rfl
end
theorem decT {p : Prop} [Decidable p] (h : p) : decide p = true := decide_eq_true h
theorem decF {p : Prop} [Decidable p] (h : ¬ p) : decide p = false := decide_eq_false h
theorem iteT {α : Type} {c : Prop} [Decidable c] {a b : α} (h : c) : (if c then a else b) = a := if_pos h
theorem iteF {α : Type} {c : Prop} [Decidable c] {a b : α} (h : ¬ c) : (if c then a else b) = b := if_neg h
end Lv
namespace Lv
open PySem
section
variable {fc : Nat → List Bool} {call : Nat → Env → FR} {ρ ρ1 ρ2 : Env} {st : CS} {r : CSs} {v : Vl} {res : R Fl}
theorem exL_to (h : exS fc call st ρ = .ok .nx ρ1) (h2 : exL fc call r ρ1 = res) : exL fc call (.cons st r) ρ = res := by rw [exL_nx h, h2]
theorem exL_end (h : exS fc call st ρ = .ok (.ret v) ρ1) : exL fc call (.cons st r) ρ = .ok (.ret v) ρ1 := exL_rt h
theorem callF_of {C : List Fn} {k i : Nat} {f : Fn} {args : Env} {o : FR} (h : C[i]? = some f) (ho : okArgs f.st args = true) (hb : exL (fcOf C) (callF C k) f.body (args ++ List.replicate (f.n - f.ps) .un) = .ok (.ret v) ρ1) (hf : finF f args v ρ1 = o) : callF C (k + 1) i args = o := by
  rw [callF_eq h ho, hb]
  exact hf
end
end Lv
open Lv in
local macro_rules
  | `(tactic| simp? [$ts,*]) => `(tactic| simp (maxSteps := 1000000) (disch := (first | (with_reducible assumption) | omega | (simp only [List.length_map, List.length_range, List.length_cons, List.length_nil, List.length_append]; omega) | decide)) only [vExL0, vExL1, vExp, vAsg, vPar, vPut, vRet, vRet0, vIte, vPass, vBrk, vCnt, vRse, vCst, vGlo, vVar, bin2_v, vBop, vCmp, vIdx, vChn, vNeg, vNot, vAnd, vOr, vIteE, vTup, vLst, vStar, vDict, vSli, vRev, vCall, vBi, vIsi, vMet, vTix, vApp, vPop, vEs0, vEs1, vVs0, vVs1, vPs0, vPs1, vTs0, vTs1, vKs0, vO0, vO1, vC0, vC1, vIv, vIe, vIz,
  bOk, bEx, bBad, sl0, slS, vlSh, vlOw, vlSl, lgSh, lgOw, lgSl, vs0, vs1, ofS, ofN, rTr, avN, avT, p1Sh, p1Ow, p1Sl, aD1, aD2, aDs0, aDs1, pE0, pE1, so0, so1, so2, ld0, ldSh, ldSl, bk0, bkSh, bkSl, bkSs, hd1, tl1, frI, frN, frB, frT', frL, frS, frD, tNon, tBl, tTup, tLst, tInt, fnR, fnN, fnE, ffSh, ffOw, ffSl, outs_eq, ou0, ouSh, ouOw, kept_eq, ke0, keSh, keOw,
  litN, nAdd, nMul, nSub, nDiv, nMod, nPow, nToNat, oAdd, oSub, oMulL, oMulR, oMulH, oDiv, oMod, oPow, cLtT, cLtF, cLeT, cLeF, cGtT, cGtF, cGeT, cGeF, cEqT, cEqF, cNeT, cNeF, cIs, cIsn, cIsB, cIsnB, isNon, decT, decF, iteT, iteF, thenS, thenN, zyI, zyB, zyS, zyT, zyL, zyD, zyN, plI, plB, plS, plT, plL, plD, plN,
  List.set_cons_zero, List.set_cons_succ, List.length_cons, List.length_nil, List.cons_append, List.nil_append, List.append_nil, List.replicate_succ, List.replicate_zero, List.isEmpty_cons, List.isEmpty_nil, List.any_cons, List.any_nil, List.all_cons, List.all_nil, List.map_cons, List.map_nil, List.length_map, List.length_range,
  Option.map_some, Option.map_none, Option.bind_some, Option.bind_none, Bool.not_true, Bool.not_false, Bool.and_true, Bool.true_and, Bool.and_false, Bool.false_and, Bool.or_true, Bool.true_or, Bool.or_false, Bool.false_or, Bool.not_not, decide_true, decide_false, decide_eq_true_eq, if_true, if_false, ite_true, ite_false, ↓reduceIte, reduceCtorEq, ne_eq, not_true_eq_false, not_false_eq_true, Nat.reduceAdd, Nat.reduceSub, Nat.reduceMul, Nat.reduceDiv, Nat.reduceMod, Nat.reducePow, Nat.reduceEqDiff, Nat.reduceLeDiff, Nat.add_zero, Nat.zero_add, Nat.sub_self, Nat.sub_zero, Nat.add_sub_cancel, Bool.false_eq_true, and_self, and_true, true_and, or_true, true_or, or_false, false_or, $ts,*])
open Lv in
local macro_rules
  | `(tactic| simp?! [$ts,*]) => `(tactic| (refine exL_to (ρ1 := ?_) ?_ ?_; rotate_left; focus (first | (simp? [$ts,*]; done) | (simp? [$ts,*]; exact rfl))))
open Lv in
local macro_rules
  | `(tactic| simp_all? [$ts,*]) => `(tactic| (refine exL_end ?_; first | (simp? [$ts,*]; done) | (simp? [$ts,*]; exact rfl)))
namespace Lv
open PySem
section
variable {fc : Nat → List Bool} {call : Nat → Env → FR} {ρ ρ1 ρ2 : Env} {own : List Nat} {t : Tg} {it : CI} {c : CEs} {e : CE} {α β S : Type}
theorem letR_ok {w : Vl} {d : D} (h : (w = .sh d) ∨ (w = .ow d)) : letR w ρ = .ok [d] ρ := by
  rcases h with rfl | rfl <;> rfl
theorem flat_if (p : β → Bool) (g : β → D) : ∀ xs : List β, (xs.map fun x => if p x then [g x] else []).flatten = (xs.filter p).map g
  | [] => rfl
  | x :: xs => by
    rw [List.map_cons, List.flatten_cons, flat_if p g xs, List.filter_cons]
    cases p x <;> rfl
theorem show_wipe : ∀ (own : List Nat) (r ρ0 : Env), show_ ρ0 r own = show_ ρ0 (wipeE r own) own := by
  intro own
  induction own with
  | nil => intro r ρ0; rfl
  | cons i own ih =>
    intro r ρ0
    show show_ ρ0 (r.set i (slot ρ0 i)) own = show_ ρ0 ((wipeE (r.set i .un) own).set i (slot ρ0 i)) own
    rw [ih (r.set i (slot ρ0 i))]
    have : ∀ (own : List Nat) (a : Env) (z z' : Sl), wipeE (a.set i z') own = wipeE ((wipeE (a.set i z) own).set i z') own := by
      intro own
      induction own with
      | nil => intro a z z'; show a.set i z' = (a.set i z).set i z'; rw [List.set_set]
      | cons j own ih =>
        intro a z z'
        show wipeE ((a.set i z').set j .un) own = wipeE (((wipeE ((a.set i z).set j .un) own).set i z').set j .un) own
        by_cases hij : i = j
        · subst hij
          rw [List.set_set, List.set_set, List.set_set]
          have := ih a .un .un
          exact this
        · rw [List.set_comm _ _ hij, List.set_comm _ _ hij, List.set_comm _ _ hij]
          have h1 := ih (a.set j .un) z z'
          rw [h1]
          congr 1
          have h2 : ∀ (own : List Nat) (a : Env) (u : Sl), (wipeE (a.set j .un) own).set j .un = wipeE (a.set j .un) own := by
            intro own
            induction own with
            | nil => intro a u; show (a.set j .un).set j .un = _; rw [List.set_set]; rfl
            | cons m own ih =>
              intro a u
              show (wipeE ((a.set j .un).set m .un) own).set j .un = wipeE ((a.set j .un).set m .un) own
              by_cases hjm : j = m
              · subst hjm
                rw [List.set_set]
                exact ih a u
              · rw [List.set_comm _ _ hjm]
                exact ih _ u
          have := h2 own (a.set i z) .un
          rw [List.set_comm _ _ hij] at this
          rw [this]
    have h3 := this own r .un (slot ρ0 i)
    rw [h3, ← ih]
theorem lc_map (v : β → D) (p : β → Bool) (g : β → D) (w : β → Vl) (E : β → Env) {l : List β} (hi : evI fc call it ρ = .ok (l.map v) ρ1) (hh : hide ρ1 own = some ρ2) (hz : wipeE ρ2 own = ρ2) (ha : ∀ x ∈ l, asgD ρ2 t (v x) = some (E x)) (hw : ∀ x, wipeE (E x) own = ρ2)
    (hc : ∀ x ∈ l, evC fc call c (E x) = .ok (p x) (E x)) (he : ∀ x ∈ l, p x = true → evE fc call e (E x) = .ok (w x) (E x)) (hg : ∀ x, w x = .sh (g x) ∨ w x = .ow (g x)) (hl : l.length ≤ 16777216) :
    evE fc call (.lc own t it c e) ρ = .ok (.ow (.lst ((l.filter p).map g))) (show_ ρ1 ρ2 own) := by
  have key : ∀ (m : List β), (∀ x ∈ m, x ∈ l) → ∀ r, wipeE r own = ρ2 → ∃ r', wipeE r' own = ρ2 ∧ lcGo (lcT fc call own t c e) (m.map v) r = .ok (m.map fun x => if p x then [g x] else []).flatten r' := by
    intro m
    induction m with
    | nil => intro _ r hr; exact ⟨r, hr, rfl⟩
    | cons x m ih =>
      intro hm r hr
      have hx := hm x List.mem_cons_self
      have e1 : lcT fc call own t c e (v x) r = .ok (if p x then [g x] else []) (E x) := by
        unfold lcT
        rw [hr, ha x hx]
        show (evC fc call c (E x)).bind _ = _
        rw [hc x hx]
        show (if p x = true then _ else _) = _
        cases hp : p x with
        | false => rfl
        | true =>
          rw [if_pos rfl]
          show (evE fc call e (E x)).bind letR = _
          rw [he x hx hp]
          exact letR_ok (hg x)
      obtain ⟨r', h1, h2⟩ := ih (fun y hy => hm y (List.mem_cons_of_mem _ hy)) (E x) (hw x)
      refine ⟨r', h1, ?_⟩
      rw [List.map_cons]
      unfold lcGo
      rw [e1]
      simp only
      rw [h2]
      rfl
  obtain ⟨r', h1, h2⟩ := key l (fun _ h => h) ρ2 hz
  rw [evE_lc, hi]
  show asgThen (hide ρ1 own) _ = _
  rw [hh, thenS, h2, flat_if]
  show (if fits _ = true then _ else _) = _
  rw [if_pos (fits_of (by rw [List.length_map]; exact Nat.le_trans (List.length_filter_le _ _) hl))]
  rw [show_wipe own r' ρ1, h1]
theorem lc_map0 (v : β → D) (g : β → D) (w : β → Vl) (E : β → Env) {l : List β} (hi : evI fc call it ρ = .ok (l.map v) ρ1) (hh : hide ρ1 own = some ρ2) (hz : wipeE ρ2 own = ρ2) (ha : ∀ x ∈ l, asgD ρ2 t (v x) = some (E x)) (hw : ∀ x, wipeE (E x) own = ρ2)
    (he : ∀ x ∈ l, evE fc call e (E x) = .ok (w x) (E x)) (hg : ∀ x, w x = .sh (g x) ∨ w x = .ow (g x)) (hl : l.length ≤ 16777216) :
    evE fc call (.lc own t it .nil e) ρ = .ok (.ow (.lst (l.map g))) (show_ ρ1 ρ2 own) := by
  have := lc_map v (fun _ => true) g w E (c := .nil) hi hh hz ha hw (fun _ _ => rfl) (fun x hx _ => he x hx) hg hl
  rw [this]
  congr 4
  exact List.filter_eq_self.mpr fun _ _ => rfl
theorem lc_m (v : β → D) (p : β → Bool) (g : β → D) (w : β → Vl) (E : β → Env) {l : List β} (hh : hide ρ own = some ρ2) (hz : wipeE ρ2 own = ρ2) (hs : show_ ρ ρ2 own = ρ) (hi : evI fc call it ρ = .ok (l.map v) ρ) (ha : ∀ x ∈ l, asgD ρ2 t (v x) = some (E x)) (hw : ∀ x, wipeE (E x) own = ρ2)
    (hc : ∀ x ∈ l, evC fc call c (E x) = .ok (p x) (E x)) (he : ∀ x ∈ l, p x = true → evE fc call e (E x) = .ok (w x) (E x)) (hg : ∀ x, w x = .sh (g x) ∨ w x = .ow (g x)) (hl : l.length ≤ 16777216) :
    evE fc call (.lc own t it c e) ρ = .ok (.ow (.lst ((l.filter p).map g))) ρ := by
  rw [lc_map v p g w E hi hh hz ha hw hc he hg hl, hs]
theorem lc_m0 (v : β → D) (g : β → D) (w : β → Vl) (E : β → Env) {l : List β} (hh : hide ρ own = some ρ2) (hz : wipeE ρ2 own = ρ2) (hs : show_ ρ ρ2 own = ρ) (hi : evI fc call it ρ = .ok (l.map v) ρ) (ha : ∀ x ∈ l, asgD ρ2 t (v x) = some (E x)) (hw : ∀ x, wipeE (E x) own = ρ2)
    (he : ∀ x ∈ l, evE fc call e (E x) = .ok (w x) (E x)) (hg : ∀ x, w x = .sh (g x) ∨ w x = .ow (g x)) (hl : l.length ≤ 16777216) :
    evE fc call (.lc own t it .nil e) ρ = .ok (.ow (.lst (l.map g))) ρ := by
  rw [lc_map0 v g w E hi hh hz ha hw he hg hl, hs]
theorem lc2_m {own1 : List Nat} {t1 : Tg} {it1 : CI} {γ : Type} (v : β → D) (m : β → List γ) (v1 : β → γ → D) (p : β → γ → Bool) (g : β → γ → D) (w : β → γ → Vl) (E : β → Env) (E2 : β → γ → Env) {l : List β} (hh : hide ρ own = some ρ2) (hz : wipeE ρ2 own = ρ2) (hs : show_ ρ ρ2 own = ρ) (hi : evI fc call it ρ = .ok (l.map v) ρ) (ha : ∀ x ∈ l, asgD ρ2 t (v x) = some (E x))
    (hw : ∀ x, wipeE (E x) own = ρ2) (hw1 : ∀ x, wipeE (E x) own1 = E x) (hi1 : ∀ x ∈ l, evI fc call it1 (E x) = .ok ((m x).map (v1 x)) (E x)) (ha1 : ∀ x ∈ l, ∀ y ∈ m x, asgD (E x) t1 (v1 x y) = some (E2 x y)) (hw2 : ∀ x y, wipeE (E2 x y) own1 = E x) (hw3 : ∀ x y, wipeE (E2 x y) own = ρ2)
    (hc : ∀ x ∈ l, ∀ y ∈ m x, evC fc call c (E2 x y) = .ok (p x y) (E2 x y)) (he : ∀ x ∈ l, ∀ y ∈ m x, p x y = true → evE fc call e (E2 x y) = .ok (w x y) (E2 x y)) (hg : ∀ x y, w x y = .sh (g x y) ∨ w x y = .ow (g x y)) (hl : (l.flatMap fun x => ((m x).filter (p x)).map (g x)).length ≤ 16777216) :
    evE fc call (.lc2 own own1 t it t1 it1 c e) ρ = .ok (.ow (.lst (l.flatMap fun x => ((m x).filter (p x)).map (g x)))) ρ := by
  have inner : ∀ x ∈ l, ∀ (n : List γ), (∀ y ∈ n, y ∈ m x) → ∀ r, wipeE r own1 = E x → wipeE r own = ρ2 → ∃ r', wipeE r' own1 = E x ∧ wipeE r' own = ρ2 ∧ lcGo (lcT fc call own1 t1 c e) (n.map (v1 x)) r = .ok (n.map fun y => if p x y then [g x y] else []).flatten r' := by
    intro x hx n
    induction n with
    | nil => intro _ r h1 h2; exact ⟨r, h1, h2, rfl⟩
    | cons y n ih =>
      intro hm r h1 h2
      have hy := hm y List.mem_cons_self
      have e1 : lcT fc call own1 t1 c e (v1 x y) r = .ok (if p x y then [g x y] else []) (E2 x y) := by
        unfold lcT
        rw [h1, ha1 x hx y hy]
        show (evC fc call c (E2 x y)).bind _ = _
        rw [hc x hx y hy]
        show (if p x y = true then _ else _) = _
        cases hp : p x y with
        | false => rfl
        | true =>
          rw [if_pos rfl]
          show (evE fc call e (E2 x y)).bind letR = _
          rw [he x hx y hy hp]
          exact letR_ok (hg x y)
      obtain ⟨r', a1, a2, a3⟩ := ih (fun z hz => hm z (List.mem_cons_of_mem _ hz)) (E2 x y) (hw2 x y) (hw3 x y)
      refine ⟨r', a1, a2, ?_⟩
      rw [List.map_cons]
      unfold lcGo
      rw [e1]
      simp only
      rw [a3]
      rfl
  have outer : ∀ (n : List β), (∀ x ∈ n, x ∈ l) → ∀ r, wipeE r own = ρ2 → ∃ r', wipeE r' own = ρ2 ∧ lcGo (lcT2 fc call own own1 t t1 it1 c e) (n.map v) r = .ok (n.flatMap fun x => ((m x).filter (p x)).map (g x)) r' := by
    intro n
    induction n with
    | nil => intro _ r h; exact ⟨r, h, rfl⟩
    | cons x n ih =>
      intro hm r h
      have hx := hm x List.mem_cons_self
      obtain ⟨r1, b1, b2, b3⟩ := inner x hx (m x) (fun _ z => z) (E x) (hw1 x) (hw x)
      have e1 : lcT2 fc call own own1 t t1 it1 c e (v x) r = .ok (((m x).filter (p x)).map (g x)) r1 := by
        unfold lcT2
        rw [h, ha x hx, thenS, hi1 x hx, bind_ok, b3, flat_if]
      obtain ⟨r', a1, a2⟩ := ih (fun z hz => hm z (List.mem_cons_of_mem _ hz)) r1 b2
      refine ⟨r', a1, ?_⟩
      rw [List.map_cons]
      unfold lcGo
      rw [e1]
      simp only
      rw [a2]
      rfl
  obtain ⟨r', h1, h2⟩ := outer l (fun _ h => h) ρ2 hz
  rw [evE_lc2, hi]
  show asgThen (hide ρ own) _ = _
  rw [hh, thenS, h2]
  show (if fits _ = true then _ else _) = _
  rw [if_pos (fits_of hl), show_wipe own r' ρ, h1, hs]
variable {b : CSs}
theorem fr_pre (v : β → D) (E : List β → S → Env) {l : List β} (hb : ∀ pre x post, l = pre ++ x :: post → ∀ s, ∃ s', frT fc call t b (v x) (E pre s) = .ok .nx (E (pre ++ [x]) s')) : ∀ s, ∃ s', frGo (frT fc call t b) (l.map v) (E [] s) = .ok .nx (E l s') := by
  have key : ∀ (post pre : List β), l = pre ++ post → ∀ s, ∃ s', frGo (frT fc call t b) (post.map v) (E pre s) = .ok .nx (E l s') := by
    intro post
    induction post with
    | nil => intro pre hl s; exact ⟨s, by rw [hl, List.append_nil]; rfl⟩
    | cons x post ih =>
      intro pre hl s
      obtain ⟨s1, e1⟩ := hb pre x post hl s
      obtain ⟨s2, e2⟩ := ih (pre ++ [x]) (by rw [hl, List.append_assoc]; rfl) s1
      refine ⟨s2, ?_⟩
      rw [List.map_cons]
      unfold frGo
      rw [e1]
      exact e2
  exact key l [] rfl
theorem fr_ix (v : Nat → D) (n : Nat) (E : Nat → S → Env) (hb : ∀ j, j < n → ∀ s, ∃ s', frT fc call t b (v j) (E j s) = .ok .nx (E (j + 1) s')) : ∀ s, ∃ s', frGo (frT fc call t b) ((List.range n).map v) (E 0 s) = .ok .nx (E n s') := by
  intro s
  have := fr_pre (fc := fc) (call := call) (t := t) (b := b) v (fun pre s => E pre.length s) (l := List.range n) (fun pre x post hl s => by
    have hlen : (List.range n).length = (pre ++ x :: post).length := by rw [hl]
    rw [List.length_range, List.length_append, List.length_cons] at hlen
    have hx : x = pre.length := by
      have h1 : (List.range n)[pre.length]? = some x := by rw [hl]; simp
      rw [List.getElem?_range (by omega)] at h1
      exact (Option.some.inj h1).symm
    subst hx
    obtain ⟨s', h⟩ := hb pre.length (by omega) s
    exact ⟨s', by rw [List.length_append]; exact h⟩) s
  obtain ⟨s', h⟩ := this
  exact ⟨s', by rw [List.length_range] at h; exact h⟩
theorem fr_st {f : Fl} {xs : List D} (h : evI fc call it ρ = .ok xs ρ1) (l : frGo (frT fc call t b) xs ρ1 = .ok f ρ2) : exS fc call (.fr t it b) ρ = .ok f ρ2 := exS_frk h l
end
theorem rngN {n : Nat} (c : Int) (h : c = 1) : rng 0 (n : Int) c = (List.range n).map fun (i : Nat) => D.int i := by
  rw [h, rng_map]
theorem rng1 {a b : Nat} : rng (a : Int) (b : Int) 1 = (List.range (b - a)).map fun (i : Nat) => D.int ((a + i : Nat) : Int) := by
  unfold rng
  rw [if_pos (by decide), show (((b : Int) - a + 1 - 1) / 1).toNat = b - a by omega]
  refine List.map_congr_left fun i _ => ?_
  congr 1
  push_cast
  omega
section
variable {fc : Nat → List Bool} {call : Nat → Env → FR} {ρ ρ1 ρ2 : Env}
theorem vR1 {e : CE} {n : Nat} (h : evE fc call e ρ = .ok (.sh (.int (n : Int))) ρ1) (hn : n ≤ 1000000) : evI fc call (.rng (.cons e .nil)) ρ = .ok ((List.range n).map fun (i : Nat) => D.int i) ρ1 := by
  rw [← rng_map]
  refine evI_rng1 ?_ (small_of hn)
  rw [vVs1, h]
  rfl
theorem vR2 {e e' : CE} {a n : Nat} (h : evE fc call e ρ = .ok (.sh (.int (a : Int))) ρ1) (h' : evE fc call e' ρ1 = .ok (.sh (.int (n : Int))) ρ2) (ha : a ≤ 1000000) (hn : n ≤ 1000000) : evI fc call (.rng (.cons e (.cons e' .nil))) ρ = .ok ((List.range (n - a)).map fun (i : Nat) => D.int ((a + i : Nat) : Int)) ρ2 := by
  rw [← rng1]
  refine evI_rng2 ?_ (small_of ha) (small_of hn)
  rw [vVs1, h, bOk, vVs1, h']
  rfl
theorem vR2m {e e' : CE} (a n m : Nat) (hm : n = a + m) (h : evE fc call e ρ = .ok (.sh (.int (a : Int))) ρ) (h' : evE fc call e' ρ = .ok (.sh (.int (n : Int))) ρ) (hn : n ≤ 1000000) : evI fc call (.rng (.cons e (.cons e' .nil))) ρ = .ok ((List.range m).map fun (i : Nat) => D.int ((a + i : Nat) : Int)) ρ := by
  have := vR2 h h' (by omega) hn
  rw [show n - a = m by omega] at this
  exact this
end
end Lv
namespace Lv
open PySem
structure Dr where
  w : Int
  cs : List Int
  c : Nat
  h : cs.length ≤ 1000
def Dr.d (s : Dr) : D := .dic [(.str "whole", .int s.w), (.str "cells", .lst (s.cs.map .int)), (.str "count", .int (s.c : Int))]
def mixG (r z : Int) : Int := ((r + z) * 1099511628211).fmod 2305843009213693951 + (((r + z) * 1099511628211).fmod 2305843009213693951).fdiv 131072
def Dr.mix (s : Dr) : Int := (s.cs ++ [((s.c + 1 : Nat) : Int)]).foldl mixG ((1469598103934665603 + 97 * (s.c + 1) : Nat) : Int)
def Dr.mixS (s : Dr) : Dr := ⟨s.w, s.cs, s.c + 1, s.h⟩
def Dr.take (s : Dr) (a : Nat) : Nat := if a < 2 then 0 else if 0 < s.w then (s.w.fmod a).toNat else ((s.mix.fdiv 1024).fmod a).toNat
def Dr.next (s : Dr) (a : Nat) : Dr := if a < 2 then s else if 0 < s.w then ⟨s.w.fdiv a, s.cs, s.c, s.h⟩ else s.mixS
theorem Dr.take_lt (s : Dr) {a : Nat} (h : 0 < a) : s.take a < a := by
  unfold Dr.take
  split
  · exact h
  · split
    · have := Int.fmod_lt_of_pos s.w (show (0 : Int) < a by omega)
      have := Int.fmod_nonneg_of_pos s.w (show (0 : Int) < a by omega)
      omega
    · have := Int.fmod_lt_of_pos (s.mix.fdiv 1024) (show (0 : Int) < a by omega)
      have := Int.fmod_nonneg_of_pos (s.mix.fdiv 1024) (show (0 : Int) < a by omega)
      omega
theorem k1 : (Str.ofString "whole" = Str.ofString "count") = False := eq_false (by decide)
theorem k2 : (Str.ofString "cells" = Str.ofString "count") = False := eq_false (by decide)
theorem k3 : (Str.ofString "whole" = Str.ofString "cells") = False := eq_false (by decide)
theorem k4 : (Str.ofString "cells" = Str.ofString "whole") = False := eq_false (by decide)
theorem k5 : (Str.ofString "count" = Str.ofString "whole") = False := eq_false (by decide)
theorem k6 : (Str.ofString "count" = Str.ofString "cells") = False := eq_false (by decide)
def Ok__law_mixed (C : List Fn) (i : Nat) : Prop := fcOf C i = [false] ∧ ∀ k, 1 ≤ k → ∀ s : Dr, callF C k i [.ow s.d] = .ret (.sh (.int s.mix)) [.ow s.mixS.d]
theorem mix_pos (s : Dr) : 0 ≤ s.mix := by
  unfold Dr.mix
  generalize (s.cs ++ [((s.c + 1 : Nat) : Int)]) = l
  have : ∀ (l : List Int) (r : Int), 0 ≤ r → 0 ≤ l.foldl mixG r := by
    intro l
    induction l with
    | nil => intro r h; exact h
    | cons z l ih =>
      intro r h
      have m0 : 0 ≤ ((r + z) * 1099511628211).fmod 2305843009213693951 := Int.fmod_nonneg_of_pos _ (by decide)
      exact ih _ (Int.add_nonneg m0 (Int.fdiv_nonneg m0 (by decide)))
  exact this l _ (by omega)
theorem kyS {x : Str} : D.ky (.str x) = some (.inr x) := nr rfl
theorem kyI {x : Int} : D.ky (.int x) = some (.inl x) := nr rfl
theorem dl0 {k : Ky} : dlook k [] = none := nr rfl
theorem dl1 {k : Ky} {x v : D} {r : List (D × D)} : dlook k ((x, v) :: r) = if x.ky = some k then some v else dlook k r := nr rfl
theorem xDic {kvs : List (D × D)} {k : D} : idx (.dic kvs) k = k.ky.bind fun k => dlook k kvs := by cases k <;> rfl
theorem vKs1 {fc : Nat → List Bool} {call : Nat → Env → FR} {ρ : Env} {k v : CE} {es : CKs} : evKs fc call (.cons k v es) ρ = (evE fc call k ρ).bind fun kv ρ1 => match kv with
    | .sh kd => (match kd.ky with
      | some _ => (evE fc call v ρ1).bind fun vv ρ2 => (match letgo ρ2 vv with
        | some (vd, ρ3) => (evKs fc call es ρ3).bind fun r ρ4 => .ok ((kd, vd) :: r) ρ4
        | none => .bad)
      | none => .bad)
    | _ => .bad := nr rfl
theorem ok__law_mixed {C : List Fn} {i : Nat} (h : C[i]? = some F__law_mixed) : Ok__law_mixed C i := by
  (refine ⟨by unfold fcOf; rw [h]; rfl, ?_⟩; intro k hk; obtain ⟨k, rfl⟩ : ∃ j, k = j + 1 := ⟨k - 1, by omega⟩)
  intro s
  rw [callF_eq h rfl]
  have hf : fits (s.cs.length + 1) = true := by have := s.h; unfold fits; exact decide_eq_true (by omega)
  obtain ⟨z, e1⟩ := fr_pre (fc := fcOf C) (call := callF C k) (t := .nm 2) (b := B__law_mixed1) D.int (fun (pre : List Int) (z : Sl) => [.ow s.mixS.d, .sh (.int (pre.foldl mixG ((1469598103934665603 + 97 * (s.c + 1) : Nat) : Int))), z]) (l := s.cs ++ [((s.c + 1 : Nat) : Int)]) (fun pre x post hl z => by
    refine ⟨.sh (.int x), ?_⟩
    rw [List.foldl_append]
    show _ = R.ok Fl.nx [.ow s.mixS.d, .sh (.int (mixG (pre.foldl mixG ((1469598103934665603 + 97 * (s.c + 1) : Nat) : Int)) x)), _]
    generalize pre.foldl mixG ((1469598103934665603 + 97 * (s.c + 1) : Nat) : Int) = r
    have mk : mulOk (r + x) 1099511628211 = true := mulOk_r (by decide)
    have dv : Builtin.divisionGoesByPylong (((r + x) * 1099511628211).fmod 2305843009213693951) 131072 = false := PyProof.noPylong_small (by decide)
    simp [frT, B__law_mixed1, asgD, thenS, exL, exS, evE, evVs, R.bind, slot, val, ofO, bop, bi, fresh, vals, mk, dv, asgV, put1]
    rfl) .un
  have mk : mulOk 97 ((s.c : Int) + 1) = true := mulOk_l (by decide)
  have ec : (1469598103934665603 + 97 * ((s.c : Int) + 1)) = ((1469598103934665603 + 97 * (s.c + 1) : Nat) : Int) := by omega
  have e1' := e1
  simp only [Dr.mixS, Dr.d, List.foldl_nil, List.map_append, List.map_cons, List.map_nil, Int.natCast_add] at e1
  simp [F__law_mixed, S__law_mixed1, Dr.d, ↓exS_wh, ↓exS_fr, exL, exS, evE, evEs, evI, R.bind, slot, val, ofO, bop, idx, D.ky, dlook, fresh, letgo, putD, dput, asgV, put1, mk, items, hf, thenS, n1, n2, n3, n4, n5, n6, fin, finF, outsOf]
  simp at e1
  rw [e1]
  simp [fin, finF, outsOf, slot, val, Dr.mix, Dr.mixS, Dr.d]
def Ok__law_take (C : List Fn) (i : Nat) : Prop := fcOf C i = [false, false] ∧ ∀ k, 2 ≤ k → ∀ (s : Dr) (a : Nat), a ≤ 1125899906842624 → callF C k i [.ow s.d, .sh (.int a)] = .ret (.sh (.int (s.take a : Nat))) [.ow (s.next a).d, .sh (.int a)]
theorem ok__law_take {C : List Fn} {i im : Nat} (h : C[i]? = some (F__law_take im)) (hm : Ok__law_mixed C im) : Ok__law_take C i := by
  (refine ⟨by unfold fcOf; rw [h]; rfl, ?_⟩; intro k hk; obtain ⟨k, rfl⟩ : ∃ j, k = j + 1 := ⟨k - 1, by omega⟩)
  intro s a ha
  rw [callF_eq h rfl]
  by_cases h2 : a < 2
  · have e1 : s.take a = 0 := by unfold Dr.take; rw [if_pos h2]
    have e2 : s.next a = s := by unfold Dr.next; rw [if_pos h2]
    have h2' : (a : Int) < 2 := by omega
    rw [e1, e2]
    simp [F__law_take, ↓exS_wh, ↓exS_fr, exL, exS, evE, R.bind, slot, val, ofO, cmp, rTruth, truth, h2', h2, fin, finF, outsOf]
  · have a0 : (0 : Int) < a := by omega
    have az : ¬ a = 0 := by omega
    by_cases hw : 0 < s.w
    · have e1 : ((s.take a : Nat) : Int) = s.w.fmod a := by
        unfold Dr.take
        rw [if_neg h2, if_pos hw]
        exact Int.toNat_of_nonneg (Int.fmod_nonneg_of_pos _ a0)
      have e2 : s.next a = ⟨s.w.fdiv a, s.cs, s.c, s.h⟩ := by unfold Dr.next; rw [if_neg h2, if_pos hw]
      have dv : Builtin.divisionGoesByPylong s.w a = false := by
        refine PyProof.noPylong_of_log2 (Nat.lt_of_le_of_lt (m := 63) ?_ (by decide))
        refine Nat.le_of_lt_succ ((Nat.log2_lt (by omega)).mpr ?_)
        have e : (2 : Nat) ^ 64 = 18446744073709551616 := by decide
        show (a : Int).natAbs < 2 ^ 64
        rw [e]
        omega
      rw [e1, e2]
      have a2 : ¬ ((a : Int) < 2) := by omega
      simp [F__law_take, Dr.d, ↓exS_wh, ↓exS_fr, exL, exS, evE, evVs, R.bind, slot, val, vals, ofO, bi, bop, cmp, idx, D.ky, dlook, fresh, rTruth, truth, a2, hw, az, dv, letgo, putD, dput, asgV, put1, thenS, n1, n2, n3, n4, n5, n6, fin, finF, outsOf]
    · have e1 : ((s.take a : Nat) : Int) = (s.mix.fdiv 1024).fmod a := by
        unfold Dr.take
        rw [if_neg h2, if_neg hw]
        exact Int.toNat_of_nonneg (Int.fmod_nonneg_of_pos _ a0)
      have e2 : s.next a = s.mixS := by unfold Dr.next; rw [if_neg h2, if_neg hw]
      rw [e1, e2]
      have e := hm.2 k (by omega) s
      have wh : exS (fcOf C) (callF C k) (S__law_take1 im) [.ow s.mixS.d, .sh (.int a), .sh (.int s.mix)] = .ok .nx [.ow s.mixS.d, .sh (.int a), .sh (.int s.mix)] := by
        unfold S__law_take1
        rw [exS_wh]
        refine wh_stop ?_
        have : ¬ ((1125899906842624 : Int) < a) := by omega
        simp [cndR, W__law_take1, evE, R.bind, slot, val, ofO, bop, cmp, fresh, rTruth, truth, this]
      have dv : Builtin.divisionGoesByPylong s.mix 1024 = false := PyProof.noPylong_small (by decide)
      have a2 : ¬ ((a : Int) < 2) := by omega
      simp only [Dr.d] at e wh
      simp [F__law_take, Dr.d, ↓exS_wh, ↓exS_fr, exL, exS, evE, evVs, R.bind, slot, val, vals, ofO, bi, bop, cmp, idx, D.ky, dlook, fresh, rTruth, truth, a2, hw, az, dv, letgo, lend, back, hm.1, sole, e, wh, asgV, put1, thenS, n1, n2, n3, n4, n5, n6, fin, finF, outsOf]
theorem Dr.next_cs (s : Dr) (a : Nat) : True := trivial
def Dr.pk {α : Type} [Inhabited α] (s : Dr) (l : List α) : α := l.getD (s.take l.length) default
theorem Dr.pk_mem {α : Type} [Inhabited α] (s : Dr) {l : List α} (h : l ≠ []) : s.pk l ∈ l := by
  unfold Dr.pk
  have hl := s.take_lt (List.length_pos_iff.mpr h)
  rw [List.getD_eq_getElem?_getD, List.getElem?_eq_getElem hl]
  exact List.getElem_mem hl
def Ok__law_pick (C : List Fn) (i : Nat) : Prop := fcOf C i = [false, false] ∧ ∀ k, 3 ≤ k → ∀ (s : Dr) (α : Type) [Inhabited α] (e : α → D) (l : List α), l ≠ [] → l.length ≤ 1000000 →
  callF C k i [.ow s.d, .sh (.lst (l.map e))] = .ret (.sh (e (s.pk l))) [.ow (s.next l.length).d, .sh (.lst (l.map e))] ∧
  callF C k i [.ow s.d, .sh (.tup (l.map e))] = .ret (.sh (e (s.pk l))) [.ow (s.next l.length).d, .sh (.tup (l.map e))]
theorem ok__law_pick {C : List Fn} {i it : Nat} (h : C[i]? = some (F__law_pick it)) (ht : Ok__law_take C it) : Ok__law_pick C i := by
  (refine ⟨by unfold fcOf; rw [h]; rfl, ?_⟩; intro k hk; obtain ⟨k, rfl⟩ : ∃ j, k = j + 1 := ⟨k - 1, by omega⟩)
  intro s α _ e l hl hn
  have hp := s.take_lt (List.length_pos_iff.mpr hl)
  have e1 : s.pk l = l[s.take l.length] := by
    unfold Dr.pk
    rw [List.getD_eq_getElem?_getD, List.getElem?_eq_getElem hp]
    rfl
  have bl : ∀ (ds : List D), bi .len [.lst ds] = some (.int (ds.length : Nat)) := fun _ => rfl
  have bt : ∀ (ds : List D), bi .len [.tup ds] = some (.int (ds.length : Nat)) := fun _ => rfl
  constructor
  · rw [callF_eq h rfl, e1]
    simp? [F__law_pick, bl, ht.1, ht.2, xLst]
    rw [List.getElem_map]
  · rw [callF_eq h rfl, e1]
    simp? [F__law_pick, bt, ht.1, ht.2, xTup]
    rw [List.getElem_map]
end Lv
namespace Lv
open PySem
def fr (q : Rat) : D := .tup [.int q.num, .int (q.den : Int)]
def lim : Nat := 2 ^ 4000
theorem lim_eq : lim = 2 ^ 4000 := nr rfl
def Bz (q : Rat) : Prop := q.num.natAbs < lim ∧ q.den < lim
theorem oDivB {i j : Int} (h1 : j ≠ 0) (h2 : j.natAbs < lim * lim) : bop .fdiv (.int i) (.int j) = some (.int (i.fdiv j)) := by
  have dv : Builtin.divisionGoesByPylong i j = false := by
    have h3 : j.natAbs.log2 < 8000 := by
      refine (Nat.log2_lt (by omega)).mpr ?_
      have : lim * lim = 2 ^ 8000 := by rw [lim_eq, ← Nat.pow_add]
      rw [← this]; exact h2
    exact PyProof.noPylong_of_log2 (by omega)
  have jz : decide (j ≠ 0) = true := decide_eq_true h1
  show (if (decide (j ≠ 0) && !(Builtin.divisionGoesByPylong i j)) = true then _ else _) = _
  rw [dv, jz]
  rfl
theorem biGcd {i j : Int} : bi .gcd [.int i, .int j] = some (.int ((Nat.gcd i.natAbs j.natAbs : Nat) : Int)) := nr rfl
theorem divInt_pos {a b : Int} (hb : 0 < b) : (Rat.divInt a b).num = a / ((Nat.gcd a.natAbs b.natAbs : Nat) : Int) ∧ ((Rat.divInt a b).den : Int) = b / ((Nat.gcd a.natAbs b.natAbs : Nat) : Int) := by
  have e : b.gcd a = Nat.gcd a.natAbs b.natAbs := by rw [Int.gcd_comm]; rfl
  constructor
  · rw [Rat.num_divInt, Int.sign_eq_one_of_pos hb, Int.one_mul, e]
  · rw [Rat.den_divInt, if_neg (by omega), e]
    have : b = (b.natAbs : Int) := by omega
    rw [Int.natCast_ediv]
    rw [← this]
theorem divInt_neg {a b : Int} (hb : b < 0) : (Rat.divInt a b).num = (-a) / ((Nat.gcd a.natAbs b.natAbs : Nat) : Int) ∧ ((Rat.divInt a b).den : Int) = (-b) / ((Nat.gcd a.natAbs b.natAbs : Nat) : Int) := by
  have := divInt_pos (a := -a) (b := -b) (by omega)
  rw [Rat.divInt_neg', Int.neg_neg, Int.natAbs_neg, Int.natAbs_neg] at this
  exact this
theorem fdiv_g {a : Int} {g : Nat} : a.fdiv (g : Int) = a / (g : Int) := Int.fdiv_eq_ediv_of_nonneg _ (by omega)
theorem fdiv_ng {a : Int} {g : Nat} : a.fdiv (-(g : Int)) = (-a) / (g : Int) := by
  have := Int.neg_fdiv_neg (-a) (g : Int)
  rw [Int.neg_neg] at this
  rw [this, fdiv_g]
theorem gcd_ne {a b : Int} (hb : b ≠ 0) : ((Nat.gcd a.natAbs b.natAbs : Nat) : Int) ≠ 0 := by
  have := Nat.gcd_pos_of_pos_right a.natAbs (show 0 < b.natAbs by omega)
  omega
theorem gcd_le {a b : Int} (hb : b ≠ 0) : Nat.gcd a.natAbs b.natAbs ≤ b.natAbs := Nat.gcd_le_right _ (by omega)
def Ok_share (C : List Fn) (i : Nat) : Prop := fcOf C i = [false, false] ∧ ∀ k, 1 ≤ k → ∀ a b : Int, b ≠ 0 → b.natAbs < lim * lim → callF C k i [.sh (.int a), .sh (.int b)] = .ret (.sh (fr (Rat.divInt a b))) [.sh (.int a), .sh (.int b)]
theorem ok_share {C : List Fn} {i : Nat} (h : C[i]? = some F_share) : Ok_share C i := by
  (refine ⟨by unfold fcOf; rw [h]; rfl, ?_⟩; intro k hk; obtain ⟨k, rfl⟩ : ∃ j, k = j + 1 := ⟨k - 1, by omega⟩)
  intro a b hb hl
  rw [callF_eq h rfl]
  have hg := gcd_ne (a := a) hb
  have hle := gcd_le (a := a) hb
  have hd1 : ((Nat.gcd a.natAbs b.natAbs : Nat) : Int).natAbs < lim * lim := by
    rw [Int.natAbs_natCast]; omega
  have hd2 : (-((Nat.gcd a.natAbs b.natAbs : Nat) : Int)).natAbs < lim * lim := by
    rw [Int.natAbs_neg]; exact hd1
  have hg2 : (-((Nat.gcd a.natAbs b.natAbs : Nat) : Int)) ≠ 0 := by omega
  unfold fr
  rcases Int.lt_or_gt_of_ne hb with hn | hp
  · have hn' : ¬ (0 < b) := by omega
    rw [(divInt_neg (a := a) hn).1, (divInt_neg (a := a) hn).2]
    simp? [F_share, biGcd, oDivB, fdiv_ng]
  · rw [(divInt_pos (a := a) hp).1, (divInt_pos (a := a) hp).2]
    simp? [F_share, biGcd, oDivB, fdiv_g]
theorem x0 {ds : List D} {d : D} : idx (.tup (d :: ds)) (.int ((0 : Nat) : Int)) = some d := xTup (ds := d :: ds) (j := 0) (by simp)
theorem fr0 {q : Rat} : idx (fr q) (.int ((0 : Nat) : Int)) = some (.int q.num) := nr rfl
theorem fr1 {q : Rat} : idx (fr q) (.int ((1 : Nat) : Int)) = some (.int (q.den : Int)) := nr rfl
theorem lim_pos : 0 < lim := Nat.two_pow_pos _
theorem mulOkB {i j : Int} (h1 : i.natAbs < lim) (h2 : j.natAbs < lim) : mulOk i j = true := mulOk_b (m := 4000) (n := 4000) h1 h2 (by decide)
theorem mul_lt_lim {a b : Nat} (h1 : a < lim) (h2 : b < lim) : a * b < lim * lim := by
  have : a * b ≤ a * lim := Nat.mul_le_mul_left a (Nat.le_of_lt h2)
  have h3 : a * lim < lim * lim := Nat.mul_lt_mul_of_pos_right h1 lim_pos
  omega
def OkFr2 (f : Rat → Rat → Rat) (P : Rat → Prop) (C : List Fn) (i : Nat) : Prop := fcOf C i = [false, false] ∧ ∀ k, 2 ≤ k → ∀ p q : Rat, Bz p → Bz q → P q → callF C k i [.sh (fr p), .sh (fr q)] = .ret (.sh (fr (f p q))) [.sh (fr p), .sh (fr q)]
abbrev Ok_plus := OkFr2 (fun p q => p + q) (fun _ => True)
abbrev Ok_less := OkFr2 (fun p q => p - q) (fun _ => True)
abbrev Ok_by_both := OkFr2 (fun p q => p * q) (fun _ => True)
abbrev Ok_by_part := OkFr2 (fun p q => p / q) (fun q => q ≠ 0)
theorem den_ne (p q : Rat) : ((p.den * q.den : Nat) : Int) ≠ 0 := by
  have := Nat.mul_pos p.den_pos q.den_pos
  omega
theorem plus_eq (p q : Rat) : Rat.divInt (p.num * q.den + q.num * p.den) ((p.den * q.den : Nat) : Int) = p + q := by
  rw [Rat.divInt_ofNat, Rat.add_def']
theorem less_eq (p q : Rat) : Rat.divInt (p.num * q.den - q.num * p.den) ((p.den * q.den : Nat) : Int) = p - q := by
  rw [Rat.divInt_ofNat, Rat.sub_def']
theorem both_eq (p q : Rat) : Rat.divInt (p.num * q.num) ((p.den * q.den : Nat) : Int) = p * q := by
  rw [Rat.divInt_ofNat, Rat.mul_def']
theorem part_eq (p q : Rat) : Rat.divInt (p.num * q.den) ((p.den : Int) * q.num) = p / q := by
  rw [Rat.div_def, Rat.inv_def]
  conv => rhs; rw [← Rat.num_divInt_den p]
  rw [Rat.divInt_mul_divInt]
section
variable {C : List Fn} {i is : Nat}
theorem ok_plus (h : C[i]? = some (F_plus is)) (hs : Ok_share C is) : Ok_plus C i := by
  (refine ⟨by unfold fcOf; rw [h]; rfl, ?_⟩; intro k hk; obtain ⟨k, rfl⟩ : ∃ j, k = j + 1 := ⟨k - 1, by omega⟩)
  intro p q hp hq _
  rw [callF_eq h rfl]
  have m1 : mulOk p.num q.den = true := mulOkB hp.1 hq.2
  have m2 : mulOk q.num p.den = true := mulOkB hq.1 hp.2
  have m3 : mulOk (p.den : Int) q.den = true := mulOkB hp.2 hq.2
  have d1 := den_ne p q
  have d2 : ((p.den * q.den : Nat) : Int).natAbs < lim * lim := mul_lt_lim hp.2 hq.2
  simp? [F_plus, hs.1, hs.2, fr0, fr1, plus_eq]
theorem ok_less (h : C[i]? = some (F_less is)) (hs : Ok_share C is) : Ok_less C i := by
  (refine ⟨by unfold fcOf; rw [h]; rfl, ?_⟩; intro k hk; obtain ⟨k, rfl⟩ : ∃ j, k = j + 1 := ⟨k - 1, by omega⟩)
  intro p q hp hq _
  rw [callF_eq h rfl]
  have m1 : mulOk p.num q.den = true := mulOkB hp.1 hq.2
  have m2 : mulOk q.num p.den = true := mulOkB hq.1 hp.2
  have m3 : mulOk (p.den : Int) q.den = true := mulOkB hp.2 hq.2
  have d1 := den_ne p q
  have d2 : ((p.den * q.den : Nat) : Int).natAbs < lim * lim := mul_lt_lim hp.2 hq.2
  simp? [F_less, hs.1, hs.2, fr0, fr1, less_eq]
theorem ok_by_both (h : C[i]? = some (F_by_both is)) (hs : Ok_share C is) : Ok_by_both C i := by
  (refine ⟨by unfold fcOf; rw [h]; rfl, ?_⟩; intro k hk; obtain ⟨k, rfl⟩ : ∃ j, k = j + 1 := ⟨k - 1, by omega⟩)
  intro p q hp hq _
  rw [callF_eq h rfl]
  have m1 : mulOk p.num q.num = true := mulOkB hp.1 hq.1
  have m3 : mulOk (p.den : Int) q.den = true := mulOkB hp.2 hq.2
  have d1 := den_ne p q
  have d2 : ((p.den * q.den : Nat) : Int).natAbs < lim * lim := mul_lt_lim hp.2 hq.2
  simp? [F_by_both, hs.1, hs.2, fr0, fr1, both_eq]
theorem ok_by_part (h : C[i]? = some (F_by_part is)) (hs : Ok_share C is) : Ok_by_part C i := by
  (refine ⟨by unfold fcOf; rw [h]; rfl, ?_⟩; intro k hk; obtain ⟨k, rfl⟩ : ∃ j, k = j + 1 := ⟨k - 1, by omega⟩)
  intro p q hp hq h0
  rw [callF_eq h rfl]
  have m1 : mulOk p.num q.den = true := mulOkB hp.1 hq.2
  have m3 : mulOk (p.den : Int) q.num = true := mulOkB hp.2 hq.1
  have hn : q.num ≠ 0 := fun z => h0 (Rat.num_eq_zero.mp z)
  have d1 : (p.den : Int) * q.num ≠ 0 := Int.mul_ne_zero (by have := p.den_nz; omega) hn
  have d2 : ((p.den : Int) * q.num).natAbs < lim * lim := by rw [Int.natAbs_mul]; exact mul_lt_lim hp.2 hq.1
  simp? [F_by_part, hs.1, hs.2, fr0, fr1, part_eq]
end
end Lv
namespace Lv
def vpF : Nat → Nat → Nat → Nat
  | 0, _, _ => 0
  | f + 1, p, n => if n % p = 0 then vpF f p (n / p) + 1 else 0
def vp (p n : Nat) : Nat := vpF 7 p n
abbrev Ts := Nat × Nat × Nat × Nat
def extRows : Nat → List (List Nat)
  | 0 => [[]]
  | n + 1 => (extRows n).flatMap fun r => ((List.range (n + 1)).map (· + 1)).filterMap fun t => if t = n + 1 ∨ ((n + 1) % t = 0 ∧ r.getD (n - t) 0 = t) then some (r ++ [t]) else none
def LawG (L : List (List Nat)) : Prop := ∃ a ∈ extRows 6, ∃ b ∈ extRows 4, ∃ c ∈ extRows 2, ∃ d ∈ extRows 2, L = [a, b, c, d]
def tyAt (L : List (List Nat)) (p n : Nat) : Nat := if vp p n = 0 then 1 else typeN L p (vp p n)
def tys (L : List (List Nat)) (n : Nat) : Ts := (tyAt L 2 n, tyAt L 3 n, tyAt L 5 n, tyAt L 7 n)
def tsOf (ts : Ts) (p : Nat) : Nat := if p = 2 then ts.1 else if p = 3 then ts.2.1 else if p = 5 then ts.2.2.1 else if p = 7 then ts.2.2.2 else 1
def okT (ts : Ts) (d : Nat) : Bool := vp 2 d % ts.1 == 0 && vp 3 d % ts.2.1 == 0 && vp 5 d % ts.2.2.1 == 0 && vp 7 d % ts.2.2.2 == 0
def lotT (ts : Ts) (n : Nat) : List Nat := ((List.range' 1 n).filter fun d => n % d == 0).filter (okT ts)
def lotN (L : List (List Nat)) (n : Nat) : List Nat := lotT (tys L n) n
def divT (a : Nat) : List Nat := if a = 0 then [1] else (List.range' 1 a).filter fun t => a % t == 0
def combos (n : Nat) : List Ts := (divT (vp 2 n)).flatMap fun a => (divT (vp 3 n)).flatMap fun b => (divT (vp 5 n)).flatMap fun c => (divT (vp 7 n)).map fun d => (a, b, c, d)
def forAll (N : Nat) (P : Nat → Ts → Bool) : Bool := (List.range' 1 N).all fun n => (combos n).all fun ts => P n ts
theorem forAll_ok {N : Nat} {P : Nat → Ts → Bool} (h : forAll N P = true) {n : Nat} (h1 : 1 ≤ n) (h2 : n ≤ N) {ts : Ts} (ht : ts ∈ combos n) : P n ts = true :=
  List.all_eq_true.mp (List.all_eq_true.mp h n (List.mem_range'_1.mpr ⟨h1, by omega⟩)) ts ht
def rowFine (r : List Nat) (n : Nat) : Bool := rowB r n && (List.range' 1 n).all fun a => decide (1 ≤ r.getD (a - 1) 1) && decide (r.getD (a - 1) 1 ≤ a) && (a % r.getD (a - 1) 1 == 0) && (List.range' 1 a).all fun b => b % r.getD (a - 1) 1 != 0 || r.getD (b - 1) 1 == r.getD (a - 1) 1
theorem rows_fine6 : (extRows 6).all (fun r => rowFine r 6) = true := by decide +kernel
theorem rows_fine4 : (extRows 4).all (fun r => rowFine r 4) = true := by decide +kernel
theorem rows_fine2 : (extRows 2).all (fun r => rowFine r 2) = true := by decide +kernel
def maxE (p : Nat) : Nat := if p = 2 then 6 else if p = 3 then 4 else if p = 5 then 2 else if p = 7 then 2 else 0
theorem rowAt_fine {L : List (List Nat)} (g : LawG L) {p : Nat} {r : List Nat} (h : rowAt L p = some r) : rowFine r (maxE p) = true := by
  obtain ⟨a, ha, b, hb, c, hc, d, hd, rfl⟩ := g
  unfold rowAt at h
  unfold maxE
  split at h
  · rename_i e; subst e; cases h; exact List.all_eq_true.mp rows_fine6 _ ha
  · rename_i e2; rw [if_neg e2]
    split at h
    · rename_i e; subst e; cases h; exact List.all_eq_true.mp rows_fine4 _ hb
    · rename_i e3; rw [if_neg e3]
      split at h
      · rename_i e; subst e; cases h; exact List.all_eq_true.mp rows_fine2 _ hc
      · rename_i e5; rw [if_neg e5]
        split at h
        · rename_i e; subst e; cases h; exact List.all_eq_true.mp rows_fine2 _ hd
        · cases h
theorem rowFine_at {r : List Nat} {n a : Nat} (h : rowFine r n = true) (h1 : 1 ≤ a) (h2 : a ≤ n) : rowB r n = true ∧ 1 ≤ r.getD (a - 1) 1 ∧ r.getD (a - 1) 1 ≤ a ∧ a % r.getD (a - 1) 1 = 0 ∧ ∀ b, 1 ≤ b → b ≤ a → b % r.getD (a - 1) 1 = 0 → r.getD (b - 1) 1 = r.getD (a - 1) 1 := by
  unfold rowFine at h
  rw [Bool.and_eq_true] at h
  have := List.all_eq_true.mp h.2 a (List.mem_range'_1.mpr ⟨h1, by omega⟩)
  simp only [Bool.and_eq_true, decide_eq_true_eq, beq_iff_eq] at this
  obtain ⟨⟨⟨p1, p2⟩, p3⟩, p4⟩ := this
  refine ⟨h.1, p1, p2, p3, fun b b1 b2 b3 => ?_⟩
  have := List.all_eq_true.mp p4 b (List.mem_range'_1.mpr ⟨b1, by omega⟩)
  simp only [bne_iff_ne, ne_eq, Bool.or_eq_true, beq_iff_eq, Bool.not_eq_true', bne, Bool.not_eq_eq_eq_not] at this
  rcases this with z | z
  · simp at z; exact absurd b3 z
  · exact z
theorem LawG.lawB {L : List (List Nat)} (g : LawG L) : lawB L = true := by
  have r2 := fun r => rowAt_fine g (p := 2) (r := r)
  have r3 := fun r => rowAt_fine g (p := 3) (r := r)
  have r5 := fun r => rowAt_fine g (p := 5) (r := r)
  have r7 := fun r => rowAt_fine g (p := 7) (r := r)
  obtain ⟨a, ha, b, hb, c, hc, d, hd, rfl⟩ := g
  have r2 := (rowFine_at (a := 1) (r2 a rfl) (by decide) (by decide)).1
  have r3 := (rowFine_at (a := 1) (r3 b rfl) (by decide) (by decide)).1
  have r5 := (rowFine_at (a := 1) (r5 c rfl) (by decide) (by decide)).1
  have r7 := (rowFine_at (a := 1) (r7 d rfl) (by decide) (by decide)).1
  unfold Lv.lawB
  simp [maxE] at r2 r3 r5 r7
  simp [r2, r3, r5, r7]
def vpLe (n : Nat) : Bool := decide (vp 2 n ≤ 6) && decide (vp 3 n ≤ 4) && decide (vp 5 n ≤ 2) && decide (vp 7 n ≤ 2)
theorem vp_le_all : (List.range' 1 120).all vpLe = true := by decide +kernel
theorem vp_le {p n : Nat} (h1 : 1 ≤ n) (h2 : n ≤ 120) (hp : p = 2 ∨ p = 3 ∨ p = 5 ∨ p = 7) : vp p n ≤ maxE p := by
  have := List.all_eq_true.mp vp_le_all n (List.mem_range'_1.mpr ⟨h1, by omega⟩)
  simp only [vpLe, Bool.and_eq_true, decide_eq_true_eq] at this
  obtain ⟨⟨⟨a, b⟩, c⟩, d⟩ := this
  rcases hp with rfl | rfl | rfl | rfl <;> assumption
theorem rowAt_some {L : List (List Nat)} (g : LawG L) {p : Nat} (hp : p = 2 ∨ p = 3 ∨ p = 5 ∨ p = 7) : ∃ r, rowAt L p = some r := by
  obtain ⟨a, ha, b, hb, c, hc, d, hd, rfl⟩ := g
  rcases hp with rfl | rfl | rfl | rfl <;> exact ⟨_, rfl⟩
theorem typeN_fine {L : List (List Nat)} (g : LawG L) {p a : Nat} (hp : p = 2 ∨ p = 3 ∨ p = 5 ∨ p = 7) (h1 : 1 ≤ a) (h2 : a ≤ maxE p) : 1 ≤ typeN L p a ∧ typeN L p a ≤ a ∧ a % typeN L p a = 0 ∧ ∀ b, 1 ≤ b → b ≤ a → b % typeN L p a = 0 → typeN L p b = typeN L p a := by
  obtain ⟨r, hr⟩ := rowAt_some g hp
  have e : ∀ x, typeN L p x = r.getD (x - 1) 1 := fun x => by unfold typeN; rw [hr]
  have := rowFine_at (rowAt_fine g hr) h1 h2
  rw [e a]
  refine ⟨this.2.1, this.2.2.1, this.2.2.2.1, fun b b1 b2 b3 => ?_⟩
  rw [e b]
  exact this.2.2.2.2 b b1 b2 b3
theorem tyAt_mem {L : List (List Nat)} (g : LawG L) {p n : Nat} (h1 : 1 ≤ n) (h2 : n ≤ 120) (hp : p = 2 ∨ p = 3 ∨ p = 5 ∨ p = 7) : tyAt L p n ∈ divT (vp p n) := by
  unfold tyAt divT
  by_cases h : vp p n = 0
  · rw [if_pos h, if_pos h]; exact List.mem_singleton.mpr rfl
  · rw [if_neg h, if_neg h]
    have := typeN_fine g hp (a := vp p n) (by omega) (vp_le h1 h2 hp)
    exact List.mem_filter.mpr ⟨List.mem_range'_1.mpr ⟨this.1, by omega⟩, by simp [this.2.2.1]⟩
theorem tys_mem {L : List (List Nat)} (g : LawG L) {n : Nat} (h1 : 1 ≤ n) (h2 : n ≤ 120) : tys L n ∈ combos n := by
  unfold combos tys
  refine List.mem_flatMap.mpr ⟨_, tyAt_mem g h1 h2 (.inl rfl), List.mem_flatMap.mpr ⟨_, tyAt_mem g h1 h2 (.inr (.inl rfl)), List.mem_flatMap.mpr ⟨_, tyAt_mem g h1 h2 (.inr (.inr (.inl rfl))), List.mem_map.mpr ⟨_, tyAt_mem g h1 h2 (.inr (.inr (.inr rfl))), rfl⟩⟩⟩⟩
end Lv
namespace Lv
def norm (d : Nat) (ts : Ts) : Ts := (if vp 2 d = 0 then 1 else ts.1, if vp 3 d = 0 then 1 else ts.2.1, if vp 5 d = 0 then 1 else ts.2.2.1, if vp 7 d = 0 then 1 else ts.2.2.2)
def dvLe (n : Nat) : Bool := (List.range' 1 n).all fun d => n % d != 0 || (decide (vp 2 d ≤ vp 2 n) && decide (vp 3 d ≤ vp 3 n) && decide (vp 5 d ≤ vp 5 n) && decide (vp 7 d ≤ vp 7 n))
theorem dv_le_all : (List.range' 1 120).all dvLe = true := by decide +kernel
theorem dv_le {p n d : Nat} (h1 : 1 ≤ d) (h2 : d ≤ n) (h3 : n ≤ 120) (hd : n % d = 0) (hp : p = 2 ∨ p = 3 ∨ p = 5 ∨ p = 7) : vp p d ≤ vp p n := by
  have := List.all_eq_true.mp (List.all_eq_true.mp dv_le_all n (List.mem_range'_1.mpr ⟨by omega, by omega⟩)) d (List.mem_range'_1.mpr ⟨h1, by omega⟩)
  simp only [hd, bne_self_eq_false, Bool.false_or, Bool.and_eq_true, decide_eq_true_eq] at this
  obtain ⟨⟨⟨a, b⟩, c⟩, e⟩ := this
  rcases hp with rfl | rfl | rfl | rfl <;> assumption
theorem mem_lotT {ts : Ts} {n d : Nat} : d ∈ lotT ts n ↔ 1 ≤ d ∧ d ≤ n ∧ n % d = 0 ∧ okT ts d = true := by
  unfold lotT
  rw [List.mem_filter, List.mem_filter, List.mem_range'_1]
  simp only [beq_iff_eq]
  constructor
  · rintro ⟨⟨⟨a, b⟩, c⟩, d⟩; exact ⟨a, by omega, c, d⟩
  · rintro ⟨a, b, c, d⟩; exact ⟨⟨⟨a, by omega⟩, c⟩, d⟩
section
variable {L : List (List Nat)} {n d : Nat}
theorem lotN_pos (h : d ∈ lotN L n) : 1 ≤ d := (mem_lotT.mp h).1
theorem lotN_le (h : d ∈ lotN L n) : d ≤ n := (mem_lotT.mp h).2.1
theorem lotN_dvd (h : d ∈ lotN L n) : n % d = 0 := (mem_lotT.mp h).2.2.1
theorem lotN_div_pos (h : d ∈ lotN L n) : 1 ≤ n / d := Nat.div_pos (lotN_le h) (lotN_pos h)
theorem lotN_div_le (h : d ∈ lotN L n) : n / d ≤ n := Nat.div_le_self _ _
theorem tyAt_sub (g : LawG L) {p : Nat} (h1 : 1 ≤ n) (h2 : n ≤ 120) (hp : p = 2 ∨ p = 3 ∨ p = 5 ∨ p = 7) (hd : vp p d ≤ vp p n) (hm : vp p d % tyAt L p n = 0) : tyAt L p d = if vp p d = 0 then 1 else tyAt L p n := by
  unfold tyAt at hm ⊢
  by_cases h0 : vp p d = 0
  · rw [if_pos h0, if_pos h0]
  · rw [if_neg h0, if_neg h0]
    have hn : ¬ vp p n = 0 := by omega
    rw [if_neg hn] at hm ⊢
    exact (typeN_fine g hp (a := vp p n) (by omega) (vp_le h1 h2 hp)).2.2.2 (vp p d) (by omega) hd hm
theorem tys_sub (g : LawG L) (h1 : 1 ≤ n) (h2 : n ≤ 120) (hd : ∀ p, (p = 2 ∨ p = 3 ∨ p = 5 ∨ p = 7) → vp p d ≤ vp p n ∧ vp p d % tyAt L p n = 0) : tys L d = norm d (tys L n) := by
  unfold tys norm
  rw [tyAt_sub g h1 h2 (.inl rfl) (hd 2 (.inl rfl)).1 (hd 2 (.inl rfl)).2, tyAt_sub g h1 h2 (.inr (.inl rfl)) (hd 3 (.inr (.inl rfl))).1 (hd 3 (.inr (.inl rfl))).2,
    tyAt_sub g h1 h2 (.inr (.inr (.inl rfl))) (hd 5 (.inr (.inr (.inl rfl)))).1 (hd 5 (.inr (.inr (.inl rfl)))).2, tyAt_sub g h1 h2 (.inr (.inr (.inr rfl))) (hd 7 (.inr (.inr (.inr rfl)))).1 (hd 7 (.inr (.inr (.inr rfl)))).2]
theorem tys_lot (g : LawG L) (h1 : 1 ≤ n) (h2 : n ≤ 120) (h : d ∈ lotN L n) : tys L d = norm d (tys L n) := by
  obtain ⟨d1, d2, d3, d4⟩ := mem_lotT.mp h
  simp only [okT, Bool.and_eq_true, beq_iff_eq] at d4
  obtain ⟨⟨⟨e2, e3⟩, e5⟩, e7⟩ := d4
  refine tys_sub g h1 h2 fun p hp => ⟨dv_le d1 d2 h2 d3 hp, ?_⟩
  rcases hp with rfl | rfl | rfl | rfl <;> assumption
end
theorem flatMap_cg {α β : Type} {f g : α → List β} : ∀ {l : List α}, (∀ x ∈ l, f x = g x) → l.flatMap f = l.flatMap g
  | [], _ => rfl
  | x :: l, h => by rw [List.flatMap_cons, List.flatMap_cons, h x List.mem_cons_self, flatMap_cg fun y hy => h y (List.mem_cons_of_mem _ hy)]
def chkEnds (n : Nat) (ts : Ts) : Bool := (lotT ts n).contains 1 && (lotT ts n).contains n
theorem all_ends : forAll 120 chkEnds = true := by decide +kernel
def chkRev (n : Nat) (ts : Ts) : Bool := (lotT ts n).map (fun d => n / d) == (lotT ts n).reverse
theorem all_rev : forAll 120 chkRev = true := by decide +kernel
def left3 (ts : Ts) (n : Nat) : List (Nat × Nat × Nat) := (lotT ts n).flatMap fun m => (lotT (norm m ts) m).map fun d => (d, m / d, n / m)
def right3 (ts : Ts) (n : Nat) : List (Nat × Nat × Nat) := (lotT ts n).flatMap fun d => (lotT (norm (n / d) ts) (n / d)).map fun e => (d, e, n / d / e)
def chk3 (n : Nat) (ts : Ts) : Bool := (left3 ts n).isPerm (right3 ts n)
theorem all_3 : forAll 120 chk3 = true := by decide +kernel
section
variable {L : List (List Nat)} {n d : Nat}
theorem seen {P : Nat → Ts → Bool} (h : forAll 120 P = true) (g : LawG L) (h1 : 1 ≤ n) (h2 : n ≤ 120) : P n (tys L n) = true := forAll_ok h h1 h2 (tys_mem g h1 h2)
theorem one_lot (g : LawG L) (h1 : 1 ≤ n) (h2 : n ≤ 120) : 1 ∈ lotN L n ∧ n ∈ lotN L n := by
  have := seen all_ends g h1 h2
  simp [chkEnds] at this
  exact this
theorem lot_rev (g : LawG L) (h1 : 1 ≤ n) (h2 : n ≤ 120) : (lotN L n).map (fun d => n / d) = (lotN L n).reverse := eq_of_beq (seen all_rev g h1 h2)
theorem div_lot (g : LawG L) (h1 : 1 ≤ n) (h2 : n ≤ 120) (h : d ∈ lotN L n) : n / d ∈ lotN L n := by
  have : n / d ∈ (lotN L n).map (fun d => n / d) := List.mem_map.mpr ⟨d, h, rfl⟩
  rw [lot_rev g h1 h2] at this
  exact List.mem_reverse.mp this
theorem lotN_member (g : LawG L) (h1 : 1 ≤ n) (h2 : n ≤ 120) (h : d ∈ lotN L n) : lotN L d = lotT (norm d (tys L n)) d := by
  unfold lotN
  rw [tys_lot g h1 h2 h]
theorem lot3 (g : LawG L) (h1 : 1 ≤ n) (h2 : n ≤ 120) : ((lotN L n).flatMap fun m => (lotN L m).map fun d => (d, m / d, n / m)).Perm ((lotN L n).flatMap fun d => (lotN L (n / d)).map fun e => (d, e, n / d / e)) := by
  have := List.isPerm_iff.mp (seen all_3 g h1 h2)
  have e1 : ((lotN L n).flatMap fun m => (lotN L m).map fun d => (d, m / d, n / m)) = left3 (tys L n) n := by
    unfold left3
    refine flatMap_cg fun m hm => ?_
    rw [lotN_member g h1 h2 hm]
  have e2 : ((lotN L n).flatMap fun d => (lotN L (n / d)).map fun e => (d, e, n / d / e)) = right3 (tys L n) n := by
    unfold right3
    refine flatMap_cg fun m hm => ?_
    rw [lotN_member g h1 h2 (div_lot g h1 h2 hm)]
  rw [e1, e2]
  exact this
end
end Lv
namespace Lv
def S {α : Type} : List α → (α → Rat) → Rat
  | [], _ => 0
  | x :: l, f => f x + S l f
section
variable {α β : Type} {f g : α → Rat} {l l' : List α}
theorem S_cons {x : α} : S (x :: l) f = f x + S l f := rfl
theorem S_cg : ∀ {l : List α}, (∀ x ∈ l, f x = g x) → S l f = S l g
  | [], _ => rfl
  | x :: l, h => by rw [S_cons, S_cons, h x List.mem_cons_self, S_cg fun y hy => h y (List.mem_cons_of_mem _ hy)]
theorem S_app : ∀ {l : List α}, S (l ++ l') f = S l f + S l' f
  | [] => by show S l' f = 0 + S l' f; grind
  | x :: l => by show f x + S (l ++ l') f = f x + S l f + S l' f; rw [S_app]; grind
theorem S_add : ∀ {l : List α}, S l (fun x => f x + g x) = S l f + S l g
  | [] => by show (0 : Rat) = 0 + 0; grind
  | x :: l => by show f x + g x + S l _ = f x + S l f + (g x + S l g); rw [S_add]; grind
theorem S_sub : ∀ {l : List α}, S l (fun x => f x - g x) = S l f - S l g
  | [] => by show (0 : Rat) = 0 - 0; grind
  | x :: l => by show f x - g x + S l _ = f x + S l f - (g x + S l g); rw [S_sub]; grind
theorem S_mul {c : Rat} : ∀ {l : List α}, S l (fun x => c * f x) = c * S l f
  | [] => by show (0 : Rat) = c * 0; grind
  | x :: l => by show c * f x + S l _ = c * (f x + S l f); rw [S_mul]; grind
theorem S_mulr {c : Rat} : S l (fun x => f x * c) = S l f * c := by
  have := S_mul (f := f) (c := c) (l := l)
  rw [S_cg (g := fun x => c * f x) fun x _ => by grind, this]; grind
theorem S_zero : ∀ {l : List α}, S l (fun _ => 0) = 0
  | [] => rfl
  | x :: l => by show 0 + S l _ = 0; rw [S_zero]; grind
theorem S_map {h : β → α} : ∀ {l : List β}, S (l.map h) f = S l fun x => f (h x)
  | [] => rfl
  | x :: l => by show f (h x) + S (l.map h) f = _; rw [S_map]; rfl
theorem S_flat {h : β → List α} : ∀ {l : List β}, S (l.flatMap h) f = S l fun x => S (h x) f
  | [] => rfl
  | x :: l => by rw [List.flatMap_cons, S_app, S_flat]; rfl
theorem S_perm (h : l.Perm l') : S l f = S l' f := by
  induction h with
  | nil => rfl
  | cons x _ ih => rw [S_cons, S_cons, ih]
  | swap x y l => rw [S_cons, S_cons, S_cons, S_cons]; grind
  | trans _ _ a b => rw [a, b]
theorem S_rev : S l.reverse f = S l f := S_perm (List.reverse_perm l)
theorem S_swap {h : α → β → Rat} {m : List β} : ∀ {l : List α}, (S l fun x => S m fun y => h x y) = S m fun y => S l fun x => h x y
  | [] => by show (0 : Rat) = _; rw [show (fun y => S ([] : List α) fun x => h x y) = fun _ => 0 from rfl, S_zero]
  | x :: l => by
    show S m _ + S l _ = _
    rw [S_swap, ← S_add]
    rfl
theorem S_neg : S l (fun x => - f x) = - S l f := by
  have := S_mul (f := f) (c := -1) (l := l)
  rw [S_cg (g := fun x => (-1) * f x) fun x _ => by grind, this]; grind
theorem S_filter {p : α → Bool} : ∀ {l : List α}, S (l.filter p) f = S l fun x => if p x = true then f x else 0
  | [] => rfl
  | x :: l => by
    rw [List.filter_cons, S_cons, ← S_filter]
    cases p x
    · show _ = (if false = true then f x else 0) + _; rw [if_neg (by simp), if_neg (by simp)]; grind
    · rfl
end
abbrev Tb := Nat → Rat
def cv (L : List (List Nat)) (f g : Tb) : Tb := fun n => S (lotN L n) fun d => f d * g (n / d)
def one1 : Tb := fun n => if n = 1 then 1 else 0
def ones : Tb := fun _ => 1
def Eqt (N : Nat) (f g : Tb) : Prop := ∀ n, 1 ≤ n → n ≤ N → f n = g n
section
variable {L : List (List Nat)} {N : Nat} {f f' g g' h : Tb}
theorem Eqt.refl : Eqt N f f := fun _ _ _ => rfl
theorem Eqt.symm (e : Eqt N f g) : Eqt N g f := fun n a b => (e n a b).symm
theorem Eqt.trans (e : Eqt N f g) (e' : Eqt N g h) : Eqt N f h := fun n a b => (e n a b).trans (e' n a b)
theorem Eqt.le {M : Nat} (e : Eqt N f g) (hm : M ≤ N) : Eqt M f g := fun n a b => e n a (by omega)
theorem cv_cg (e : Eqt N f f') (e' : Eqt N g g') : Eqt N (cv L f g) (cv L f' g') := fun n a b => S_cg fun d hd => by
  rw [e d (lotN_pos hd) (by have := lotN_le hd; omega), e' (n / d) (lotN_div_pos hd) (by have := lotN_div_le hd; omega)]
theorem cv_comm (gd : LawG L) (hN : N ≤ 120) : Eqt N (cv L f g) (cv L g f) := fun n a b => by
  unfold cv
  have e : S (lotN L n) (fun d => g d * f (n / d)) = S ((lotN L n).map fun d => n / d) fun d => g d * f (n / d) := by
    rw [lot_rev gd a (by omega), S_rev]
  rw [e, S_map]
  refine S_cg fun d hd => ?_
  have h1 := lotN_dvd hd
  have : n / (n / d) = d := Nat.div_div_self (Nat.dvd_of_mod_eq_zero h1) (by omega)
  rw [this]
  grind
theorem cv_assoc (gd : LawG L) (hN : N ≤ 120) : Eqt N (cv L (cv L f g) h) (cv L f (cv L g h)) := fun n a b => by
  have p := lot3 gd (n := n) a (by omega)
  have := S_perm (f := fun t : Nat × Nat × Nat => f t.1 * g t.2.1 * h t.2.2) p
  rw [S_flat, S_flat] at this
  simp only [S_map] at this
  unfold cv
  calc (S (lotN L n) fun m => S (lotN L m) (fun d => f d * g (m / d)) * h (n / m))
      = S (lotN L n) fun m => S (lotN L m) fun d => f d * g (m / d) * h (n / m) := S_cg fun m _ => S_mulr.symm
    _ = S (lotN L n) fun d => S (lotN L (n / d)) fun e => f d * g e * h (n / d / e) := this
    _ = _ := S_cg fun d _ => by rw [← S_mul]; exact S_cg fun e _ => by grind
theorem cv_add : cv L f (fun n => g n + h n) = fun n => cv L f g n + cv L f h n := by
  funext n
  unfold cv
  rw [← S_add]
  exact S_cg fun d _ => by grind
theorem cv_addl : cv L (fun n => g n + h n) f = fun n => cv L g f n + cv L h f n := by
  funext n
  unfold cv
  rw [← S_add]
  exact S_cg fun d _ => by grind
theorem cv_smul {c : Rat} : cv L f (fun n => c * g n) = fun n => c * cv L f g n := by
  funext n
  unfold cv
  rw [← S_mul]
  exact S_cg fun d _ => by grind
theorem S_pick {k : Nat} {v : Nat → Rat} : ∀ {l : List Nat}, l.Nodup → (S l fun d => if d = k then v d else 0) = if k ∈ l then v k else 0
  | [], _ => by simp [S]
  | x :: l, hn => by
    rw [S_cons, S_pick (List.nodup_cons.mp hn).2]
    by_cases e : x = k
    · subst e
      have := (List.nodup_cons.mp hn).1
      rw [if_pos rfl, if_neg this, if_pos List.mem_cons_self]; grind
    · rw [if_neg e]
      by_cases m : k ∈ l
      · rw [if_pos m, if_pos (List.mem_cons_of_mem _ m)]; grind
      · rw [if_neg m, if_neg (fun z => (List.mem_cons.mp z).elim (fun q => e q.symm) m)]; grind
theorem lotN_nodup {n : Nat} : (lotN L n).Nodup := List.Pairwise.sublist (List.filter_sublist.trans List.filter_sublist) (List.nodup_range' ..)
theorem cv_one (gd : LawG L) (hN : N ≤ 120) : Eqt N (cv L one1 f) f := fun n a b => by
  unfold cv one1
  rw [S_cg (g := fun d => if d = 1 then f (n / d) else 0) fun d _ => by by_cases e : d = 1 <;> simp [e] <;> grind]
  rw [S_pick lotN_nodup, if_pos (one_lot gd a (by omega)).1, Nat.div_one]
theorem cv_oner (gd : LawG L) (hN : N ≤ 120) : Eqt N (cv L f one1) f := (cv_comm gd hN).trans (cv_one gd hN)
theorem lotN_last (gd : LawG L) {n : Nat} (h1 : 1 ≤ n) (h2 : n ≤ 120) {v : Nat → Rat} : S (lotN L n) v = S ((lotN L n).filter (· < n)) v + v n := by
  rw [S_filter]
  have : v n = S (lotN L n) fun d => if d = n then v d else 0 := by
    rw [S_pick lotN_nodup, if_pos (one_lot gd h1 h2).2]
  rw [this, ← S_add]
  refine S_cg fun d hd => ?_
  have := lotN_le hd
  by_cases e : d = n
  · subst e; simp; grind
  · have : d < n := by omega
    simp [e, this]; grind
def invF (L : List (List Nat)) (f : Tb) : Nat → Tb
  | 0 => fun _ => 0
  | k + 1 => fun n => if n = 1 then 1 / f 1 else (0 - S ((lotN L n).filter (· < n)) fun d => invF L f k d * f (n / d)) / f 1
def inv (L : List (List Nat)) (f : Tb) : Tb := fun n => invF L f n n
theorem invF_eq : ∀ (k m n : Nat), n ≤ k → n ≤ m → 1 ≤ n → invF L f k n = invF L f m n
  | 0, _, n, h, _, h1 => by omega
  | _ + 1, 0, n, _, h, h1 => by omega
  | k + 1, m + 1, n, h, h', h1 => by
    unfold invF
    by_cases e : n = 1
    · rw [if_pos e, if_pos e]
    · rw [if_neg e, if_neg e]
      rw [S_cg fun d hd => ?_]
      have hl := (List.mem_filter.mp hd).2
      have hp := lotN_pos (List.mem_filter.mp hd).1
      simp only [decide_eq_true_eq] at hl
      rw [invF_eq k m d (by omega) (by omega) hp]
theorem inv_one : inv L f 1 = 1 / f 1 := by unfold inv invF; rw [if_pos rfl]
theorem inv_step {n : Nat} (h : 2 ≤ n) : inv L f n = (0 - S ((lotN L n).filter (· < n)) fun d => inv L f d * f (n / d)) / f 1 := by
  obtain ⟨k, rfl⟩ : ∃ k, n = k + 1 := ⟨n - 1, by omega⟩
  show invF L f (k + 1) (k + 1) = _
  unfold invF
  rw [if_neg (by omega)]
  rw [S_cg fun d hd => ?_]
  have hl := (List.mem_filter.mp hd).2
  have hp := lotN_pos (List.mem_filter.mp hd).1
  simp only [decide_eq_true_eq] at hl
  show _ = invF L f d d * _
  rw [invF_eq k d d (by omega) (by omega) hp]
theorem cv_inv (gd : LawG L) (hN : N ≤ 120) (h0 : f 1 ≠ 0) : Eqt N (cv L (inv L f) f) one1 := fun n a b => by
  unfold cv
  rw [lotN_last gd a (by omega), Nat.div_self a]
  unfold one1
  by_cases e : n = 1
  · subst e
    rw [if_pos rfl, inv_one]
    have : (lotN L 1).filter (· < 1) = [] := List.filter_eq_nil_iff.mpr fun d hd => by have := lotN_pos hd; simp; omega
    rw [this]
    show 0 + _ = _
    grind
  · rw [if_neg e, inv_step (by omega)]
    grind
theorem cv_invr (gd : LawG L) (hN : N ≤ 120) (h0 : f 1 ≠ 0) : Eqt N (cv L f (inv L f)) one1 := (cv_comm gd hN).trans (cv_inv gd hN h0)
theorem cv_cancel (gd : LawG L) (hN : N ≤ 120) (h0 : g 1 ≠ 0) (e : Eqt N (cv L f g) (cv L f' g)) : Eqt N f f' := by
  have a := cv_cg (L := L) e (Eqt.refl (f := inv L g))
  have b : ∀ x : Tb, Eqt N (cv L (cv L x g) (inv L g)) x := fun x => (cv_assoc gd hN).trans ((cv_cg Eqt.refl (cv_invr gd hN h0)).trans (cv_oner gd hN))
  exact (b f).symm.trans (a.trans (b f'))
theorem inv_uniq (gd : LawG L) (hN : N ≤ 120) (h0 : f 1 ≠ 0) (e : Eqt N (cv L g f) one1) : Eqt N g (inv L f) := cv_cancel gd hN h0 (e.trans (cv_inv gd hN h0).symm)
end
def mu (L : List (List Nat)) : Tb := inv L ones
section
variable {L : List (List Nat)} {N : Nat} {f g : Tb}
theorem ones_ne : ones 1 ≠ 0 := by unfold ones; grind
theorem mu_ones (gd : LawG L) (hN : N ≤ 120) : Eqt N (cv L (mu L) ones) one1 := cv_inv gd hN ones_ne
theorem back_sums (gd : LawG L) (hN : N ≤ 120) : Eqt N (cv L (cv L f ones) (mu L)) f :=
  (cv_assoc gd hN).trans ((cv_cg Eqt.refl ((cv_comm gd hN).trans (mu_ones gd hN))).trans (cv_oner gd hN))
theorem sums_back (gd : LawG L) (hN : N ≤ 120) : Eqt N (cv L (cv L f (mu L)) ones) f :=
  (cv_assoc gd hN).trans ((cv_cg Eqt.refl (mu_ones gd hN)).trans (cv_oner gd hN))
end
end Lv
namespace Lv
open PySem
def tl (f : Tb) (N : Nat) : List Rat := (List.range N).map fun i => f (i + 1)
def tabD (f : Tb) (N : Nat) : D := .tup ((tl f N).map fr)
def tabL (f : Tb) (N : Nat) : D := .lst ((tl f N).map fr)
theorem tl_len {f : Tb} {N : Nat} : (tl f N).length = N := by unfold tl; rw [List.length_map, List.length_range]
theorem tl_get {f : Tb} {N i : Nat} (h : i < (tl f N).length) : (tl f N)[i] = f (i + 1) := by simp only [tl, List.getElem_map, List.getElem_range]
theorem tl_cg {f g : Tb} {N : Nat} (h : Eqt N f g) : tl f N = tl g N := by
  unfold tl
  exact List.map_congr_left fun i hi => h (i + 1) (by omega) (by have := List.mem_range.mp hi; omega)
theorem tl_inj {f g : Tb} {N : Nat} (h : tl f N = tl g N) : Eqt N f g := fun n a b => by
  have h1 : n - 1 < (tl f N).length := by rw [tl_len]; omega
  have h2 : n - 1 < (tl g N).length := by rw [tl_len]; omega
  have e : (tl f N)[n - 1] = (tl g N)[n - 1] := by simp only [h]
  rw [tl_get, tl_get] at e
  rwa [Nat.sub_add_cancel a] at e
theorem tabD_cg {f g : Tb} {N : Nat} (h : Eqt N f g) : tabD f N = tabD g N := by unfold tabD; rw [tl_cg h]
theorem tabL_cg {f g : Tb} {N : Nat} (h : Eqt N f g) : tabL f N = tabL g N := by unfold tabL; rw [tl_cg h]
section
variable {f g : Tb} {N : Nat}
theorem tabIx {d : Nat} (h1 : d < N) : idx (tabD f N) (.int (d : Int)) = some (fr (f (d + 1))) := by
  unfold tabD
  rw [xTup (by rw [List.length_map, tl_len]; exact h1), List.getElem_map, tl_get]
theorem tabLx {d : Nat} (h1 : d < N) : idx (tabL f N) (.int (d : Int)) = some (fr (f (d + 1))) := by
  unfold tabL
  rw [xLst (by rw [List.length_map, tl_len]; exact h1), List.getElem_map, tl_get]
theorem tabLen : bi .len [tabD f N] = some (.int (N : Int)) := by
  show some (D.int ((((tl f N).map fr).length : Nat) : Int)) = _
  rw [List.length_map, tl_len]
theorem tabLLen : bi .len [tabL f N] = some (.int (N : Int)) := by
  show some (D.int ((((tl f N).map fr).length : Nat) : Int)) = _
  rw [List.length_map, tl_len]
theorem tabTy : isTy (tabD f N) .tuple = true := nr rfl
theorem tabPl : plainD (tabD f N) = true := nr rfl
theorem tabIt : items (tabD f N) = some ((tl f N).map fr) := nr rfl
theorem tabLIt : items (tabL f N) = some ((tl f N).map fr) := nr rfl
theorem tabTup : bi .tuple [tabL f N] = some (tabD f N) := nr rfl
theorem tabFr : fresh (tabD f N) = .sh (tabD f N) := nr rfl
theorem tabLFr : fresh (tabL f N) = .ow (tabL f N) := nr rfl
theorem frFr {q : Rat} : fresh (fr q) = .sh (fr q) := nr rfl
end
structure EqE {α : Type} [DecidableEq α] (e : α → D) (n : Nat) : Prop where
  ex : ∃ p : α → PyData, (∀ a, (e a).py = some (p a)) ∧ (∀ a, (p a).canLay0 = true) ∧ (∀ a, (p a).depth ≤ n) ∧ ∀ a b, PyData.eqv (p a) (p b) = decide (a = b)
section
variable {α : Type} [DecidableEq α] {e : α → D} {n : Nat}
theorem EqE.deq (h : EqE e n) (hn : n ≤ 64) (a b : α) : deq (e a) (e b) = some (decide (a = b)) := by
  obtain ⟨p, h1, h2, h3, h4⟩ := h.ex
  unfold Lv.deq
  rw [h1 a, h1 b]
  have s : ∀ a, SeqAt.shaped (p a) = true := fun a => by
    unfold SeqAt.shaped
    rw [h2 a, decide_eq_true (Nat.le_trans (h3 a) hn)]
    rfl
  show (if (SeqAt.shaped (p a) && SeqAt.shaped (p b)) = true then _ else _) = _
  rw [s a, s b, h4]
  rfl
theorem eqE_int : EqE D.int 0 := ⟨.int, fun _ => rfl, fun _ => rfl, fun _ => Nat.le_refl _, fun a b => by unfold PyData.eqv; rfl⟩
theorem eqE_bl : EqE D.bl 0 := ⟨.bool, fun _ => rfl, fun _ => rfl, fun _ => Nat.le_refl _, fun a b => by unfold PyData.eqv; rfl⟩
theorem eqE_nat : EqE (fun n : Nat => D.int (n : Int)) 0 := ⟨fun n => .int n, fun _ => rfl, fun _ => rfl, fun _ => Nat.le_refl _, fun a b => by
  unfold PyData.eqv
  exact decide_eq_decide.mpr (by omega)⟩
theorem pys_map {p : α → PyData} (h1 : ∀ a, (e a).py = some (p a)) : ∀ l : List α, D.py.pys (l.map e) = some (l.map p)
  | [] => rfl
  | x :: l => by
    show (match (e x).py, D.py.pys (l.map e) with | some y, some ys => some (y :: ys) | _, _ => none) = _
    rw [h1 x, pys_map h1 l]
    rfl
theorem can_map {p : α → PyData} (h2 : ∀ a, (p a).canLay0 = true) : ∀ l : List α, PyData.canLayAll0 (l.map p) = true
  | [] => rfl
  | x :: l => by
    show ((p x).canLay0 && PyData.canLayAll0 (l.map p)) = true
    rw [h2 x, can_map h2 l]
    rfl
theorem dep_map {p : α → PyData} (h3 : ∀ a, (p a).depth ≤ n) : ∀ l : List α, PyData.depthAll (l.map p) ≤ n
  | [] => Nat.zero_le _
  | x :: l => by
    show max (p x).depth (PyData.depthAll (l.map p)) ≤ n
    exact Nat.max_le.mpr ⟨h3 x, dep_map h3 l⟩
theorem eqv_map {p : α → PyData} (h4 : ∀ a b, PyData.eqv (p a) (p b) = decide (a = b)) : ∀ l m : List α, PyData.eqvAll (l.map p) (m.map p) = decide (l = m)
  | [], [] => by rw [List.map_nil]; unfold PyData.eqvAll; rfl
  | [], y :: m => by rw [List.map_nil, List.map_cons]; unfold PyData.eqvAll; rfl
  | x :: l, [] => by rw [List.map_nil, List.map_cons]; unfold PyData.eqvAll; rfl
  | x :: l, y :: m => by
    rw [List.map_cons, List.map_cons]
    unfold PyData.eqvAll
    rw [h4 x y, eqv_map h4 l m, ← Bool.decide_and]
    exact decide_eq_decide.mpr (by rw [List.cons.injEq])
theorem eqE_tup (h : EqE e n) : EqE (fun l : List α => D.tup (l.map e)) (n + 1) := by
  obtain ⟨p, h1, h2, h3, h4⟩ := h.ex
  refine ⟨fun l => .tuple (l.map p), fun l => ?_, fun l => ?_, fun l => ?_, fun l m => ?_⟩
  · show (D.py.pys (l.map e)).map PyData.tuple = _
    rw [pys_map h1]; rfl
  · exact can_map h2 l
  · exact Nat.succ_le_succ (dep_map h3 l)
  · unfold PyData.eqv
    exact eqv_map h4 l m
theorem eqE_lst (h : EqE e n) : EqE (fun l : List α => D.lst (l.map e)) (n + 1) := by
  obtain ⟨p, h1, h2, h3, h4⟩ := h.ex
  refine ⟨fun l => .list (l.map p), fun l => ?_, fun l => ?_, fun l => ?_, fun l m => ?_⟩
  · show (D.py.pys (l.map e)).map PyData.list = _
    rw [pys_map h1]; rfl
  · exact can_map h2 l
  · exact Nat.succ_le_succ (dep_map h3 l)
  · unfold PyData.eqv
    exact eqv_map h4 l m
theorem eqE_inj {β : Type} [DecidableEq β] {i : β → α} (hi : ∀ a b, i a = i b → a = b) (h : EqE e n) : EqE (fun b => e (i b)) n := by
  obtain ⟨p, h1, h2, h3, h4⟩ := h.ex
  exact ⟨fun b => p (i b), fun b => h1 _, fun b => h2 _, fun b => h3 _, fun a b => by
    rw [h4]; exact decide_eq_decide.mpr ⟨hi a b, fun z => by rw [z]⟩⟩
end
def frI' (q : Rat) : List Int := [q.num, q.den]
theorem frI_inj (a b : Rat) (h : frI' a = frI' b) : a = b := by
  unfold frI' at h
  simp only [List.cons.injEq, and_true] at h
  exact Rat.ext h.1 (by omega)
theorem eqE_fr : EqE fr 1 := eqE_inj (i := frI') (e := fun l : List Int => D.tup (l.map D.int)) frI_inj (eqE_tup eqE_int)
theorem deq_fr {p q : Rat} : deq (fr p) (fr q) = some (decide (p = q)) := eqE_fr.deq (by decide) p q
theorem deq_tab {f g : Tb} {N M : Nat} : deq (tabD f N) (tabD g M) = some (decide (tl f N = tl g M)) := (eqE_tup eqE_fr).deq (by decide) (tl f N) (tl g M)
theorem deq_tabL {f g : Tb} {N M : Nat} : deq (tabL f N) (tabL g M) = some (decide (tl f N = tl g M)) := (eqE_lst eqE_fr).deq (by decide) (tl f N) (tl g M)
theorem cmpEq {a b : D} : cmp .eq a b = deq a b := by cases a <;> cases b <;> rfl
theorem cmpNe {a b : D} : cmp .ne a b = (deq a b).map (!·) := by cases a <;> cases b <;> rfl
end Lv
namespace Lv
open PySem
section
variable {α β : Type} {l : List α}
theorem dbools_m (p : α → Bool) : ∀ l : List α, dbools (l.map fun x => D.bl (p x)) = some (l.map p) := dbools_map p
theorem biAll {p : α → Bool} : bi .all [.lst (l.map fun x => D.bl (p x))] = some (.bl (l.all p)) := by
  show (dbools _).map _ = _
  rw [dbools_m]
  show some (D.bl ((l.map p).all id)) = _
  rw [List.all_map]
  rfl
theorem dints_m (v : α → Int) : ∀ l : List α, dints (l.map fun x => D.int (v x)) = some (l.map v)
  | [] => rfl
  | x :: l => by
    show (dints (l.map fun x => D.int (v x))).map _ = _
    rw [dints_m v l]
    rfl
theorem biSum {v : α → Int} : bi .sum [.lst (l.map fun x => D.int (v x))] = some (.int (l.map v).sum) := by
  show (dints _).map _ = _
  rw [dints_m]
  rfl
theorem biMax {v : α → Int} {x : α} : bi .max [.lst ((x :: l).map fun x => D.int (v x))] = some (.int (maxI (v x) (l.map v))) := by
  show (match dints ((x :: l).map fun x => D.int (v x)) with | some (n :: ns) => some (D.int (maxI n ns)) | _ => none) = _
  rw [dints_m]
  rfl
theorem biMin {v : α → Int} {x : α} : bi .min [.lst ((x :: l).map fun x => D.int (v x))] = some (.int (minI (v x) (l.map v))) := by
  show (match dints ((x :: l).map fun x => D.int (v x)) with | some (n :: ns) => some (D.int (minI n ns)) | _ => none) = _
  rw [dints_m]
  rfl
theorem biSort {v : α → Int} : bi .sorted [.lst (l.map fun x => D.int (v x))] = some (.lst ((sortI (l.map v)).map .int)) := by
  show (dints _).map _ = _
  rw [dints_m]
  rfl
theorem biTupL {ds : List D} : bi .tuple [.lst ds] = some (.tup ds) := nr rfl
theorem biTupT {ds : List D} : bi .tuple [.tup ds] = some (.tup ds) := nr rfl
theorem biListT {ds : List D} : bi .list [.tup ds] = some (.lst ds) := nr rfl
theorem biListL {ds : List D} : bi .list [.lst ds] = some (.lst ds) := nr rfl
theorem biLenL {ds : List D} : bi .len [.lst ds] = some (.int (ds.length : Nat)) := nr rfl
theorem biLenT {ds : List D} : bi .len [.tup ds] = some (.int (ds.length : Nat)) := nr rfl
theorem biIntI {i : Int} : bi .int [.int i] = some (.int i) := nr rfl
theorem biIntB {b : Bool} : bi .int [.bl b] = some (.int (if b then 1 else 0)) := nr rfl
theorem biAbs {i : Int} : bi .abs [.int i] = some (.int (if i < 0 then -i else i)) := nr rfl
theorem itL {ds : List D} : items (.lst ds) = some ds := nr rfl
theorem itT {ds : List D} : items (.tup ds) = some ds := nr rfl
theorem idxM {f : α → D} {j : Nat} (h : j < l.length) : idx (.tup (l.map f)) (.int (j : Int)) = some (f l[j]) := by
  rw [xTup (by rw [List.length_map]; exact h), List.getElem_map]
theorem idxML {f : α → D} {j : Nat} (h : j < l.length) : idx (.lst (l.map f)) (.int (j : Int)) = some (f l[j]) := by
  rw [xLst (by rw [List.length_map]; exact h), List.getElem_map]
theorem idxLast {ds : List D} {h : ds ≠ []} : idx (.lst ds) (.int (-1)) = some (ds.getLast h) := by
  have hp : 0 < ds.length := List.length_pos_iff.mpr h
  show (L2.ixN ds.length (-1)).bind _ = _
  have e : L2.ixN ds.length (-1) = some (ds.length - 1) := by
    unfold L2.ixN
    rw [if_neg (by omega), if_pos (by omega)]
    congr 1
    omega
  rw [e]
  show ds[ds.length - 1]? = _
  rw [List.getElem?_eq_getElem (by omega), List.getLast_eq_getElem]
theorem dmem_m [DecidableEq α] {e : α → D} {n : Nat} (h : EqE e n) (hn : n < 64) (x : α) : dmem (e x) (l.map e) = some (decide (x ∈ l)) := by
  obtain ⟨p, h1, h2, h3, h4⟩ := h.ex
  unfold dmem
  rw [h1 x, pys_map h1]
  have s1 : SeqAt.shaped (p x) = true := by
    unfold SeqAt.shaped
    rw [h2 x, decide_eq_true (Nat.le_trans (h3 x) (by omega))]
    rfl
  have s2 : SeqAt.shaped (.list (l.map p)) = true := by
    unfold SeqAt.shaped
    have e1 : PyData.canLay0 (.list (l.map p)) = true := can_map h2 l
    have e2 : PyData.depth (.list (l.map p)) ≤ 64 := Nat.le_trans (Nat.succ_le_succ (dep_map h3 l)) (by omega)
    rw [e1, decide_eq_true e2]
    rfl
  show (if (SeqAt.shaped (p x) && SeqAt.shaped (.list (l.map p))) = true then _ else _) = _
  rw [s1, s2]
  show some ((l.map p).any fun z => PyData.eqv z (p x)) = _
  rw [List.any_map]
  congr 1
  induction l with
  | nil => rfl
  | cons y l ih =>
    have s3 : SeqAt.shaped (.list (l.map p)) = true := by
      unfold SeqAt.shaped
      have e1 : PyData.canLay0 (.list (l.map p)) = true := can_map h2 l
      have e2 : PyData.depth (.list (l.map p)) ≤ 64 := Nat.le_trans (Nat.succ_le_succ (dep_map h3 l)) (by omega)
      rw [e1, decide_eq_true e2]
      rfl
    rw [List.any_cons, ih s3]
    show ((p y).eqv (p x) || _) = _
    rw [h4]
    by_cases q : y = x
    · simp [q]
    · have : ¬ x = y := fun z => q z.symm
      simp [q, this]
theorem cInT {x : D} {ds : List D} : cmp .isin x (.tup ds) = dmem x ds := by cases x <;> rfl
theorem cInL {x : D} {ds : List D} : cmp .isin x (.lst ds) = dmem x ds := by cases x <;> rfl
theorem cNinT {x : D} {ds : List D} : cmp .notin x (.tup ds) = (dmem x ds).map (!·) := by cases x <;> rfl
theorem cNinL {x : D} {ds : List D} : cmp .notin x (.lst ds) = (dmem x ds).map (!·) := by cases x <;> rfl
theorem dmem_nat {x : Nat} {l : List Nat} : dmem (.int (x : Int)) (l.map fun (d : Nat) => D.int (d : Int)) = some (decide (x ∈ l)) := dmem_m eqE_nat (by decide) x
theorem sliTo {ds : List D} {n : Nat} : sli (.tup ds) none (some (n : Int)) = some (.tup (ds.take n)) := by
  show some (D.tup (cut ds none (some (n : Int)))) = _
  congr 2
  unfold cut
  have e1 : HT.sIx ds.length 0 none = 0 := nr rfl
  have e2 : HT.sIx ds.length ds.length (some (n : Int)) = min n ds.length := by
    unfold HT.sIx
    simp only
    rw [if_neg (by omega), Int.toNat_natCast]
  rw [e1, e2, List.drop_zero, Nat.sub_zero]
  by_cases h : n ≤ ds.length
  · rw [Nat.min_eq_left h]
  · rw [Nat.min_eq_right (by omega), List.take_length, List.take_of_length_le (by omega)]
theorem sliFrom {ds : List D} {n : Nat} : sli (.tup ds) (some (n : Int)) none = some (.tup (ds.drop n)) := by
  show some (D.tup (cut ds (some (n : Int)) none)) = _
  congr 2
  unfold cut
  have e1 : HT.sIx ds.length ds.length none = ds.length := nr rfl
  have e2 : HT.sIx ds.length 0 (some (n : Int)) = min n ds.length := by
    unfold HT.sIx
    simp only
    rw [if_neg (by omega), Int.toNat_natCast]
  rw [e1, e2]
  by_cases h : n ≤ ds.length
  · rw [Nat.min_eq_left h, List.take_of_length_le (by rw [List.length_drop]; omega)]
  · rw [Nat.min_eq_right (by omega), List.drop_length, List.drop_of_length_le (by omega)]
    simp
end
end Lv
namespace Lv
open PySem
abbrev Ok_is_whole := IsWhole
theorem ok_is_whole {C : List Fn} {i : Nat} (h : C[i]? = some F_is_whole) : Ok_is_whole C i := is_whole_ok h
abbrev Ok_is_within_bounds := IsWithin
theorem ok_is_within_bounds {C : List Fn} {i iw : Nat} (h : C[i]? = some (F_is_within_bounds iw)) (h1 : Ok_is_whole C iw) : Ok_is_within_bounds C i := is_within_ok h h1
abbrev Ok_is_next := NextOk
theorem ok_is_next {C : List Fn} {i : Nat} (h : C[i]? = some F_is_next) : Ok_is_next C i := next_ok h
abbrev Ok_is_row_of := RowOk
theorem ok_is_row_of {C : List Fn} {i a b : Nat} (h : C[i]? = some (F_is_row_of a b)) (h1 : Ok_is_within_bounds C a) (h2 : Ok_is_next C b) : Ok_is_row_of C i := row_ok h h1 h2
abbrev Ok_is_law_of := LawOk
theorem ok_is_law_of {C : List Fn} {i a : Nat} (h : C[i]? = some (F_is_law_of a)) (h1 : Ok_is_row_of C a) : Ok_is_law_of C i := law_ok h h1
def Ok_need_law (C : List Fn) (i : Nat) : Prop := fcOf C i = [false] ∧ ∀ k, 5 ≤ k → ∀ L : List (List Nat), LawG L → callF C k i [.sh (lawD L)] = .ret (.sh .non) [.sh (lawD L)]
theorem ok_need_law {C : List Fn} {i a : Nat} (h : C[i]? = some (F_need_law a)) (h1 : Ok_is_law_of C a) : Ok_need_law C i := ⟨(need_law_ok h h1).1, fun k hk L hL => (need_law_ok h h1).2 k hk L hL.lawB⟩
theorem within_t {C : List Fn} {i : Nat} (h : Ok_is_within_bounds C i) {k : Nat} (hk : 2 ≤ k) {x a b : Int} (h1 : a ≤ x) (h2 : x ≤ b) : callF C k i [.sh (.int x), .sh (.int a), .sh (.int b)] = .ret (.sh (.bl true)) [.sh (.int x), .sh (.int a), .sh (.int b)] := by
  rw [h.2 k hk x a b, decide_eq_true h1, decide_eq_true h2]
  rfl
def Ok_need_number (C : List Fn) (i : Nat) : Prop := fcOf C i = [false, false] ∧ ∀ k, 3 ≤ k → ∀ (n : Nat) (w : Str), 1 ≤ n → n ≤ 120 → callF C k i [.sh (.int n), .sh (.str w)] = .ret (.sh .non) [.sh (.int n), .sh (.str w)]
theorem ok_need_number {C : List Fn} {i a : Nat} (h : C[i]? = some (F_need_number a)) (h1 : Ok_is_within_bounds C a) : Ok_need_number C i := by
  (refine ⟨by unfold fcOf; rw [h]; rfl, ?_⟩; intro k hk; obtain ⟨k, rfl⟩ : ∃ j, k = j + 1 := ⟨k - 1, by omega⟩)
  intro n w a1 a2
  rw [callF_eq h rfl]
  simp? [F_need_number, h1.1, within_t h1]
def Ok_need_reach (C : List Fn) (i : Nat) : Prop := fcOf C i = [false] ∧ ∀ k, 3 ≤ k → ∀ (n : Nat), 1 ≤ n → n ≤ 120 → callF C k i [.sh (.int n)] = .ret (.sh .non) [.sh (.int n)]
theorem ok_need_reach {C : List Fn} {i a : Nat} (h : C[i]? = some (F_need_reach a)) (h1 : Ok_is_within_bounds C a) : Ok_need_reach C i := by
  (refine ⟨by unfold fcOf; rw [h]; rfl, ?_⟩; intro k hk; obtain ⟨k, rfl⟩ : ∃ j, k = j + 1 := ⟨k - 1, by omega⟩)
  intro n a1 a2
  rw [callF_eq h rfl]
  simp? [F_need_reach, h1.1, within_t h1]
def Ok_need_far (C : List Fn) (i : Nat) : Prop := fcOf C i = [false] ∧ ∀ k, 3 ≤ k → ∀ (n : Nat), 1 ≤ n → n ≤ 1000000000000000000 → callF C k i [.sh (.int n)] = .ret (.sh .non) [.sh (.int n)]
theorem ok_need_far {C : List Fn} {i a : Nat} (h : C[i]? = some (F_need_far a)) (h1 : Ok_is_within_bounds C a) : Ok_need_far C i := by
  (refine ⟨by unfold fcOf; rw [h]; rfl, ?_⟩; intro k hk; obtain ⟨k, rfl⟩ : ∃ j, k = j + 1 := ⟨k - 1, by omega⟩)
  intro n a1 a2
  rw [callF_eq h rfl]
  simp? [F_need_far, h1.1, within_t h1]
abbrev Ok_factors_of := FacOk
theorem ok_factors_of {C : List Fn} {i : Nat} (h : C[i]? = some F_factors_of) : Ok_factors_of C i := fac_ok h
abbrev Ok_type_by := TypeByOk
theorem ok_type_by {C : List Fn} {i : Nat} (h : C[i]? = some F_type_by) : Ok_type_by C i := type_by_ok h
abbrev Ok_powered := PowOk
theorem ok_powered {C : List Fn} {i : Nat} (h : C[i]? = some F_powered) : Ok_powered C i := powered_ok h
def facFine2 (n : Nat) : Bool := (facN n).all fun q => decide (2 ≤ q.1) && decide (q.1 ≤ 120) && decide (1 ≤ q.2) && decide (q.2 ≤ 6) && (vp q.1 n == q.2) && (decide (q.1 = 2) || decide (q.1 = 3) || decide (q.1 = 5) || decide (q.1 = 7) || decide (q.2 = 1))
theorem fac_fine2 : (List.range' 1 120).all facFine2 = true := by decide +kernel
theorem fac_at {n : Nat} (h1 : 1 ≤ n) (h2 : n ≤ 120) {q : Nat × Nat} (h : q ∈ facN n) : 2 ≤ q.1 ∧ q.1 ≤ 120 ∧ 1 ≤ q.2 ∧ q.2 ≤ 6 ∧ vp q.1 n = q.2 ∧ (q.1 = 2 ∨ q.1 = 3 ∨ q.1 = 5 ∨ q.1 = 7 ∨ q.2 = 1) := by
  have := List.all_eq_true.mp (List.all_eq_true.mp fac_fine2 n (List.mem_range'_1.mpr ⟨h1, by omega⟩)) q h
  simp only [Bool.and_eq_true, decide_eq_true_eq, beq_iff_eq, Bool.or_eq_true] at this
  obtain ⟨⟨⟨⟨⟨a, b⟩, c⟩, d⟩, e⟩, f⟩ := this
  refine ⟨a, b, c, d, e, ?_⟩
  rcases f with (((f | f) | f) | f) | f
  · exact .inl f
  · exact .inr (.inl f)
  · exact .inr (.inr (.inl f))
  · exact .inr (.inr (.inr (.inl f)))
  · exact .inr (.inr (.inr (.inr f)))
theorem typeN_else {L : List (List Nat)} {p a : Nat} (h : ¬ (p = 2 ∨ p = 3 ∨ p = 5 ∨ p = 7)) : typeN L p a = 1 := by
  unfold typeN rowAt
  rw [if_neg (fun z => h (.inl z)), if_neg (fun z => h (.inr (.inl z))), if_neg (fun z => h (.inr (.inr (.inl z)))), if_neg (fun z => h (.inr (.inr (.inr z))))]
theorem typeN_fac {L : List (List Nat)} (g : LawG L) {n : Nat} (h1 : 1 ≤ n) (h2 : n ≤ 120) {q : Nat × Nat} (h : q ∈ facN n) : typeN L q.1 q.2 = tsOf (tys L n) q.1 ∧ 1 ≤ typeN L q.1 q.2 ∧ typeN L q.1 q.2 ≤ q.2 ∧ ∀ r, rowAt L q.1 = some r → 1 ≤ q.2 ∧ q.2 ≤ r.length := by
  obtain ⟨a1, a2, a3, a4, a5, a6⟩ := fac_at h1 h2 h
  by_cases hp : q.1 = 2 ∨ q.1 = 3 ∨ q.1 = 5 ∨ q.1 = 7
  · have hv := vp_le h1 h2 hp
    rw [a5] at hv
    have f := typeN_fine g hp a3 hv
    have e : tyAt L q.1 n = typeN L q.1 q.2 := by
      unfold tyAt
      rw [a5, if_neg (by omega)]
    refine ⟨?_, f.1, f.2.1, fun r hr => ⟨a3, ?_⟩⟩
    · unfold tsOf tys
      rcases hp with z | z | z | z <;> rw [z] at e ⊢ <;> exact e.symm
    · have hr' := (rowFine_at (rowAt_fine g hr) a3 hv).1
      rw [rowB_len hr']
      exact hv
  · have t1 : typeN L q.1 q.2 = 1 := typeN_else hp
    rw [t1]
    refine ⟨?_, Nat.le_refl _, a3, fun r hr => ?_⟩
    · unfold tsOf
      rw [if_neg (fun z => hp (.inl z)), if_neg (fun z => hp (.inr (.inl z))), if_neg (fun z => hp (.inr (.inr (.inl z)))), if_neg (fun z => hp (.inr (.inr (.inr z))))]
    · unfold rowAt at hr
      rw [if_neg (fun z => hp (.inl z)), if_neg (fun z => hp (.inr (.inl z))), if_neg (fun z => hp (.inr (.inr (.inl z)))), if_neg (fun z => hp (.inr (.inr (.inr z))))] at hr
      cases hr
def powsT (p t st : Nat) : List Int := (List.range ((t + 1 + st - 1) / st)).map fun i => ((p ^ (i * st) : Nat) : Int)
def rawF (ty : Nat → Nat → Nat) (l : List (Nat × Nat)) (fs : List Int) : List Int := l.foldl (fun fs q => timesL fs (powsT q.1 q.2 (ty q.1 q.2))) fs
def u1 : List Int := [1]
def rawT (ts : Ts) (n : Nat) : List Int := rawF (fun p _ => tsOf ts p) (facN n) u1
def chkLot (n : Nat) (ts : Ts) : Bool := sortI (rawT ts n) == (lotT ts n).map fun (d : Nat) => (d : Int)
theorem all_lot : forAll 120 chkLot = true := by decide +kernel
theorem rawF_cons {ty : Nat → Nat → Nat} {q : Nat × Nat} {l : List (Nat × Nat)} {fs : List Int} : rawF ty (q :: l) fs = rawF ty l (timesL fs (powsT q.1 q.2 (ty q.1 q.2))) := nr rfl
theorem powsN_eq {L : List (List Nat)} {p t : Nat} : powsN L p t = powsT p t (typeN L p t) := by
  unfold powsN powsT
  refine List.map_congr_left fun i _ => ?_
  push_cast
  rfl
theorem raw_eq {L : List (List Nat)} (g : LawG L) {n : Nat} (h1 : 1 ≤ n) (h2 : n ≤ 120) : rawF (typeN L) (facN n) u1 = rawT (tys L n) n := by
  have : ∀ (l : List (Nat × Nat)) (fs : List Int), (∀ q ∈ l, q ∈ facN n) → rawF (typeN L) l fs = rawF (fun p _ => tsOf (tys L n) p) l fs := by
    intro l
    induction l with
    | nil => intro fs _; rfl
    | cons q l ih =>
      intro fs hm
      rw [rawF_cons, rawF_cons, (typeN_fac g h1 h2 (hm q List.mem_cons_self)).1]
      exact ih _ fun y hy => hm y (List.mem_cons_of_mem _ hy)
  exact this _ _ fun q hq => hq
theorem sort_raw {L : List (List Nat)} (g : LawG L) {n : Nat} (h1 : 1 ≤ n) (h2 : n ≤ 120) : sortI (rawF (typeN L) (facN n) u1) = (lotN L n).map fun (d : Nat) => (d : Int) := by
  rw [raw_eq g h1 h2]
  exact eq_of_beq (seen all_lot g h1 h2)
def natsD (l : List Nat) : D := .tup (l.map fun (d : Nat) => .int (d : Int))
def lotD (L : List (List Nat)) (n : Nat) : D := natsD (lotN L n)
def Ok_lot_by (C : List Fn) (i : Nat) : Prop := fcOf C i = [false, false] ∧ ∀ k, 3 ≤ k → ∀ (L : List (List Nat)) (n : Nat), LawG L → 1 ≤ n → n ≤ 120 → callF C k i [.sh (lawD L), .sh (.int n)] = .ret (.sh (lotD L n)) [.sh (lawD L), .sh (.int n)]
def chkRaw (n : Nat) (ts : Ts) : Bool := ((List.range ((facN n).length + 1)).all fun j => (rawF (fun p _ => tsOf ts p) ((facN n).take j) u1).all fun x => decide (0 ≤ x) && decide (x ≤ 1000)) && ((List.range ((facN n).length + 1)).all fun j => decide ((rawF (fun p _ => tsOf ts p) ((facN n).take j) u1).length ≤ 1000)) && ((facN n).all fun q => (powsT q.1 q.2 (tsOf ts q.1)).all fun x => decide (0 ≤ x) && decide (x ≤ 1000))
theorem all_raw : forAll 120 chkRaw = true := by decide +kernel
end Lv
namespace Lv
open PySem
section
variable {L : List (List Nat)} {n : Nat}
theorem raw_fine (g : LawG L) (h1 : 1 ≤ n) (h2 : n ≤ 120) {pre post : List (Nat × Nat)} (h : facN n = pre ++ post) : (∀ x ∈ rawF (typeN L) pre u1, 0 ≤ x ∧ x ≤ 1000) ∧ (rawF (typeN L) pre u1).length ≤ 1000 := by
  have c := seen all_raw g h1 h2
  have e : rawF (typeN L) pre u1 = rawF (fun p _ => tsOf (tys L n) p) ((facN n).take pre.length) u1 := by
    rw [h, List.take_left']
    · have : ∀ (l : List (Nat × Nat)) (fs : List Int), (∀ q ∈ l, q ∈ facN n) → rawF (typeN L) l fs = rawF (fun p _ => tsOf (tys L n) p) l fs := by
        intro l
        induction l with
        | nil => intro fs _; rfl
        | cons q l ih =>
          intro fs hm
          rw [rawF_cons, rawF_cons, (typeN_fac g h1 h2 (hm q List.mem_cons_self)).1]
          exact ih _ fun y hy => hm y (List.mem_cons_of_mem _ hy)
      exact this _ _ fun q hq => by rw [h]; exact List.mem_append_left _ hq
    · rfl
  have hl : pre.length ∈ List.range ((facN n).length + 1) := List.mem_range.mpr (by rw [h, List.length_append]; omega)
  simp only [chkRaw, Bool.and_eq_true] at c
  obtain ⟨⟨c1, c2⟩, c3⟩ := c
  rw [e]
  refine ⟨fun x hx => ?_, ?_⟩
  · have := List.all_eq_true.mp (List.all_eq_true.mp c1 _ hl) x hx
    simpa only [Bool.and_eq_true, decide_eq_true_eq] using this
  · have := List.all_eq_true.mp c2 _ hl
    simpa only [decide_eq_true_eq] using this
theorem pows_fine (g : LawG L) (h1 : 1 ≤ n) (h2 : n ≤ 120) {q : Nat × Nat} (h : q ∈ facN n) : ∀ x ∈ powsN L q.1 q.2, 0 ≤ x ∧ x ≤ 1000 := by
  have c := seen all_raw g h1 h2
  simp only [chkRaw, Bool.and_eq_true] at c
  obtain ⟨⟨c1, c2⟩, c3⟩ := c
  intro x hx
  rw [powsN_eq, (typeN_fac g h1 h2 h).1] at hx
  have := List.all_eq_true.mp (List.all_eq_true.mp c3 _ h) x hx
  simpa only [Bool.and_eq_true, decide_eq_true_eq] using this
theorem rawF_app {ty : Nat → Nat → Nat} {l : List (Nat × Nat)} {q : Nat × Nat} {fs : List Int} : rawF ty (l ++ [q]) fs = timesL (rawF ty l fs) (powsT q.1 q.2 (ty q.1 q.2)) := by
  unfold rawF
  rw [List.foldl_append]
  rfl
end
theorem ok_lot_by {C : List Fn} {i a b c : Nat} (h : C[i]? = some (F_lot_by a b c)) (h1 : Ok_factors_of C a) (h2 : Ok_type_by C b) (h3 : Ok_powered C c) : Ok_lot_by C i := by
  (refine ⟨by unfold fcOf; rw [h]; rfl, ?_⟩; intro k hk; obtain ⟨k, rfl⟩ : ∃ j, k = j + 1 := ⟨k - 1, by omega⟩)
  intro L n g n1 n2
  rw [callF_eq h rfl]
  obtain ⟨j, hj⟩ : ∃ j, k = j + 1 := ⟨k - 1, by omega⟩
  have L4 : L.length = 4 := by obtain ⟨_, _, _, _, _, _, _, _, rfl⟩ := g; rfl
  obtain ⟨s, e1⟩ := fr_pre (S := Sl × Sl × Sl × Sl) (fc := fcOf C) (call := callF C k) (t := .tup [.nm 3, .nm 4]) (b := B_lot_by1 b c) pairD
    (fun pre s => [.sh (lawD L), .sh (.int n), .ow (.lst ((rawF (typeN L) pre u1).map .int)), s.1, s.2.1, s.2.2.1, s.2.2.2, .un, .un, .un]) (l := facN n) (fun pre q post hl s => by
      have hq : q ∈ facN n := by rw [hl]; exact List.mem_append_right _ List.mem_cons_self
      obtain ⟨a1, a2, a3, a4, a5, a6⟩ := fac_at n1 n2 hq
      obtain ⟨t1, t2, t3, t4⟩ := typeN_fac g n1 n2 hq
      have c1 := h2.2 k (by omega) L q.1 q.2 L4 t4
      have f := raw_fine g n1 n2 hl
      have f2 := raw_fine g n1 n2 (pre := pre ++ [q]) (post := post) (by rw [hl, List.append_assoc]; rfl)
      rw [rawF_app, ← powsN_eq] at f2
      have f3 := pows_fine g n1 n2 hq
      have lp := lot_pow (k := j) h3 (e0 := .sh (lawD L)) (e1 := .sh (.int n)) (e2 := .ow (.lst ((rawF (typeN L) pre u1).map .int))) (s5 := .un) (s6 := s.2.2.2) (s7 := .un) (s8 := .un) (s9 := .un) (L := L) (p := q.1) (t := q.2) (fun d z => nomatch z) t2 (by omega) (by omega) (by omega)
      rw [← hj] at lp
      have lp' : evE (fcOf C) (callF C k) (C_lot_by1 c) _ = _ := lp
      obtain ⟨s6, lt⟩ := lot_times (C := C) (k := k) (e0 := .sh (lawD L)) (e1 := .sh (.int n)) (s3 := .sh (.int q.1)) (s4 := .sh (.int q.2)) (s5 := .sh (.int (typeN L q.1 q.2))) (s7 := .un) (s8 := .un) (s9 := .un) (fs := rawF (typeN L) pre u1) (ps := powsN L q.1 q.2) (fun d z => nomatch z) (fun d z => nomatch z)
        (fun x hx y hy => mulOk_l (ibits_le (by have := f.1 x hx; have e : (2 : Nat) ^ 64 = 18446744073709551616 := by decide
                                                rw [e]; omega))) (by omega)
      have lt' : evE (fcOf C) (callF C k) C_lot_by2 _ = _ := lt
      refine ⟨(.sh (.int q.1), .sh (.int q.2), .sh (.int (typeN L q.1 q.2)), s6), ?_⟩
      rw [rawF_app, ← powsN_eq]
      simp? [frT, pairD, B_lot_by1, h2.1, c1, lp', lt']) (.un, .un, .un, .un)
  have c0 := h1.2 k (by omega) n n1 (by omega)
  have e0 : exS (fcOf C) (callF C k) (S_lot_by1 a b c) [.sh (lawD L), .sh (.int n), .ow (.lst [.int ((1 : Nat) : Int)]), .un, .un, .un, .un, .un, .un, .un] = .ok .nx [.sh (lawD L), .sh (.int n), .ow (.lst ((rawF (typeN L) (facN n) u1).map .int)), s.1, s.2.1, s.2.2.1, s.2.2.2, .un, .un, .un] := by
    refine fr_st ?_ e1
    simp? [h1.1, c0, itL]
    rfl
  unfold lotD natsD
  have so := sort_raw g n1 n2
  have e3 : bi .sorted [.lst ((rawF (typeN L) (facN n) u1).map .int)] = some (.lst ((lotN L n).map fun (d : Nat) => .int (d : Int))) := by
    have := biSort (l := rawF (typeN L) (facN n) u1) (v := fun x => x)
    rw [List.map_id'] at this
    rw [this, so, List.map_map]
    rfl
  simp? [F_lot_by, e0, e3, biTupL]
def lotsD (L : List (List Nat)) (N : Nat) : D := .lst ((List.range N).map fun i => lotD L (i + 1))
def Ok_all_lots (C : List Fn) (i : Nat) : Prop := fcOf C i = [false, false] ∧ ∀ k, 4 ≤ k → ∀ (L : List (List Nat)) (n : Nat), LawG L → n ≤ 120 → callF C k i [.sh (lawD L), .sh (.int n)] = .ret (.ow (lotsD L n)) [.sh (lawD L), .sh (.int n)]
theorem ok_all_lots {C : List Fn} {i a : Nat} (h : C[i]? = some (F_all_lots a)) (h1 : Ok_lot_by C a) : Ok_all_lots C i := by
  (refine ⟨by unfold fcOf; rw [h]; rfl, ?_⟩; intro k hk; obtain ⟨k, rfl⟩ : ∃ j, k = j + 1 := ⟨k - 1, by omega⟩)
  intro L n g n2
  rw [callF_eq h rfl]
  have e : evE (fcOf C) (callF C k) (C_all_lots1 a) [.sh (lawD L), .sh (.int n), .un] = .ok (.ow (lotsD L n)) [.sh (lawD L), .sh (.int n), .un] :=
    lc_m0 (fun (i : Nat) => D.int ((1 + i : Nat) : Int)) (fun i => lotD L (i + 1)) (fun i => .sh (lotD L (i + 1))) (fun i => [.sh (lawD L), .sh (.int n), .sh (.int ((1 + i : Nat) : Int))]) (l := List.range n) rfl rfl rfl
    (vR2m 1 (n + 1) n (by omega) (by simp? []) (by simp? []) (by omega)) (fun x hx => rfl) (fun x => rfl) (fun x hx => by
      have := List.mem_range.mp hx
      rw [Nat.add_comm x 1]
      simp? [E_all_lots1, h1.1, h1.2]) (fun x => .inl rfl) (by simp; omega)
  simp? [F_all_lots, e]
end Lv
namespace Lv
open PySem
section
variable {C : List Fn} {i a b c d : Nat}
def Ok_lot (C : List Fn) (i : Nat) : Prop := fcOf C i = [false, false] ∧ ∀ k, 6 ≤ k → ∀ (L : List (List Nat)) (n : Nat), LawG L → 1 ≤ n → n ≤ 120 → callF C k i [.sh (lawD L), .sh (.int n)] = .ret (.sh (lotD L n)) [.sh (lawD L), .sh (.int n)]
theorem ok_lot (h : C[i]? = some (F_lot a b c)) (h1 : Ok_need_law C a) (h2 : Ok_need_number C b) (h3 : Ok_lot_by C c) : Ok_lot C i := by
  (refine ⟨by unfold fcOf; rw [h]; rfl, ?_⟩; intro k hk; obtain ⟨k, rfl⟩ : ∃ j, k = j + 1 := ⟨k - 1, by omega⟩)
  intro L n g n1 n2
  rw [callF_eq h rfl]
  simp? [F_lot, h1.1, h1.2, h2.1, h2.2, h3.1, h3.2]
def Ok_is_in (C : List Fn) (i : Nat) : Prop := fcOf C i = [false, false, false] ∧ ∀ k, 6 ≤ k → ∀ (L : List (List Nat)) (m n : Nat), LawG L → 1 ≤ m → m ≤ 120 → 1 ≤ n → n ≤ 120 → callF C k i [.sh (lawD L), .sh (.int m), .sh (.int n)] = .ret (.sh (.bl (decide (m ∈ lotN L n)))) [.sh (lawD L), .sh (.int m), .sh (.int n)]
theorem ok_is_in (h : C[i]? = some (F_is_in a b c)) (h1 : Ok_need_law C a) (h2 : Ok_need_number C b) (h3 : Ok_lot_by C c) : Ok_is_in C i := by
  (refine ⟨by unfold fcOf; rw [h]; rfl, ?_⟩; intro k hk; obtain ⟨k, rfl⟩ : ∃ j, k = j + 1 := ⟨k - 1, by omega⟩)
  intro L m n g m1 m2 n1 n2
  rw [callF_eq h rfl]
  simp? [F_is_in, h1.1, h1.2, h2.1, h2.2, h3.1, h3.2, lotD, natsD, cInT, dmem_nat]
def maxNat : List Nat → Nat
  | [] => 0
  | x :: l => l.foldl max x
theorem maxI_nat : ∀ (l : List Nat) (x : Nat), maxI (x : Int) (l.map fun (d : Nat) => (d : Int)) = ((l.foldl max x : Nat) : Int)
  | [], _ => rfl
  | y :: l, x => by
    show maxI (if (x : Int) < y then (y : Int) else x) (l.map _) = _
    rw [show (if (x : Int) < y then (y : Int) else x) = ((max x y : Nat) : Int) by split <;> omega]
    exact maxI_nat l (max x y)
theorem biMaxN {l : List Nat} (h : l ≠ []) : bi .max [.lst (l.map fun (d : Nat) => D.int (d : Int))] = some (.int (maxNat l : Nat)) := by
  cases l with
  | nil => exact absurd rfl h
  | cons x l =>
    rw [biMax (v := fun (d : Nat) => (d : Int))]
    rw [maxI_nat]
    rfl
def meetN (L : List (List Nat)) (m n : Nat) : Nat := maxNat ((lotN L m).filter fun d => decide (d ∈ lotN L n))
def Ok_meet_by (C : List Fn) (i : Nat) : Prop := fcOf C i = [false, false, false] ∧ ∀ k, 4 ≤ k → ∀ (L : List (List Nat)) (m n : Nat), LawG L → 1 ≤ m → m ≤ 120 → 1 ≤ n → n ≤ 120 → callF C k i [.sh (lawD L), .sh (.int m), .sh (.int n)] = .ret (.sh (.int (meetN L m n : Nat))) [.sh (lawD L), .sh (.int m), .sh (.int n)]
theorem lotN_len {L : List (List Nat)} {n : Nat} : (lotN L n).length ≤ n := by
  have : (lotN L n).length ≤ (List.range' 1 n).length := (List.filter_sublist.trans List.filter_sublist).length_le
  rwa [List.length_range'] at this
theorem ok_meet_by (h : C[i]? = some (F_meet_by a)) (h1 : Ok_lot_by C a) : Ok_meet_by C i := by
  (refine ⟨by unfold fcOf; rw [h]; rfl, ?_⟩; intro k hk; obtain ⟨k, rfl⟩ : ∃ j, k = j + 1 := ⟨k - 1, by omega⟩)
  intro L m n g m1 m2 n1 n2
  rw [callF_eq h rfl]
  have e : evE (fcOf C) (callF C k) (C_meet_by1 a) [.sh (lawD L), .sh (.int m), .sh (.int n), .sh (lotD L n), .un] = .ok (.ow (.lst (((lotN L m).filter fun d => decide (d ∈ lotN L n)).map fun (d : Nat) => .int (d : Int)))) [.sh (lawD L), .sh (.int m), .sh (.int n), .sh (lotD L n), .un] :=
    lc_m (fun (d : Nat) => D.int (d : Int)) (fun d => decide (d ∈ lotN L n)) (fun (d : Nat) => D.int (d : Int)) (fun (d : Nat) => .sh (D.int (d : Int))) (fun (x : Nat) => [.sh (lawD L), .sh (.int m), .sh (.int n), .sh (lotD L n), .sh (.int (x : Int))]) (l := lotN L m) rfl rfl rfl
    (by simp? [h1.1, h1.2, lotD, natsD, itT]) (fun x hx => rfl) (fun x => rfl) (fun x hx => by simp? [Q_meet_by1, lotD, natsD, cInT, dmem_nat]) (fun x hx _ => by simp? [E_meet_by1]) (fun x => .inl rfl) (by have := lotN_len (L := L) (n := m); omega)
  have ne : ((lotN L m).filter fun d => decide (d ∈ lotN L n)) ≠ [] := fun z => by
    have : 1 ∈ (lotN L m).filter fun d => decide (d ∈ lotN L n) := List.mem_filter.mpr ⟨(one_lot g m1 m2).1, decide_eq_true (one_lot g n1 n2).1⟩
    rw [z] at this
    cases this
  unfold meetN
  simp? [F_meet_by, h1.1, h1.2, e, biMaxN ne]
def Ok_meet (C : List Fn) (i : Nat) : Prop := fcOf C i = [false, false, false] ∧ ∀ k, 6 ≤ k → ∀ (L : List (List Nat)) (m n : Nat), LawG L → 1 ≤ m → m ≤ 120 → 1 ≤ n → n ≤ 120 → callF C k i [.sh (lawD L), .sh (.int m), .sh (.int n)] = .ret (.sh (.int (meetN L m n : Nat))) [.sh (lawD L), .sh (.int m), .sh (.int n)]
theorem ok_meet (h : C[i]? = some (F_meet a b c)) (h1 : Ok_need_law C a) (h2 : Ok_need_number C b) (h3 : Ok_meet_by C c) : Ok_meet C i := by
  (refine ⟨by unfold fcOf; rw [h]; rfl, ?_⟩; intro k hk; obtain ⟨k, rfl⟩ : ∃ j, k = j + 1 := ⟨k - 1, by omega⟩)
  intro L m n g m1 m2 n1 n2
  rw [callF_eq h rfl]
  simp? [F_meet, h1.1, h1.2, h2.1, h2.2, h3.1, h3.2]
def divs (L : List (List Nat)) (far n : Nat) : List Nat := (lotN L n).filter fun d => far % d == 0
def greatN (L : List (List Nat)) (far n : Nat) : Nat := (divs L far n).getLastD 1
def Ok_greatest_by (C : List Fn) (i : Nat) : Prop := fcOf C i = [false, false, false] ∧ ∀ k, 4 ≤ k → ∀ (L : List (List Nat)) (m n : Nat), LawG L → 1 ≤ n → n ≤ 120 → callF C k i [.sh (lawD L), .sh (.int m), .sh (.int n)] = .ret (.sh (.int (greatN L m n : Nat))) [.sh (lawD L), .sh (.int m), .sh (.int n)]
theorem divs_ne {L : List (List Nat)} (g : LawG L) {far n : Nat} (n1 : 1 ≤ n) (n2 : n ≤ 120) : 1 ∈ divs L far n := List.mem_filter.mpr ⟨(one_lot g n1 n2).1, by simp [Nat.mod_one]⟩
theorem mod_test {fc : Nat → List Bool} {call : Nat → Env → FR} {ρ : Env} {x y : CE} {m d : Nat} (h1 : evE fc call x ρ = .ok (.sh (.int (m : Int))) ρ) (h2 : evE fc call y ρ = .ok (.sh (.int (d : Int))) ρ) (hd : 1 ≤ d) : evE fc call (.cmp .eq (.bop .mod x y) (.cst (.int 0))) ρ = .ok (.sh (.bl (m % d == 0))) ρ := by
  by_cases z : m % d = 0
  · rw [z]
    simp? [h1, h2, z]
    rfl
  · simp? [h1, h2, z]
    rw [show (m % d == 0) = false by simpa using z]
theorem far_list {fc : Nat → List Bool} {call : Nat → Env → FR} {L : List (List Nat)} {m n a : Nat} (g : LawG L) (n1 : 1 ≤ n) (n2 : n ≤ 120) (h1 : fc a = [false, false]) (h2 : call a [.sh (lawD L), .sh (.int n)] = .ret (.sh (lotD L n)) [.sh (lawD L), .sh (.int n)]) : evE fc call (C_greatest_by1 a) [.sh (lawD L), .sh (.int m), .sh (.int n), .un] = .ok (.ow (.lst ((divs L m n).map fun (d : Nat) => .int (d : Int)))) [.sh (lawD L), .sh (.int m), .sh (.int n), .un] :=
  lc_m (fun (d : Nat) => D.int (d : Int)) (fun d => m % d == 0) (fun (d : Nat) => D.int (d : Int)) (fun (d : Nat) => .sh (D.int (d : Int))) (fun (x : Nat) => [.sh (lawD L), .sh (.int m), .sh (.int n), .sh (.int (x : Int))]) (l := lotN L n) rfl rfl rfl
    (by simp? [h1, h2, lotD, natsD, itT]) (fun x hx => rfl) (fun x => rfl) (fun x hx => by
      have x1 := lotN_pos hx
      unfold Q_greatest_by1
      rw [vC1, mod_test (m := m) (d := x) (by simp? []) (by simp? []) x1]
      simp? []) (fun x hx _ => by simp? [E_greatest_by1]) (fun x => .inl rfl) (by have := lotN_len (L := L) (n := n); omega)
theorem ok_greatest_by (h : C[i]? = some (F_greatest_by a)) (h1 : Ok_lot_by C a) : Ok_greatest_by C i := by
  (refine ⟨by unfold fcOf; rw [h]; rfl, ?_⟩; intro k hk; obtain ⟨k, rfl⟩ : ∃ j, k = j + 1 := ⟨k - 1, by omega⟩)
  intro L m n g n1 n2
  rw [callF_eq h rfl]
  have e := far_list (fc := fcOf C) (call := callF C k) (m := m) g n1 n2 h1.1 (h1.2 k (by omega) L n g n1 n2)
  have ne : (divs L m n).map (fun (d : Nat) => D.int (d : Int)) ≠ [] := fun z => by
    have := divs_ne g (far := m) n1 n2
    rw [List.map_eq_nil_iff.mp z] at this
    cases this
  have e2 := idxLast (h := ne)
  have e3 : (-((1 : Nat) : Int)) = -1 := nr rfl
  have e4 : ((divs L m n).map (fun (d : Nat) => D.int (d : Int))).getLast ne = .int (greatN L m n : Nat) := by
    rw [List.getLast_map]
    unfold greatN
    rw [List.getLastD_eq_getLast?, List.getLast?_eq_some_getLast (by intro z; rw [z] at ne; exact ne rfl)]
    rfl
  have e5 : evE (fcOf C) (callF C k) (.neg (.cst (.int 1))) [.sh (lawD L), .sh (.int m), .sh (.int n), .un] = .ok (.sh (.int (-1))) [.sh (lawD L), .sh (.int m), .sh (.int n), .un] := nr rfl
  have e6 : exS (fcOf C) (callF C k) (.ret (.idx (C_greatest_by1 a) (.neg (.cst (.int 1))))) [.sh (lawD L), .sh (.int m), .sh (.int n), .un] = .ok (.ret (.sh (.int (greatN L m n : Nat)))) [.sh (lawD L), .sh (.int m), .sh (.int n), .un] := by
    rw [vRet, vIdx, e, bOk, e5, bOk, bin2_v, vlOw, vlSh]
    show (ofO ((idx _ _).map Vl.sh) _).bind _ = _
    rw [e2, e4]
    rfl
  have e7 : exL (fcOf C) (callF C k) (F_greatest_by a).body ([.sh (lawD L), .sh (.int m), .sh (.int n)] ++ List.replicate ((F_greatest_by a).n - (F_greatest_by a).ps) .un) = .ok (.ret (.sh (.int (greatN L m n : Nat)))) [.sh (lawD L), .sh (.int m), .sh (.int n), .un] := exL_rt e6
  rw [e7]
  rfl
end
end Lv
namespace Lv
open PySem
section
variable {C : List Fn} {i a b c d e : Nat}
def i1 : Int := 1
def muF (L : List (List Nat)) (l : List (Nat × Nat)) : Int := l.foldl (fun s q => if typeN L q.1 q.2 = q.2 then -s else 0) i1
def muA (L : List (List Nat)) (n : Nat) : Int := muF L (facN n)
theorem muF_app {L : List (List Nat)} {l : List (Nat × Nat)} {q : Nat × Nat} : muF L (l ++ [q]) = if typeN L q.1 q.2 = q.2 then -(muF L l) else 0 := by
  unfold muF
  rw [List.foldl_append]
  rfl
theorem LawG.len {L : List (List Nat)} (g : LawG L) : L.length = 4 := by obtain ⟨_, _, _, _, _, _, _, _, rfl⟩ := g; rfl
def Ok_mark_at (C : List Fn) (i : Nat) : Prop := fcOf C i = [false, false] ∧ ∀ k, 2 ≤ k → ∀ (L : List (List Nat)) (n : Nat), LawG L → 1 ≤ n → n ≤ 120 → callF C k i [.sh (lawD L), .sh (.int n)] = .ret (.sh (.int (muA L n))) [.sh (lawD L), .sh (.int n)]
theorem ok_mark_at (h : C[i]? = some (F_mark_at a b)) (h1 : Ok_factors_of C a) (h2 : Ok_type_by C b) : Ok_mark_at C i := by
  (refine ⟨by unfold fcOf; rw [h]; rfl, ?_⟩; intro k hk; obtain ⟨k, rfl⟩ : ∃ j, k = j + 1 := ⟨k - 1, by omega⟩)
  intro L n g n1 n2
  rw [callF_eq h rfl]
  obtain ⟨s, e1⟩ := fr_pre (S := Sl × Sl) (fc := fcOf C) (call := callF C k) (t := .tup [.nm 3, .nm 4]) (b := B_mark_at1 b) pairD
    (fun pre s => [.sh (lawD L), .sh (.int n), .sh (.int (muF L pre)), s.1, s.2]) (l := facN n) (fun pre q post hl s => by
      have hq : q ∈ facN n := by rw [hl]; exact List.mem_append_right _ List.mem_cons_self
      obtain ⟨t1, t2, t3, t4⟩ := typeN_fac g n1 n2 hq
      have c1 := h2.2 k (by omega) L q.1 q.2 g.len t4
      refine ⟨(.sh (.int q.1), .sh (.int q.2)), ?_⟩
      rw [muF_app]
      by_cases z : typeN L q.1 q.2 = q.2
      · rw [if_pos z]
        rw [z] at c1
        simp? [frT, pairD, B_mark_at1, h2.1, c1]
      · rw [if_neg z]
        simp? [frT, pairD, B_mark_at1, h2.1, c1]) (.un, .un)
  have c0 := h1.2 k (by omega) n n1 (by omega)
  have e0 : exS (fcOf C) (callF C k) (S_mark_at1 a b) [.sh (lawD L), .sh (.int n), .sh (.int ((1 : Nat) : Int)), .un, .un] = .ok .nx [.sh (lawD L), .sh (.int n), .sh (.int (muF L (facN n))), s.1, s.2] := by
    refine fr_st ?_ e1
    simp? [h1.1, c0, itL]
    rfl
  unfold muA
  simp? [F_mark_at, e0]
def ramA (L : List (List Nat)) (far n : Nat) : Int := ((divs L far n).map fun (d : Nat) => (d : Int) * muA L (n / d)).sum
def Ok_ramanujan_by (C : List Fn) (i : Nat) : Prop := fcOf C i = [false, false, false] ∧ ∀ k, 4 ≤ k → ∀ (L : List (List Nat)) (m n : Nat), LawG L → 1 ≤ n → n ≤ 120 → callF C k i [.sh (lawD L), .sh (.int m), .sh (.int n)] = .ret (.sh (.int (ramA L m n))) [.sh (lawD L), .sh (.int m), .sh (.int n)]
theorem ok_ramanujan_by (h : C[i]? = some (F_ramanujan_by a b)) (h1 : Ok_lot_by C a) (h2 : Ok_mark_at C b) : Ok_ramanujan_by C i := by
  (refine ⟨by unfold fcOf; rw [h]; rfl, ?_⟩; intro k hk; obtain ⟨k, rfl⟩ : ∃ j, k = j + 1 := ⟨k - 1, by omega⟩)
  intro L m n g n1 n2
  rw [callF_eq h rfl]
  have e : evE (fcOf C) (callF C k) (C_ramanujan_by1 a b) [.sh (lawD L), .sh (.int m), .sh (.int n), .un] = .ok (.ow (.lst ((divs L m n).map fun (d : Nat) => .int ((d : Int) * muA L (n / d))))) [.sh (lawD L), .sh (.int m), .sh (.int n), .un] :=
    lc_m (fun (d : Nat) => D.int (d : Int)) (fun d => m % d == 0) (fun (d : Nat) => D.int ((d : Int) * muA L (n / d))) (fun (d : Nat) => .sh (D.int ((d : Int) * muA L (n / d)))) (fun (x : Nat) => [.sh (lawD L), .sh (.int m), .sh (.int n), .sh (.int (x : Int))]) (l := lotN L n) rfl rfl rfl
      (by simp? [h1.1, h1.2, lotD, natsD, itT]) (fun x hx => rfl) (fun x => rfl) (fun x hx => by
        have x1 := lotN_pos hx
        unfold Q_ramanujan_by1
        rw [vC1, mod_test (m := m) (d := x) (by simp? []) (by simp? []) x1]
        simp? []) (fun x hx _ => by
        have x1 := lotN_pos hx
        have x2 := lotN_le hx
        have x3 := lotN_div_pos hx
        have x4 := lotN_div_le hx
        simp? [E_ramanujan_by1, h2.1, h2.2]) (fun x => .inl rfl) (by have := lotN_len (L := L) (n := n); omega)
  unfold ramA
  simp? [F_ramanujan_by, e, biSum]
def Ok_greatest (C : List Fn) (i : Nat) : Prop := fcOf C i = [false, false, false] ∧ ∀ k, 6 ≤ k → ∀ (L : List (List Nat)) (m n : Nat), LawG L → 1 ≤ m → m ≤ 1000000000000000000 → 1 ≤ n → n ≤ 120 → callF C k i [.sh (lawD L), .sh (.int m), .sh (.int n)] = .ret (.sh (.int (greatN L m n : Nat))) [.sh (lawD L), .sh (.int m), .sh (.int n)]
theorem ok_greatest (h : C[i]? = some (F_greatest a b c d)) (h1 : Ok_need_law C a) (h2 : Ok_need_far C b) (h3 : Ok_need_number C c) (h4 : Ok_greatest_by C d) : Ok_greatest C i := by
  (refine ⟨by unfold fcOf; rw [h]; rfl, ?_⟩; intro k hk; obtain ⟨k, rfl⟩ : ∃ j, k = j + 1 := ⟨k - 1, by omega⟩)
  intro L m n g m1 m2 n1 n2
  rw [callF_eq h rfl]
  simp? [F_greatest, h1.1, h1.2, h2.1, h2.2, h3.1, h3.2, h4.1, h4.2]
def Ok_ramanujan (C : List Fn) (i : Nat) : Prop := fcOf C i = [false, false, false] ∧ ∀ k, 6 ≤ k → ∀ (L : List (List Nat)) (m n : Nat), LawG L → 1 ≤ m → m ≤ 1000000000000000000 → 1 ≤ n → n ≤ 120 → callF C k i [.sh (lawD L), .sh (.int m), .sh (.int n)] = .ret (.sh (.int (ramA L m n))) [.sh (lawD L), .sh (.int m), .sh (.int n)]
theorem ok_ramanujan (h : C[i]? = some (F_ramanujan a b c d)) (h1 : Ok_need_law C a) (h2 : Ok_need_far C b) (h3 : Ok_need_number C c) (h4 : Ok_ramanujan_by C d) : Ok_ramanujan C i := by
  (refine ⟨by unfold fcOf; rw [h]; rfl, ?_⟩; intro k hk; obtain ⟨k, rfl⟩ : ∃ j, k = j + 1 := ⟨k - 1, by omega⟩)
  intro L m n g m1 m2 n1 n2
  rw [callF_eq h rfl]
  simp? [F_ramanujan, h1.1, h1.2, h2.1, h2.2, h3.1, h3.2, h4.1, h4.2]
theorem biAbsN {i : Int} : bi .abs [.int i] = some (.int (i.natAbs : Int)) := by
  show some (D.int (if i < 0 then -i else i)) = _
  congr 2
  split <;> omega
theorem frTy {q : Rat} : isTy (fr q) .tuple = true := nr rfl
theorem frPl {q : Rat} : plainD (fr q) = true := nr rfl
theorem frLen {q : Rat} : bi .len [fr q] = some (.int ((2 : Nat) : Int)) := nr rfl
def Sm (q : Rat) : Prop := q.num.natAbs < 100000000000000000000000000000000000000000000000000000000000000000000000000000000000000000000000000000000000000000000000000000000000000000000000000000000000000000000000000000000000000000000000000000000 ∧ q.den < 100000000000000000000000000000000000000000000000000000000000000000000000000000000000000000000000000000000000000000000000000000000000000000000000000000000000000000000000000000000000000000000000000000000
def Ok_is_fraction (C : List Fn) (i : Nat) : Prop := fcOf C i = [false] ∧ ∀ k, 2 ≤ k → ∀ q : Rat, Sm q → callF C k i [.sh (fr q)] = .ret (.sh (.bl true)) [.sh (fr q)]
theorem ok_is_fraction (h : C[i]? = some (F_is_fraction a)) (h1 : Ok_is_whole C a) : Ok_is_fraction C i := by
  (refine ⟨by unfold fcOf; rw [h]; rfl, ?_⟩; intro k hk; obtain ⟨k, rfl⟩ : ∃ j, k = j + 1 := ⟨k - 1, by omega⟩)
  intro q ⟨s1, s2⟩
  rw [callF_eq h rfl]
  have hw : ∀ j : Int, callF C k a [.sh (.int j)] = .ret (.sh (.bl true)) [.sh (.int j)] := fun j => h1.2 k (by omega) (.int j) rfl
  have e : evE (fcOf C) (callF C k) (C_is_fraction1 a) [.sh (fr q), .un] = .ok (.ow (.lst [.bl true, .bl true])) [.sh (fr q), .un] :=
    lc_m0 D.int (fun _ => .bl true) (fun _ => .sh (.bl true)) (fun x => [.sh (fr q), .sh (.int x)]) (l := [q.num, (q.den : Int)]) rfl rfl rfl (by simp? [fr, itT]) (fun x hx => rfl) (fun x => rfl) (fun x hx => by simp? [E_is_fraction1, h1.1, hw]) (fun x => .inl rfl) (by simp)
  have hd := q.den_pos
  have hr : Nat.gcd q.num.natAbs ((q.den : Int)).natAbs = 1 := q.reduced
  have hb : bi .all [.lst [.bl true, .bl true]] = some (.bl true) := nr rfl
  simp? [F_is_fraction, e, hb, frTy, frPl, frLen, fr0, fr1, biAbsN, biGcd, hr]
end
end Lv
namespace Lv
def Bd (D M : Nat) (q : Rat) : Prop := 0 < D ∧ ∃ a : Int, a.natAbs ≤ M * D ∧ q = mkRat a D
section
variable {D D' M M' : Nat} {p q : Rat}
theorem Bd.bz (h : Bd D M q) (h1 : D < lim) (h2 : M * D < lim) : Bz q := by
  obtain ⟨h0, a, ha, rfl⟩ := h
  constructor
  · rw [Rat.num_mkRat, if_neg (by omega)]
    refine Nat.lt_of_le_of_lt ?_ h2
    refine Nat.le_trans ?_ ha
    exact Int.natAbs_ediv_le_natAbs _ _
  · rw [Rat.den_mkRat, if_neg (by omega)]
    exact Nat.lt_of_le_of_lt (Nat.div_le_self _ _) h1
theorem Bd.sm (h : Bd D M q) (h1 : D ≤ 1000000000000000000000) (h2 : M * D ≤ 1000000000000000000000) : Sm q := by
  obtain ⟨h0, a, ha, rfl⟩ := h
  constructor
  · rw [Rat.num_mkRat, if_neg (by omega)]
    refine Nat.lt_of_le_of_lt (m := 1000000000000000000000) (Nat.le_trans (Nat.le_trans (Int.natAbs_ediv_le_natAbs _ _) ha) h2) (by decide)
  · rw [Rat.den_mkRat, if_neg (by omega)]
    exact Nat.lt_of_le_of_lt (m := 1000000000000000000000) (Nat.le_trans (Nat.div_le_self _ _) h1) (by decide)
theorem Bd.add (h : Bd D M p) (h' : Bd D M' q) : Bd D (M + M') (p + q) := by
  obtain ⟨h0, a, ha, rfl⟩ := h
  obtain ⟨_, b, hb, rfl⟩ := h'
  refine ⟨h0, a + b, ?_, ?_⟩
  · rw [Nat.add_mul]
    have := Int.natAbs_add_le a b
    omega
  · rw [Rat.mkRat_add_mkRat _ _ (by omega) (by omega), ← Int.add_mul, Rat.mkRat_mul_right (by omega)]
theorem Bd.neg (h : Bd D M p) : Bd D M (-p) := by
  obtain ⟨h0, a, ha, rfl⟩ := h
  refine ⟨h0, -a, by rw [Int.natAbs_neg]; exact ha, ?_⟩
  rw [Rat.neg_mkRat]
theorem Bd.sub (h : Bd D M p) (h' : Bd D M' q) : Bd D (M + M') (p - q) := by
  have := h.add h'.neg
  rwa [show p + -q = p - q by grind] at this
theorem Bd.mul (h : Bd D M p) (h' : Bd D' M' q) : Bd (D * D') (M * M') (p * q) := by
  obtain ⟨h0, a, ha, rfl⟩ := h
  obtain ⟨h1, b, hb, rfl⟩ := h'
  refine ⟨Nat.mul_pos h0 h1, a * b, ?_, ?_⟩
  · rw [Int.natAbs_mul]
    have := Nat.mul_le_mul ha hb
    calc a.natAbs * b.natAbs ≤ M * D * (M' * D') := this
      _ = M * M' * (D * D') := by grind
  · rw [Rat.mkRat_mul_mkRat]
theorem Bd.up (h : Bd D M q) (hm : M ≤ M') : Bd D M' q := by
  obtain ⟨h0, a, ha, rfl⟩ := h
  exact ⟨h0, a, Nat.le_trans ha (Nat.mul_le_mul_right _ hm), rfl⟩
theorem Bd.den (h : Bd D M q) {c : Nat} (hc : 0 < c) : Bd (D * c) M q := by
  obtain ⟨h0, a, ha, rfl⟩ := h
  refine ⟨Nat.mul_pos h0 hc, a * c, ?_, ?_⟩
  · rw [Int.natAbs_mul, Int.natAbs_natCast, ← Nat.mul_assoc]
    exact Nat.mul_le_mul_right c ha
  · rw [Rat.mkRat_mul_right (by omega)]
theorem Bd.dvd (h : Bd D M q) (h0 : 0 < D') (hd : D ∣ D') (hm : M ≤ M') : Bd D' M' q := by
  obtain ⟨c, rfl⟩ := hd
  exact (h.den (Nat.pos_of_ne_zero fun z => by subst z; simp at h0)).up hm
theorem Bd.zero (h0 : 0 < D) : Bd D M 0 := ⟨h0, 0, by simp, by rw [Rat.zero_mkRat]⟩
theorem Bd.int {z : Int} (h : z.natAbs ≤ M) : Bd 1 M (z : Rat) := ⟨by decide, z, by omega, by rw [Rat.mkRat_one]⟩
theorem Bd.nat {z : Nat} (h : z ≤ M) : Bd 1 M (z : Rat) := ⟨by decide, z, by omega, by rw [Rat.mkRat_one]; rfl⟩
theorem Bd.one : Bd 1 1 1 := Bd.nat (z := 1) (by decide)
theorem Bd.self : Bd q.den q.num.natAbs q := ⟨q.den_pos, q.num, by have := q.den_pos; exact Nat.le_mul_of_pos_right _ this, (Rat.mkRat_self q).symm⟩
theorem Bd.S {α : Type} {f : α → Rat} : ∀ {l : List α}, 0 < D → (∀ x ∈ l, Bd D M (f x)) → Bd D (l.length * M) (Lv.S l f)
  | [], h0, _ => by rw [List.length_nil, Nat.zero_mul]; exact Bd.zero h0
  | x :: l, h0, h => by
    have := (h x List.mem_cons_self).add (Bd.S h0 fun y hy => h y (List.mem_cons_of_mem _ hy))
    rw [List.length_cons, Nat.add_mul, Nat.one_mul, Nat.add_comm]
    exact this
end
def BT (N D M : Nat) (f : Tb) : Prop := ∀ n, 1 ≤ n → n ≤ N → Bd D M (f n)
theorem BT.cv {L : List (List Nat)} {N D M D' M' : Nat} {f g : Tb} (hf : BT N D M f) (hg : BT N D' M' g) (hD : 0 < D) (hD' : 0 < D') : BT N (D * D') (N * (M * M')) (cv L f g) := fun n a b => by
  have := Bd.S (l := lotN L n) (f := fun d => f d * g (n / d)) (D := D * D') (M := M * M') (Nat.mul_pos hD hD') fun d hd => (hf d (lotN_pos hd) (by have := lotN_le hd; omega)).mul (hg (n / d) (lotN_div_pos hd) (by have := lotN_div_le hd; omega))
  exact this.up (Nat.mul_le_mul_right _ (Nat.le_trans lotN_len b))
theorem BT.ones {N : Nat} : BT N 1 1 ones := fun _ _ _ => Bd.one
end Lv
namespace Lv
open PySem
theorem fr_0 : D.tup [.int ((0 : Nat) : Int), .int ((1 : Nat) : Int)] = fr 0 := Eq.trans (b := fr 0) rfl rfl
theorem fr_1 : D.tup [.int ((1 : Nat) : Int), .int ((1 : Nat) : Int)] = fr 1 := Eq.trans (b := fr 1) rfl rfl
theorem tl_succ {f : Tb} {n : Nat} : tl f (n + 1) = tl f n ++ [f (n + 1)] := by
  unfold tl
  rw [List.range_succ, List.map_append]
  rfl
theorem tl_zero {f : Tb} : tl f 0 = [] := nr rfl
structure Row (d : D) (f : Tb) (N : Nat) : Prop where
  ix : ∀ j : Nat, j < N → idx d (.int (j : Int)) = some (fr (f (j + 1)))
  len : bi .len [d] = some (.int (N : Int))
theorem row_tup {f : Tb} {N : Nat} : Row (tabD f N) f N := ⟨fun j h => tabIx h, tabLen⟩
theorem row_lst {f : Tb} {N : Nat} : Row (tabL f N) f N := ⟨fun j h => tabLx h, tabLLen⟩
structure Fits2 (D1 M1 D2 M2 : Nat) : Prop where
  a : (M1 + 1) * D1 < lim
  b : (M2 + 1) * D2 < lim
  c : (121 * (M1 * M2) + 1) * (D1 * D2) < lim
theorem Bd.bz1 {D M : Nat} {q : Rat} (h : Bd D M q) (h1 : (M + 1) * D < lim) : Bz q := by
  rw [Nat.add_mul, Nat.one_mul] at h1
  exact h.bz (by omega) (by omega)
theorem mapIdx_rng {N : Nat} {h : Nat → D} : (((List.range N).map h).mapIdx fun i d => D.tup [.int i, d]) = (List.range N).map fun (i : Nat) => D.tup [.int (i : Int), h i] := by
  apply List.ext_getElem?
  intro i
  simp only [List.getElem?_mapIdx, List.getElem?_map]
  by_cases hi : i < N
  · rw [List.getElem?_range hi]; rfl
  · rw [List.getElem?_eq_none (by rw [List.length_range]; omega)]; rfl
section
variable {C : List Fn} {i a b c d e : Nat}
def cvp (f g : Tb) (n : Nat) (l : List Nat) : Rat := S l fun d => f d * g (n / d)
theorem cvp_app {f g : Tb} {n : Nat} {l : List Nat} {x : Nat} : cvp f g n (l ++ [x]) = cvp f g n l + f x * g (n / x) := by
  unfold cvp
  rw [S_app]
  show _ + (f x * g (n / x) + 0) = _
  grind
def Ok_product_by (C : List Fn) (i : Nat) : Prop := fcOf C i = [false, false, false] ∧ ∀ k, 3 ≤ k → ∀ (L : List (List Nat)) (N : Nat) (d1 d2 : D) (f g : Tb) (D1 M1 D2 M2 : Nat), N ≤ 120 → Row d1 f N → Row d2 g N → 0 < D1 → 0 < D2 → BT N D1 M1 f → BT N D2 M2 g → Fits2 D1 M1 D2 M2 →
  callF C k i [.sh (lotsD L N), .sh d1, .sh d2] = .ret (.ow (tabL (cv L f g) N)) [.sh (lotsD L N), .sh d1, .sh d2]
theorem ok_product_by (h : C[i]? = some (F_product_by a b)) (h1 : Ok_plus C a) (h2 : Ok_by_both C b) : Ok_product_by C i := by
  (refine ⟨by unfold fcOf; rw [h]; rfl, ?_⟩; intro k hk; obtain ⟨k, rfl⟩ : ∃ j, k = j + 1 := ⟨k - 1, by omega⟩)
  intro L N d1 d2 f g D1 M1 D2 M2 hN r1 r2 p1 p2 b1 b2 ft
  rw [callF_eq h rfl]
  obtain ⟨s, e1⟩ := fr_ix (S := Sl × Sl × Sl × Sl) (fc := fcOf C) (call := callF C k) (t := .tup [.nm 4, .nm 5]) (b := B_product_by2 a b) (fun (j : Nat) => D.tup [.int (j : Int), lotD L (j + 1)]) N
    (fun j s => [.sh (lotsD L N), .sh d1, .sh d2, .ow (tabL (cv L f g) j), s.1, s.2.1, s.2.2.1, s.2.2.2]) (fun j hj s => by
      obtain ⟨z, e2⟩ := fr_pre (S := Sl) (fc := fcOf C) (call := callF C k) (t := .nm 7) (b := B_product_by1 a b) (fun (d : Nat) => D.int (d : Int))
        (fun pre z => [.sh (lotsD L N), .sh d1, .sh d2, .ow (tabL (cv L f g) j), .sh (.int (j : Int)), .sh (lotD L (j + 1)), .sh (fr (cvp f g (j + 1) pre)), z]) (l := lotN L (j + 1)) (fun pre x post hl z => by
          have hx : x ∈ lotN L (j + 1) := by rw [hl]; exact List.mem_append_right _ List.mem_cons_self
          have x1 := lotN_pos hx
          have x2 := lotN_le hx
          have x3 := lotN_div_pos hx
          have x4 := lotN_div_le hx
          have bf := b1 x x1 (by omega)
          have bg := b2 ((j + 1) / x) x3 (by omega)
          have bp : Bd (D1 * D2) (pre.length * (M1 * M2)) (cvp f g (j + 1) pre) := Bd.S (Nat.mul_pos p1 p2) fun y hy => by
            have hy' : y ∈ lotN L (j + 1) := by rw [hl]; exact List.mem_append_left _ hy
            exact (b1 y (lotN_pos hy') (by have := lotN_le hy'; omega)).mul (b2 _ (lotN_div_pos hy') (by have := lotN_div_le hy'; omega))
          have hlen : pre.length ≤ 120 := by
            have : (lotN L (j + 1)).length ≤ j + 1 := lotN_len
            rw [hl, List.length_append] at this
            omega
          have k1 : Bz (f x) := bf.bz1 ft.a
          have k2 : Bz (g ((j + 1) / x)) := bg.bz1 ft.b
          have k3 : Bz (f x * g ((j + 1) / x)) := ((bf.mul bg).up (show _ ≤ 121 * (M1 * M2) by omega)).bz1 ft.c
          have k4 : Bz (cvp f g (j + 1) pre) := (bp.up (Nat.mul_le_mul_right _ (show _ ≤ 121 by omega))).bz1 ft.c
          have i1 := r1.ix (x - 1) (by omega)
          have i2 := r2.ix ((j + 1) / x - 1) (by omega)
          rw [Nat.sub_add_cancel x1] at i1
          rw [Nat.sub_add_cancel x3] at i2
          refine ⟨.sh (.int (x : Int)), ?_⟩
          rw [cvp_app]
          simp? [frT, B_product_by1, h1.1, h1.2, h2.1, h2.2, i1, i2]) s.2.2.2
      have e3 : exS (fcOf C) (callF C k) (S_product_by1 a b) [.sh (lotsD L N), .sh d1, .sh d2, .ow (tabL (cv L f g) j), .sh (.int (j : Int)), .sh (lotD L (j + 1)), .sh (fr 0), s.2.2.2] = .ok .nx [.sh (lotsD L N), .sh d1, .sh d2, .ow (tabL (cv L f g) j), .sh (.int (j : Int)), .sh (lotD L (j + 1)), .sh (fr (cv L f g (j + 1))), z] := by
        refine fr_st ?_ e2
        simp? [lotD, natsD, itT]
        rfl
      refine ⟨(.sh (.int (j : Int)), .sh (lotD L (j + 1)), .sh (fr (cv L f g (j + 1))), z), ?_⟩
      have hl : (tl (cv L f g) j).length < 16777216 := by rw [tl_len]; omega
      unfold tabL at e3 ⊢
      rw [tl_succ, List.map_append]
      simp? [frT, B_product_by2, fr_0, e3]) (.un, .un, .un, .un)
  have e0 : exS (fcOf C) (callF C k) (S_product_by2 a b) [.sh (lotsD L N), .sh d1, .sh d2, .ow (.lst []), .un, .un, .un, .un] = .ok .nx [.sh (lotsD L N), .sh d1, .sh d2, .ow (tabL (cv L f g) N), s.1, s.2.1, s.2.2.1, s.2.2.2] := by
    refine fr_st ?_ e1
    simp? [lotsD, mapIdx_rng]
    rfl
  simp? [F_product_by, e0]
end
end Lv
namespace Lv
open PySem
section
variable {C : List Fn} {i a b c d e : Nat}
def ivp (v f : Tb) (n : Nat) (l : List Nat) : Rat := 0 - S (l.filter (· < n)) fun d => v d * f (n / d)
theorem ivp_app {v f : Tb} {n : Nat} {l : List Nat} {x : Nat} : ivp v f n (l ++ [x]) = if x < n then ivp v f n l - v x * f (n / x) else ivp v f n l := by
  unfold ivp
  rw [List.filter_append, S_app]
  by_cases h : x < n
  · rw [if_pos h, List.filter_cons_of_pos (by simpa using h)]
    show 0 - (_ + (v x * f (n / x) + 0)) = _
    grind
  · rw [if_neg h, List.filter_cons_of_neg (by simpa using h)]
    show 0 - (_ + 0) = _
    grind
theorem ivp_bd {v f : Tb} {n N D1 M1 D3 M3 : Nat} {l : List Nat} (h : ∀ d ∈ l, 1 ≤ d ∧ d ≤ n ∧ 1 ≤ n / d) (hn : n ≤ N) (p1 : 0 < D1) (p3 : 0 < D3) (b1 : BT N D1 M1 f) (b3 : BT N D3 M3 v) (hl : l.length ≤ 120) : Bd (D3 * D1) (121 * (M3 * M1)) (ivp v f n l) := by
  have h1 : Bd (D3 * D1) ((l.filter (· < n)).length * (M3 * M1)) (S (l.filter (· < n)) fun d => v d * f (n / d)) := Bd.S (Nat.mul_pos p3 p1) fun d hd => by
    obtain ⟨x1, x2, x3⟩ := h d (List.mem_filter.mp hd).1
    exact (b3 d x1 (by omega)).mul (b1 _ x3 (by have := Nat.div_le_self n d; omega))
  have h2 := ((Bd.zero (D := D3 * D1) (M := 0) (Nat.mul_pos p3 p1)).sub h1)
  refine h2.up ?_
  have := List.length_filter_le (fun d => decide (d < n)) l
  rw [Nat.zero_add]
  exact Nat.mul_le_mul_right _ (by omega)
def Ok_inverse_by (C : List Fn) (i : Nat) : Prop := fcOf C i = [false, false] ∧ ∀ k, 3 ≤ k → ∀ (L : List (List Nat)) (N : Nat) (d1 : D) (f : Tb) (D1 M1 D3 M3 : Nat), LawG L → 1 ≤ N → N ≤ 120 → Row d1 f N →
  (f 1 = 0 → callF C k i [.sh (lotsD L N), .sh d1] = .ret (.sh .non) [.sh (lotsD L N), .sh d1]) ∧
  (f 1 ≠ 0 → 0 < D1 → 0 < D3 → BT N D1 M1 f → BT N D3 M3 (inv L f) → Fits2 D3 M3 D1 M1 → callF C k i [.sh (lotsD L N), .sh d1] = .ret (.ow (tabL (inv L f) N)) [.sh (lotsD L N), .sh d1])
theorem lotsIx {L : List (List Nat)} {N j : Nat} (h : j < N) : idx (lotsD L N) (.int (j : Int)) = some (lotD L (j + 1)) := by
  unfold lotsD
  rw [idxML (by rw [List.length_range]; exact h), List.getElem_range]
theorem lotsLen {L : List (List Nat)} {N : Nat} : bi .len [lotsD L N] = some (.int (N : Int)) := by
  unfold lotsD
  rw [biLenL, List.length_map, List.length_range]
theorem Bz1 : Bz 1 := ⟨by show 1 < lim; unfold lim; exact Nat.one_lt_two_pow (by decide), by show 1 < lim; unfold lim; exact Nat.one_lt_two_pow (by decide)⟩
theorem ok_inverse_by (h : C[i]? = some (F_inverse_by a b c)) (h1 : Ok_by_part C a) (h2 : Ok_less C b) (h3 : Ok_by_both C c) : Ok_inverse_by C i := by
  (refine ⟨by unfold fcOf; rw [h]; rfl, ?_⟩; intro k hk; obtain ⟨k, rfl⟩ : ∃ j, k = j + 1 := ⟨k - 1, by omega⟩)
  intro L N d1 f D1 M1 D3 M3 g N1 N2 r1
  have i0 := r1.ix 0 (by omega)
  constructor
  · intro h0
    rw [callF_eq h rfl]
    simp? [F_inverse_by, i0, fr_0, cmpEq, deq_fr, h0]
  intro h0 p1 p3 b1 b3 ft
  rw [callF_eq h rfl]
  have k0 : Bz (f 1) := (b1 1 (by omega) (by omega)).bz1 ft.b
  obtain ⟨s, e1⟩ := fr_ix (S := Sl × Sl × Sl) (fc := fcOf C) (call := callF C k) (t := .nm 3) (b := B_inverse_by2 b c a) (fun (j : Nat) => D.int ((1 + j : Nat) : Int)) (N - 1)
    (fun j s => [.sh (lotsD L N), .sh d1, .ow (tabL (inv L f) (j + 1)), s.1, s.2.1, s.2.2]) (fun j hj s => by
      obtain ⟨z, e2⟩ := fr_pre (S := Sl) (fc := fcOf C) (call := callF C k) (t := .nm 5) (b := B_inverse_by1 b c) (fun (d : Nat) => D.int (d : Int))
        (fun pre z => [.sh (lotsD L N), .sh d1, .ow (tabL (inv L f) (j + 1)), .sh (.int ((1 + j : Nat) : Int)), .sh (fr (ivp (inv L f) f (j + 2) pre)), z]) (l := lotN L (j + 2)) (fun pre x post hl z => by
          have hx : x ∈ lotN L (j + 2) := by rw [hl]; exact List.mem_append_right _ List.mem_cons_self
          have x1 := lotN_pos hx
          have x2 := lotN_le hx
          have x3 := lotN_div_pos hx
          have x4 := lotN_div_le hx
          have bf := b1 ((j + 2) / x) x3 (by omega)
          have bg := b3 x x1 (by omega)
          have hlen : pre.length ≤ 120 := by
            have : (lotN L (j + 2)).length ≤ j + 2 := lotN_len
            rw [hl, List.length_append] at this
            omega
          have bp := ivp_bd (v := inv L f) (f := f) (n := j + 2) (l := pre) (fun y hy => by
            have hy' : y ∈ lotN L (j + 2) := by rw [hl]; exact List.mem_append_left _ hy
            exact ⟨lotN_pos hy', lotN_le hy', lotN_div_pos hy'⟩) (by omega) p1 p3 b1 b3 hlen
          have k1 : Bz (f ((j + 2) / x)) := bf.bz1 ft.b
          have k2 : Bz (inv L f x) := bg.bz1 ft.a
          have k3 : Bz (inv L f x * f ((j + 2) / x)) := ((bg.mul bf).up (show _ ≤ 121 * (M3 * M1) by omega)).bz1 ft.c
          have k4 : Bz (ivp (inv L f) f (j + 2) pre) := bp.bz1 ft.c
          refine ⟨.sh (.int (x : Int)), ?_⟩
          rw [ivp_app]
          have i2 := r1.ix ((j + 2) / x - 1) (by omega)
          rw [Nat.sub_add_cancel x3] at i2
          have ej : 1 + j + 1 = j + 2 := by omega
          by_cases q : x < j + 2
          · rw [if_pos q]
            have i3 := tabLx (f := inv L f) (N := j + 1) (d := x - 1) (by omega)
            rw [Nat.sub_add_cancel x1] at i3
            have u := h2.2 k (by omega) _ _ k4 k3 trivial
            simp? [frT, B_inverse_by1, h2.1, u, h3.1, h3.2, i2, i3, ej]
          · rw [if_neg q]
            simp? [frT, B_inverse_by1]) s.2.2
      have e3 : exS (fcOf C) (callF C k) (S_inverse_by1 b c) [.sh (lotsD L N), .sh d1, .ow (tabL (inv L f) (j + 1)), .sh (.int ((1 + j : Nat) : Int)), .sh (fr 0), s.2.2] = .ok .nx [.sh (lotsD L N), .sh d1, .ow (tabL (inv L f) (j + 1)), .sh (.int ((1 + j : Nat) : Int)), .sh (fr (ivp (inv L f) f (j + 2) (lotN L (j + 2)))), z] := by
        have e4 : fr 0 = fr (ivp (inv L f) f (j + 2) []) := by show fr 0 = fr (0 - 0); rw [show (0 : Rat) - 0 = 0 by grind]
        rw [e4]
        refine fr_st ?_ e2
        have i4 := lotsIx (L := L) (N := N) (j := 1 + j) (by omega)
        rw [show 1 + j + 1 = j + 2 by omega] at i4
        simp? [i4, lotD, natsD, itT]
      have bq := ivp_bd (v := inv L f) (f := f) (n := j + 2) (l := lotN L (j + 2)) (fun y hy => ⟨lotN_pos hy, lotN_le hy, lotN_div_pos hy⟩) (show _ ≤ N by omega) p1 p3 b1 b3 (by have : (lotN L (j + 2)).length ≤ j + 2 := lotN_len; omega)
      have k5 : Bz (ivp (inv L f) f (j + 2) (lotN L (j + 2))) := bq.bz1 ft.c
      have st : ivp (inv L f) f (j + 2) (lotN L (j + 2)) / f 1 = inv L f (j + 2) := (inv_step (by omega)).symm
      refine ⟨(.sh (.int ((1 + j : Nat) : Int)), .sh (fr (ivp (inv L f) f (j + 2) (lotN L (j + 2)))), z), ?_⟩
      have hl : (tl (inv L f) (j + 1)).length < 16777216 := by rw [tl_len]; omega
      have u : callF C k a [.sh (fr (ivp (inv L f) f (j + 2) (lotN L (j + 2)))), .sh (fr (f 1))] = .ret (.sh (fr (inv L f (j + 2)))) [.sh (fr (ivp (inv L f) f (j + 2) (lotN L (j + 2)))), .sh (fr (f 1))] := by
        rw [← st]
        exact h1.2 k (by omega) _ _ k5 k0 h0
      rw [show tabL (inv L f) (j + 1 + 1) = .lst ((tl (inv L f) (j + 1) ++ [inv L f (j + 2)]).map fr) by unfold tabL; rw [tl_succ]]
      unfold tabL at e3 ⊢
      rw [List.map_append]
      simp? [frT, B_inverse_by2, fr_0, e3, h1.1, u, i0]) (.un, .un, .un)
  have e0 : exS (fcOf C) (callF C k) (S_inverse_by2 b c a) [.sh (lotsD L N), .sh d1, .ow (.lst [fr (1 / f 1)]), .un, .un, .un] = .ok .nx [.sh (lotsD L N), .sh d1, .ow (tabL (inv L f) N), s.1, s.2.1, s.2.2] := by
    have e4 : D.lst [fr (1 / f 1)] = tabL (inv L f) (0 + 1) := by
      unfold tabL
      rw [tl_succ, tl_zero, List.nil_append]
      show D.lst [fr (1 / f 1)] = .lst [fr (inv L f 1)]
      rw [inv_one]
    rw [e4]
    have e5 : N - 1 + 1 = N := by omega
    rw [e5] at e1
    refine fr_st ?_ e1
    refine vR2m 1 N (N - 1) (by omega) (by simp? []) (by simp? [lotsLen]) (by omega)
  have u : callF C k a [.sh (fr 1), .sh (fr (f 1))] = .ret (.sh (fr (1 / f 1))) [.sh (fr 1), .sh (fr (f 1))] := h1.2 k (by omega) _ _ Bz1 k0 h0
  have q1 : exS (fcOf C) (callF C k) (.ite (.cmp .eq (.idx (.var 1) (.cst (.int 0))) (.glo (.tup [(.int 0), (.int 1)]))) (.cons (.ret (.cst .non)) .nil) .nil) [.sh (lotsD L N), .sh d1, .un, .un, .un, .un] = .ok .nx [.sh (lotsD L N), .sh d1, .un, .un, .un, .un] := by
    simp? [i0, fr_0, cmpEq, deq_fr, h0]
  have q2 : exS (fcOf C) (callF C k) (.asg (.nm 2) (.lst (.cons (.call a (.cons (.glo (.tup [(.int 1), (.int 1)])) (.cons (.idx (.var 1) (.cst (.int 0))) .nil))) .nil))) [.sh (lotsD L N), .sh d1, .un, .un, .un, .un] = .ok .nx [.sh (lotsD L N), .sh d1, .ow (.lst [fr (1 / f 1)]), .un, .un, .un] := by
    simp? [i0, fr_1, h1.1, u]
  show fin _ _ (exL _ _ (.cons _ (.cons _ (.cons _ (.cons _ .nil)))) [.sh (lotsD L N), .sh d1, .un, .un, .un, .un]) = _
  rw [exL_nx q1, exL_nx q2, exL_nx e0]
  simp? [F_inverse_by]
end
end Lv
namespace Lv
def muFT (ts : Ts) (l : List (Nat × Nat)) : Int := l.foldl (fun s q => if tsOf ts q.1 = q.2 then -s else 0) i1
def muT (ts : Ts) (n : Nat) : Int := muFT ts (facN n)
def sumI (l : List Int) : Int := l.foldl (· + ·) 0
def chkMu (n : Nat) (ts : Ts) : Bool := decide ((lotT ts n).foldl (fun s d => s + muT (norm d ts) d) 0 = if n = 1 then 1 else 0) && decide ((muT ts n).natAbs ≤ 1)
theorem all_mu : forAll 120 chkMu = true := by decide +kernel
section
variable {L : List (List Nat)} {N n : Nat}
theorem muA_eq (g : LawG L) (h1 : 1 ≤ n) (h2 : n ≤ 120) : muA L n = muT (tys L n) n := by
  unfold muA muT
  have : ∀ (l : List (Nat × Nat)) (s : Int), (∀ q ∈ l, q ∈ facN n) → l.foldl (fun s q => if typeN L q.1 q.2 = q.2 then -s else 0) s = l.foldl (fun s q => if tsOf (tys L n) q.1 = q.2 then -s else 0) s := by
    intro l
    induction l with
    | nil => intro s _; rfl
    | cons q l ih =>
      intro s hm
      rw [List.foldl_cons, List.foldl_cons, (typeN_fac g h1 h2 (hm q List.mem_cons_self)).1]
      exact ih _ fun y hy => hm y (List.mem_cons_of_mem _ hy)
  exact this _ _ fun q hq => hq
theorem S_int {α : Type} {v : α → Int} : ∀ (l : List α) (s : Int), ((l.foldl (fun s d => s + v d) s : Int) : Rat) = (s : Rat) + S l fun d => ((v d : Int) : Rat)
  | [], s => by show (s : Rat) = s + 0; grind
  | x :: l, s => by
    rw [List.foldl_cons, S_int l, S_cons, Rat.intCast_add]
    grind
theorem mu_eq (g : LawG L) (hN : N ≤ 120) : Eqt N (mu L) fun n => ((muA L n : Int) : Rat) := by
  refine (inv_uniq g hN ones_ne fun n a b => ?_).symm
  have c := seen all_mu g (n := n) a (by omega)
  simp only [chkMu, Bool.and_eq_true, decide_eq_true_eq] at c
  have e : cv L (fun n => ((muA L n : Int) : Rat)) ones n = (((lotN L n).foldl (fun s d => s + muA L d) 0 : Int) : Rat) := by
    rw [S_int]
    unfold cv
    rw [S_cg (g := fun d => ((muA L d : Int) : Rat)) fun d _ => by unfold ones; grind]
    show _ = ((0 : Int) : Rat) + _
    grind
  have e2 : (lotN L n).foldl (fun s d => s + muA L d) 0 = (lotT (tys L n) n).foldl (fun s d => s + muT (norm d (tys L n)) d) 0 := by
    have : ∀ (l : List Nat) (s : Int), (∀ d ∈ l, d ∈ lotN L n) → l.foldl (fun s d => s + muA L d) s = l.foldl (fun s d => s + muT (norm d (tys L n)) d) s := by
      intro l
      induction l with
      | nil => intro s _; rfl
      | cons q l ih =>
        intro s hm
        have hq := hm q List.mem_cons_self
        rw [List.foldl_cons, List.foldl_cons, muA_eq g (lotN_pos hq) (by have := lotN_le hq; omega), tys_lot g a (by omega) hq]
        exact ih _ fun y hy => hm y (List.mem_cons_of_mem _ hy)
    exact this _ _ fun q hq => hq
  rw [e, e2, c.1]
  unfold one1
  by_cases z : n = 1
  · rw [if_pos z, if_pos z]; rfl
  · rw [if_neg z, if_neg z]; rfl
theorem mu_bt (g : LawG L) (hN : N ≤ 120) : BT N 1 1 (mu L) := fun n a b => by
  rw [mu_eq g hN n a b]
  have c := seen all_mu g (n := n) a (by omega)
  simp only [chkMu, Bool.and_eq_true, decide_eq_true_eq] at c
  refine Bd.int ?_
  rw [muA_eq g a (by omega)]
  exact c.2
end
end Lv
namespace Lv
open PySem
def TSm (N : Nat) (f : Tb) : Prop := 1 ≤ N ∧ N ≤ 120 ∧ ∀ n, 1 ≤ n → n ≤ N → Sm (f n)
section
variable {C : List Fn} {i a b c d e m : Nat}
def Ok_is_table_of (C : List Fn) (i : Nat) : Prop := fcOf C i = [false] ∧ ∀ k, 3 ≤ k → ∀ (N : Nat) (f : Tb), TSm N f → callF C k i [.sh (tabD f N)] = .ret (.sh (.bl true)) [.sh (tabD f N)]
theorem ok_is_table_of (h : C[i]? = some (F_is_table_of a)) (h1 : Ok_is_fraction C a) : Ok_is_table_of C i := by
  (refine ⟨by unfold fcOf; rw [h]; rfl, ?_⟩; intro k hk; obtain ⟨k, rfl⟩ : ∃ j, k = j + 1 := ⟨k - 1, by omega⟩)
  intro N f ⟨n1, n2, hs⟩
  rw [callF_eq h rfl]
  have e : evE (fcOf C) (callF C k) (C_is_table_of1 a) [.sh (tabD f N), .un] = .ok (.ow (.lst ((List.range N).map fun _ => .bl true))) [.sh (tabD f N), .un] :=
    lc_m0 (fun j => fr (f (j + 1))) (fun _ => .bl true) (fun _ => .sh (.bl true)) (fun j => [.sh (tabD f N), .sh (fr (f (j + 1)))]) (l := List.range N) rfl rfl rfl
      (by simp? [tabIt, tl, List.map_map]; rfl) (fun x hx => rfl) (fun x => rfl) (fun x hx => by
        have s := hs (x + 1) (by omega) (by have := List.mem_range.mp hx; omega)
        simp? [E_is_table_of1, h1.1, h1.2]) (fun x => .inl rfl) (by simp; omega)
  have hb := biAll (p := fun _ : Nat => true) (l := List.range N)
  have ht : ((List.range N).all fun _ => true) = true := by simp
  rw [ht] at hb
  simp? [F_is_table_of, tabTy, tabPl, tabLen, e, hb]
def Ok_need_table (C : List Fn) (i : Nat) : Prop := fcOf C i = [false, false] ∧ ∀ k, 4 ≤ k → ∀ (N : Nat) (f : Tb) (w : Str), TSm N f → callF C k i [.sh (tabD f N), .sh (.str w)] = .ret (.sh .non) [.sh (tabD f N), .sh (.str w)]
theorem ok_need_table (h : C[i]? = some (F_need_table a)) (h1 : Ok_is_table_of C a) : Ok_need_table C i := by
  (refine ⟨by unfold fcOf; rw [h]; rfl, ?_⟩; intro k hk; obtain ⟨k, rfl⟩ : ∃ j, k = j + 1 := ⟨k - 1, by omega⟩)
  intro N f w hs
  rw [callF_eq h rfl]
  simp? [F_need_table, h1.1, h1.2]
def Ok_need_other (C : List Fn) (i : Nat) : Prop := fcOf C i = [false, false] ∧ ∀ k, 4 ≤ k → ∀ (N : Nat) (f g : Tb), TSm N g → callF C k i [.sh (tabD f N), .sh (tabD g N)] = .ret (.sh .non) [.sh (tabD f N), .sh (tabD g N)]
theorem ok_need_other (h : C[i]? = some (F_need_other a)) (h1 : Ok_is_table_of C a) : Ok_need_other C i := by
  (refine ⟨by unfold fcOf; rw [h]; rfl, ?_⟩; intro k hk; obtain ⟨k, rfl⟩ : ∃ j, k = j + 1 := ⟨k - 1, by omega⟩)
  intro N f g hs
  rw [callF_eq h rfl]
  simp? [F_need_other, h1.1, h1.2, tabLen]
theorem mulOnes {N : Nat} (h : N ≤ 120) : bop .mul (.lst [fr 1]) (.int (N : Int)) = some (tabL ones N) := by
  have e : ∀ N : Nat, (List.replicate N [fr 1]).flatten = (tl ones N).map fr := by
    intro N
    induction N with
    | zero => rfl
    | succ N ih =>
      rw [tl_succ, List.map_append, ← ih, List.replicate_succ', List.flatten_append]
      rfl
  have h2 : fits ([fr 1].length * ((N : Int)).toNat) = true := fits_of (by rw [List.length_singleton, Int.toNat_natCast]; omega)
  have h3 : decide (-(2 ^ 63) ≤ (N : Int)) = true := decide_eq_true (by omega)
  have h4 : decide ((N : Int) < 2 ^ 63) = true := decide_eq_true (by omega)
  unfold bop
  simp only
  rw [h2, h3, h4, if_pos (by rfl)]
  unfold tabL
  rw [Int.toNat_natCast, e]
theorem tabLF {f : Tb} {N : Nat} : fresh (tabL f N) = .ow (tabL f N) := nr rfl
def Ok_ones_by (C : List Fn) (i : Nat) : Prop := fcOf C i = [false] ∧ ∀ k, 1 ≤ k → ∀ (N : Nat), N ≤ 120 → callF C k i [.sh (.int N)] = .ret (.ow (tabL ones N)) [.sh (.int N)]
theorem ok_ones_by (h : C[i]? = some F_ones_by) : Ok_ones_by C i := by
  (refine ⟨by unfold fcOf; rw [h]; rfl, ?_⟩; intro k hk; obtain ⟨k, rfl⟩ : ∃ j, k = j + 1 := ⟨k - 1, by omega⟩)
  intro N hN
  rw [callF_eq h rfl]
  simp? [F_ones_by, fr_1, mulOnes hN, tabLF]
def Ok_ones (C : List Fn) (i : Nat) : Prop := fcOf C i = [false] ∧ ∀ k, 4 ≤ k → ∀ (N : Nat), 1 ≤ N → N ≤ 120 → callF C k i [.sh (.int N)] = .ret (.sh (tabD ones N)) [.sh (.int N)]
theorem ok_ones (h : C[i]? = some (F_ones a b)) (h1 : Ok_need_reach C a) (h2 : Ok_ones_by C b) : Ok_ones C i := by
  (refine ⟨by unfold fcOf; rw [h]; rfl, ?_⟩; intro k hk; obtain ⟨k, rfl⟩ : ∃ j, k = j + 1 := ⟨k - 1, by omega⟩)
  intro N n1 n2
  rw [callF_eq h rfl]
  simp? [F_ones, h1.1, h1.2, h2.1, h2.2, tabTup, tabFr]
theorem fits_mu : Fits2 1 1 1 1 := by constructor <;> (show _ < lim; unfold lim; decide +kernel)
def Ok_marks_by (C : List Fn) (i : Nat) : Prop := fcOf C i = [false, false] ∧ ∀ k, 5 ≤ k → ∀ (L : List (List Nat)) (N : Nat), LawG L → 1 ≤ N → N ≤ 120 → callF C k i [.sh (lawD L), .sh (.int N)] = .ret (.ow (tabL (mu L) N)) [.sh (lawD L), .sh (.int N)]
theorem ok_marks_by (h : C[i]? = some (F_marks_by a b c)) (h1 : Ok_inverse_by C a) (h2 : Ok_all_lots C b) (h3 : Ok_ones_by C c) : Ok_marks_by C i := by
  (refine ⟨by unfold fcOf; rw [h]; rfl, ?_⟩; intro k hk; obtain ⟨k, rfl⟩ : ∃ j, k = j + 1 := ⟨k - 1, by omega⟩)
  intro L N g n1 n2
  rw [callF_eq h rfl]
  have u := (h1.2 k (by omega) L N (tabL ones N) ones 1 1 1 1 g n1 n2 row_lst).2 ones_ne (by decide) (by decide) BT.ones (mu_bt g n2) fits_mu
  simp? [F_marks_by, h2.1, h2.2, h3.1, h3.2, h1.1, u]
  rfl
def Ok_marks (C : List Fn) (i : Nat) : Prop := fcOf C i = [false, false] ∧ ∀ k, 6 ≤ k → ∀ (L : List (List Nat)) (N : Nat), LawG L → 1 ≤ N → N ≤ 120 → callF C k i [.sh (lawD L), .sh (.int N)] = .ret (.sh (tabD (mu L) N)) [.sh (lawD L), .sh (.int N)]
theorem ok_marks (h : C[i]? = some (F_marks a b c)) (h1 : Ok_need_law C a) (h2 : Ok_need_reach C b) (h3 : Ok_marks_by C c) : Ok_marks C i := by
  (refine ⟨by unfold fcOf; rw [h]; rfl, ?_⟩; intro k hk; obtain ⟨k, rfl⟩ : ∃ j, k = j + 1 := ⟨k - 1, by omega⟩)
  intro L N g n1 n2
  rw [callF_eq h rfl]
  simp? [F_marks, h1.1, h1.2, h2.1, h2.2, h3.1, h3.2, tabTup, tabFr]
def Ok_product (C : List Fn) (i : Nat) : Prop := fcOf C i = [false, false, false] ∧ ∀ k, 6 ≤ k → ∀ (L : List (List Nat)) (N : Nat) (f g : Tb) (D1 M1 D2 M2 : Nat), LawG L → TSm N f → TSm N g → 0 < D1 → 0 < D2 → BT N D1 M1 f → BT N D2 M2 g → Fits2 D1 M1 D2 M2 →
  callF C k i [.sh (lawD L), .sh (tabD f N), .sh (tabD g N)] = .ret (.sh (tabD (cv L f g) N)) [.sh (lawD L), .sh (tabD f N), .sh (tabD g N)]
theorem ok_product (h : C[i]? = some (F_product a b c d e)) (h1 : Ok_need_law C a) (h2 : Ok_need_table C b) (h3 : Ok_need_other C c) (h4 : Ok_product_by C d) (h5 : Ok_all_lots C e) : Ok_product C i := by
  (refine ⟨by unfold fcOf; rw [h]; rfl, ?_⟩; intro k hk; obtain ⟨k, rfl⟩ : ∃ j, k = j + 1 := ⟨k - 1, by omega⟩)
  intro L N f g D1 M1 D2 M2 gd sf sg p1 p2 b1 b2 ft
  rw [callF_eq h rfl]
  have n2 := sf.2.1
  have u := h4.2 k (by omega) L N (tabD f N) (tabD g N) f g D1 M1 D2 M2 n2 row_tup row_tup p1 p2 b1 b2 ft
  simp? [F_product, h1.1, h1.2, h2.1, h2.2, h3.1, h3.2, h5.1, h5.2, h4.1, u, tabLen, tabTup, tabFr]
def Ok_sums_over (C : List Fn) (i : Nat) : Prop := fcOf C i = [false, false] ∧ ∀ k, 6 ≤ k → ∀ (L : List (List Nat)) (N : Nat) (f : Tb) (D1 M1 : Nat), LawG L → TSm N f → 0 < D1 → BT N D1 M1 f → Fits2 D1 M1 1 1 →
  callF C k i [.sh (lawD L), .sh (tabD f N)] = .ret (.sh (tabD (cv L f ones) N)) [.sh (lawD L), .sh (tabD f N)]
theorem ok_sums_over (h : C[i]? = some (F_sums_over a b c d e)) (h1 : Ok_need_law C a) (h2 : Ok_need_table C b) (h3 : Ok_product_by C c) (h4 : Ok_all_lots C d) (h5 : Ok_ones_by C e) : Ok_sums_over C i := by
  (refine ⟨by unfold fcOf; rw [h]; rfl, ?_⟩; intro k hk; obtain ⟨k, rfl⟩ : ∃ j, k = j + 1 := ⟨k - 1, by omega⟩)
  intro L N f D1 M1 gd sf p1 b1 ft
  rw [callF_eq h rfl]
  have n2 := sf.2.1
  have u := h3.2 k (by omega) L N (tabD f N) (tabL ones N) f ones D1 M1 1 1 n2 row_tup row_lst p1 (by decide) b1 BT.ones ft
  simp? [F_sums_over, h1.1, h1.2, h2.1, h2.2, h4.1, h4.2, h5.1, h5.2, h3.1, u, tabLen, tabTup, tabFr]
def Ok_told_back (C : List Fn) (i : Nat) : Prop := fcOf C i = [false, false] ∧ ∀ k, 7 ≤ k → ∀ (L : List (List Nat)) (N : Nat) (f : Tb) (D1 M1 : Nat), LawG L → TSm N f → 0 < D1 → BT N D1 M1 f → Fits2 D1 M1 1 1 →
  callF C k i [.sh (lawD L), .sh (tabD f N)] = .ret (.sh (tabD (cv L f (mu L)) N)) [.sh (lawD L), .sh (tabD f N)]
theorem ok_told_back (h : C[i]? = some (F_told_back a b c d e)) (h1 : Ok_need_law C a) (h2 : Ok_need_table C b) (h3 : Ok_product_by C c) (h4 : Ok_all_lots C d) (h5 : Ok_marks_by C e) : Ok_told_back C i := by
  (refine ⟨by unfold fcOf; rw [h]; rfl, ?_⟩; intro k hk; obtain ⟨k, rfl⟩ : ∃ j, k = j + 1 := ⟨k - 1, by omega⟩)
  intro L N f D1 M1 gd sf p1 b1 ft
  rw [callF_eq h rfl]
  have n1 := sf.1
  have n2 := sf.2.1
  have u := h3.2 k (by omega) L N (tabD f N) (tabL (mu L) N) f (mu L) D1 M1 1 1 n2 row_tup row_lst p1 (by decide) b1 (mu_bt gd n2) ft
  simp? [F_told_back, h1.1, h1.2, h2.1, h2.2, h4.1, h4.2, h5.1, h5.2, h3.1, u, tabLen, tabTup, tabFr]
end
end Lv
namespace Lv
open PySem
section
variable {C : List Fn} {i a b c d e m : Nat}
def restR : R Fl → Env
  | .ok _ ρ => ρ
  | _ => []
def Ok__law_type_rows (C : List Fn) (i : Nat) : Prop := fcOf C i = [false] ∧ ∀ k, 1 ≤ k → ∀ n : Nat, (n = 6 ∨ n = 4 ∨ n = 2) → callF C k i [.sh (.int n)] = .ret (.sh (.lst ((extRows n).map rowD))) [.sh (.int n)]
theorem rows_run6 (fc : Nat → List Bool) (call : Nat → Env → FR) : exL fc call F__law_type_rows.body ([.sh (.int ((6 : Nat) : Int))] ++ List.replicate (F__law_type_rows.n - F__law_type_rows.ps) Sl.un) = .ok (.ret (.sh (.lst ((extRows 6).map rowD)))) (.sh (.int ((6 : Nat) : Int)) :: .sh (.lst ((extRows 6).map rowD)) :: (restR (exL fc call F__law_type_rows.body ([.sh (.int ((6 : Nat) : Int))] ++ List.replicate (F__law_type_rows.n - F__law_type_rows.ps) Sl.un))).drop 2) := by kernel_rfl
theorem rows_run4 (fc : Nat → List Bool) (call : Nat → Env → FR) : exL fc call F__law_type_rows.body ([.sh (.int ((4 : Nat) : Int))] ++ List.replicate (F__law_type_rows.n - F__law_type_rows.ps) Sl.un) = .ok (.ret (.sh (.lst ((extRows 4).map rowD)))) (.sh (.int ((4 : Nat) : Int)) :: .sh (.lst ((extRows 4).map rowD)) :: (restR (exL fc call F__law_type_rows.body ([.sh (.int ((4 : Nat) : Int))] ++ List.replicate (F__law_type_rows.n - F__law_type_rows.ps) Sl.un))).drop 2) := by kernel_rfl
theorem rows_run2 (fc : Nat → List Bool) (call : Nat → Env → FR) : exL fc call F__law_type_rows.body ([.sh (.int ((2 : Nat) : Int))] ++ List.replicate (F__law_type_rows.n - F__law_type_rows.ps) Sl.un) = .ok (.ret (.sh (.lst ((extRows 2).map rowD)))) (.sh (.int ((2 : Nat) : Int)) :: .sh (.lst ((extRows 2).map rowD)) :: (restR (exL fc call F__law_type_rows.body ([.sh (.int ((2 : Nat) : Int))] ++ List.replicate (F__law_type_rows.n - F__law_type_rows.ps) Sl.un))).drop 2) := by kernel_rfl
theorem ok__law_type_rows (h : C[i]? = some F__law_type_rows) : Ok__law_type_rows C i := by
  (refine ⟨by unfold fcOf; rw [h]; rfl, ?_⟩; intro k hk; obtain ⟨k, rfl⟩ : ∃ j, k = j + 1 := ⟨k - 1, by omega⟩)
  intro n hn
  rcases hn with rfl | rfl | rfl
  · exact callF_of h rfl (rows_run6 _ _) rfl
  · exact callF_of h rfl (rows_run4 _ _) rfl
  · exact callF_of h rfl (rows_run2 _ _) rfl
def plainL : List (List Nat) := [[1, 1, 1, 1, 1, 1], [1, 1, 1, 1], [1, 1], [1, 1]]
def ownL : List (List Nat) := [[1, 2, 3, 4, 5, 6], [1, 2, 3, 4], [1, 2], [1, 2]]
theorem plainG : LawG plainL := ⟨_, by decide, _, by decide, _, by decide, _, by decide, rfl⟩
theorem ownG : LawG ownL := ⟨_, by decide, _, by decide, _, by decide, _, by decide, rfl⟩
def Dr.lw1 (s : Dr) : Dr := s.next 6
def Dr.lw2 (s : Dr) : Dr := s.lw1.next (extRows 6).length
def Dr.lw3 (s : Dr) : Dr := s.lw2.next (extRows 4).length
def Dr.lw4 (s : Dr) : Dr := s.lw3.next (extRows 2).length
def Dr.lw5 (s : Dr) : Dr := s.lw4.next (extRows 2).length
def Dr.law (s : Dr) : List (List Nat) := if s.take 6 = 0 then plainL else if s.take 6 = 1 then ownL else [s.lw1.pk (extRows 6), s.lw2.pk (extRows 4), s.lw3.pk (extRows 2), s.lw4.pk (extRows 2)]
def Dr.lawS (s : Dr) : Dr := if s.take 6 = 0 then s.lw1 else if s.take 6 = 1 then s.lw1 else s.lw5
theorem Dr.lawG (s : Dr) : LawG s.law := by
  unfold Dr.law
  split
  · exact plainG
  · split
    · exact ownG
    · exact ⟨_, Dr.pk_mem _ (by decide), _, Dr.pk_mem _ (by decide), _, Dr.pk_mem _ (by decide), _, Dr.pk_mem _ (by decide), rfl⟩
theorem mulTup {ds : List D} {n : Nat} (h1 : 2 ≤ n) (h2 : n ≤ 1000) (h3 : ds.length ≤ 1000) (h4 : ds.isEmpty = false) : bop .mul (.tup ds) (.int (n : Int)) = some (.tup (List.replicate n ds).flatten) := by
  have e1 : decide ((2 : Int) ≤ n) = true := decide_eq_true (by omega)
  have e2 : decide ((n : Int) ≤ 1000) = true := decide_eq_true (by omega)
  unfold bop
  simp only
  rw [e1, e2, decide_eq_true h3, h4, if_pos (by rfl), Int.toNat_natCast]
def Ok__law_law (C : List Fn) (i : Nat) : Prop := fcOf C i = [false] ∧ ∀ k, 4 ≤ k → ∀ s : Dr, callF C k i [.ow s.d] = .ret (.sh (lawD s.law)) [.ow s.lawS.d]
theorem ok__law_law (h : C[i]? = some (F__law_law a b c)) (h1 : Ok__law_take C a) (h2 : Ok__law_pick C b) (h3 : Ok__law_type_rows C c) : Ok__law_law C i := by
  (refine ⟨by unfold fcOf; rw [h]; rfl, ?_⟩; intro k hk; obtain ⟨k, rfl⟩ : ∃ j, k = j + 1 := ⟨k - 1, by omega⟩)
  intro s
  have t := h1.2 k (by omega) s 6 (by decide)
  by_cases w0 : s.take 6 = 0
  · have e1 : s.law = plainL := if_pos w0
    have e2 : s.lawS = s.lw1 := if_pos w0
    rw [e1, e2, callF_eq h rfl]
    unfold Dr.lw1
    simp? [F__law_law, h1.1, t, w0, mulTup (ds := [.int ((1 : Nat) : Int)]) (n := 6) (by decide) (by decide) (by decide) rfl, mulTup (ds := [.int ((1 : Nat) : Int)]) (n := 4) (by decide) (by decide) (by decide) rfl]
    rfl
  by_cases w1 : s.take 6 = 1
  · have e1 : s.law = ownL := by unfold Dr.law; rw [if_neg w0, if_pos w1]
    have e2 : s.lawS = s.lw1 := by unfold Dr.lawS; rw [if_neg w0, if_pos w1]
    rw [e1, e2, callF_eq h rfl]
    unfold Dr.lw1
    simp? [F__law_law, h1.1, t, w1]
    rfl
  · have e1 : s.law = [s.lw1.pk (extRows 6), s.lw2.pk (extRows 4), s.lw3.pk (extRows 2), s.lw4.pk (extRows 2)] := by unfold Dr.law; rw [if_neg w0, if_neg w1]
    have e2 : s.lawS = s.lw5 := by unfold Dr.lawS; rw [if_neg w0, if_neg w1]
    rw [e1, e2]
    have r6 := h3.2 k (by omega) 6 (.inl rfl)
    have r4 := h3.2 k (by omega) 4 (.inr (.inl rfl))
    have r2 := h3.2 k (by omega) 2 (.inr (.inr rfl))
    have p1 := (h2.2 k (by omega) s.lw1 _ rowD (extRows 6) (by decide) (by decide)).1
    have p2 := (h2.2 k (by omega) s.lw2 _ rowD (extRows 4) (by decide) (by decide)).1
    have p3 := (h2.2 k (by omega) s.lw3 _ rowD (extRows 2) (by decide) (by decide)).1
    have p4 := (h2.2 k (by omega) s.lw4 _ rowD (extRows 2) (by decide) (by decide)).1
    have t' : callF C k a [.ow s.d, .sh (.int ((6 : Nat) : Int))] = .ret (.sh (.int (s.take 6 : Nat))) [.ow s.lw1.d, .sh (.int ((6 : Nat) : Int))] := t
    have p1' : callF C k b [.ow s.lw1.d, .sh (.lst ((extRows 6).map rowD))] = .ret (.sh (rowD (s.lw1.pk (extRows 6)))) [.ow s.lw2.d, .sh (.lst ((extRows 6).map rowD))] := p1
    have p2' : callF C k b [.ow s.lw2.d, .sh (.lst ((extRows 4).map rowD))] = .ret (.sh (rowD (s.lw2.pk (extRows 4)))) [.ow s.lw3.d, .sh (.lst ((extRows 4).map rowD))] := p2
    have p3' : callF C k b [.ow s.lw3.d, .sh (.lst ((extRows 2).map rowD))] = .ret (.sh (rowD (s.lw3.pk (extRows 2)))) [.ow s.lw4.d, .sh (.lst ((extRows 2).map rowD))] := p3
    have p4' : callF C k b [.ow s.lw4.d, .sh (.lst ((extRows 2).map rowD))] = .ret (.sh (rowD (s.lw4.pk (extRows 2)))) [.ow s.lw5.d, .sh (.lst ((extRows 2).map rowD))] := p4
    clear p1 p2 p3 p4 t
    generalize (extRows 6) = x6 at *
    generalize (extRows 4) = x4 at *
    generalize (extRows 2) = x2 at *
    generalize s.lw1 = s1 at *
    generalize s.lw2 = s2 at *
    generalize s.lw3 = s3 at *
    generalize s.lw4 = s4 at *
    generalize s.lw5 = s5 at *
    have e : evE (fcOf C) (callF C k) (C__law_law1 b c) [.ow s1.d, .sh (.int (s.take 6 : Nat)), .un] = .ok (.ow (.lst [rowD (s1.pk x6), rowD (s2.pk x4), rowD (s3.pk x2), rowD (s4.pk x2)])) [.ow s5.d, .sh (.int (s.take 6 : Nat)), .un] := by
      unfold C__law_law1
      rw [evE_lc]
      simp? [itL, hide, lcGo, lcT, wipeE, elemR, letR, lcFin, show_, E__law_law1, h2.1, h3.1, r6, r4, r2, p1', p2', p3', p4', fits]
    refine callF_of h rfl (v := .sh (lawD [s1.pk x6, s2.pk x4, s3.pk x2, s4.pk x2])) (ρ1 := [.ow s5.d, .sh (.int (s.take 6 : Nat)), .un]) ?_ rfl
    show exL _ _ (.cons _ _) [.ow s.d, .un, .un] = _
    simp?! [h1.1, t']
    simp?! []
    simp?! []
    simp_all? [e, biTupL]
end
end Lv
namespace Lv
open PySem
section
variable {C : List Fn} {i a b c d e m : Nat}
theorem zip_map {α β : Type} (f : α → D) (l : List α) (l' : List α) : ((l.map f).zip (l'.map f)).map (fun p : D × D => D.tup [p.1, p.2]) = (l.zip l').map fun p => D.tup [f p.1, f p.2] := by
  rw [List.zip_map, List.map_map]
  rfl
theorem filtT {α : Type} {l : List α} : l.filter (fun _ => true) = l := List.filter_eq_self.mpr fun _ _ => rfl
def Nums (l : List Nat) : Prop := 1 ≤ l.length ∧ l.length ≤ 16 ∧ (∀ n ∈ l, 1 ≤ n ∧ n ≤ 120) ∧ ∀ p ∈ l.zip (l.drop 1), p.1 < p.2
def Ok_need_numbers (C : List Fn) (i : Nat) : Prop := fcOf C i = [false] ∧ ∀ k, 3 ≤ k → ∀ (l : List Nat), Nums l → callF C k i [.sh (natsD l)] = .ret (.sh .non) [.sh (natsD l)]
theorem ok_need_numbers (h : C[i]? = some (F_need_numbers a)) (h1 : Ok_is_within_bounds C a) : Ok_need_numbers C i := by
  (refine ⟨by unfold fcOf; rw [h]; rfl, ?_⟩; intro k hk; obtain ⟨k, rfl⟩ : ∃ j, k = j + 1 := ⟨k - 1, by omega⟩)
  intro l ⟨l1, l2, l3, l4⟩
  rw [callF_eq h rfl]
  have e1 : evE (fcOf C) (callF C k) (C_need_numbers1 a) [.sh (natsD l), .un, .un, .un] = .ok (.ow (.lst (l.map fun _ => .bl true))) [.sh (natsD l), .un, .un, .un] :=
    lc_m0 (fun (n : Nat) => D.int (n : Int)) (fun _ => .bl true) (fun _ => .sh (.bl true)) (fun n => [.sh (natsD l), .sh (.int (n : Int)), .un, .un]) (l := l) rfl rfl rfl
      (by simp? [natsD, itT]) (fun x hx => rfl) (fun x => rfl) (fun x hx => by
        have s := l3 x hx
        have s1 := s.1
        have s2 := s.2
        simp? [E_need_numbers1, h1.1, within_t h1]) (fun x => .inl rfl) (by omega)
  have e2 : evE (fcOf C) (callF C k) C_need_numbers2 [.sh (natsD l), .un, .un, .un] = .ok (.ow (.lst ((l.zip (l.drop 1)).map fun _ => .bl true))) [.sh (natsD l), .un, .un, .un] :=
    lc_m0 (fun (p : Nat × Nat) => D.tup [.int (p.1 : Int), .int (p.2 : Int)]) (fun _ => .bl true) (fun _ => .sh (.bl true)) (fun p => [.sh (natsD l), .un, .sh (.int (p.1 : Int)), .sh (.int (p.2 : Int))]) (l := l.zip (l.drop 1)) rfl rfl rfl
      (by simp? [natsD, sliFrom, ← List.map_drop, zip_map (β := Nat)]) (fun x hx => rfl) (fun x => rfl) (fun x hx => by
        have s := l4 x hx
        simp? [E_need_numbers2]) (fun x => .inl rfl) (by rw [List.length_zip]; omega)
  have b1 := biAll (p := fun _ : Nat => true) (l := l)
  have t1 : (l.all fun _ => true) = true := by simp
  rw [t1] at b1
  have b2 := biAll (p := fun _ : Nat × Nat => true) (l := l.zip (l.drop 1))
  have t2 : ((l.zip (l.drop 1)).all fun _ => true) = true := by simp
  rw [t2] at b2
  have bl : bi .len [natsD l] = some (.int (l.length : Nat)) := by unfold natsD; rw [biLenT, List.length_map]
  have ty : isTy (natsD l) .tuple = true := rfl
  have pl : plainD (natsD l) = true := rfl
  simp? [F_need_numbers, e1, e2, b1, b2, bl, ty, pl]
def closedB (L : List (List Nat)) (l : List Nat) : Bool := l.all fun n => (lotN L n).all fun d => decide (d ∈ l)
def Ok_is_closed_by (C : List Fn) (i : Nat) : Prop := fcOf C i = [false, false] ∧ ∀ k, 4 ≤ k → ∀ (L : List (List Nat)) (l : List Nat), LawG L → Nums l → callF C k i [.sh (lawD L), .sh (natsD l)] = .ret (.sh (.bl (closedB L l))) [.sh (lawD L), .sh (natsD l)]
theorem sum_le : ∀ (l : List Nat), (∀ n ∈ l, n ≤ 120) → (l.map fun n => n).sum ≤ 120 * l.length
  | [], _ => by simp
  | x :: l, h => by
    have := sum_le l fun y hy => h y (List.mem_cons_of_mem _ hy)
    have := h x List.mem_cons_self
    simp only [List.map_cons, List.sum_cons, List.length_cons] at *
    omega
theorem flat_len {L : List (List Nat)} : ∀ (l : List Nat), (l.flatMap fun n => (lotN L n).map fun d => d).length ≤ (l.map fun n => n).sum
  | [] => by simp
  | x :: l => by
    have := flat_len (L := L) l
    have h := lotN_len (L := L) (n := x)
    simp only [List.flatMap_cons, List.length_append, List.length_map, List.map_cons, List.sum_cons] at *
    omega
theorem ok_is_closed_by (h : C[i]? = some (F_is_closed_by a)) (h1 : Ok_lot_by C a) : Ok_is_closed_by C i := by
  (refine ⟨by unfold fcOf; rw [h]; rfl, ?_⟩; intro k hk; obtain ⟨k, rfl⟩ : ∃ j, k = j + 1 := ⟨k - 1, by omega⟩)
  intro L l g ⟨l1, l2, l3, l4⟩
  rw [callF_eq h rfl]
  have e : evE (fcOf C) (callF C k) (C_is_closed_by1 a) [.sh (lawD L), .sh (natsD l), .un, .un] = .ok (.ow (.lst (l.flatMap fun n => ((lotN L n).filter fun _ => true).map fun d => .bl (decide (d ∈ l))))) [.sh (lawD L), .sh (natsD l), .un, .un] :=
    lc2_m (fun (n : Nat) => D.int (n : Int)) (lotN L) (fun _ (d : Nat) => D.int (d : Int)) (fun _ _ => true) (fun _ d => .bl (decide (d ∈ l))) (fun _ d => .sh (.bl (decide (d ∈ l)))) (fun n => [.sh (lawD L), .sh (natsD l), .sh (.int (n : Int)), .un]) (fun n d => [.sh (lawD L), .sh (natsD l), .sh (.int (n : Int)), .sh (.int (d : Int))]) (l := l) rfl rfl rfl
      (by simp? [natsD, itT]) (fun x hx => rfl) (fun x => rfl) (fun x => rfl) (fun x hx => by
        have s := l3 x hx
        have s1 := s.1
        have s2 := s.2
        simp? [I_is_closed_by1, h1.1, h1.2, lotD, natsD, itT]) (fun x hx y hy => rfl) (fun x y => rfl) (fun x y => rfl) (fun x hx y hy => rfl) (fun x hx y hy _ => by simp? [E_is_closed_by1, natsD, cInT, dmem_nat]) (fun x y => .inl rfl) (by
          have f1 := flat_len (L := L) l
          have f2 := sum_le l fun n hn => (l3 n hn).2
          have e : (l.flatMap fun n => ((lotN L n).filter fun _ => true).map fun d => D.bl (decide (d ∈ l))).length = (l.flatMap fun n => (lotN L n).map fun d => d).length := by
            simp only [List.length_flatMap, List.length_map, filtT]
          rw [e]
          omega)
  have e2 : (l.flatMap fun n => ((lotN L n).filter fun _ => true).map fun d => D.bl (decide (d ∈ l))) = (l.flatMap fun n => lotN L n).map fun d => D.bl (decide (d ∈ l)) := by
    rw [List.map_flatMap]
    congr 1
    funext n
    rw [List.filter_eq_self.mpr fun _ _ => rfl]
  rw [e2] at e
  have b := biAll (p := fun d : Nat => decide (d ∈ l)) (l := l.flatMap fun n => lotN L n)
  have e3 : ((l.flatMap fun n => lotN L n).all fun d => decide (d ∈ l)) = closedB L l := by
    unfold closedB
    rw [List.all_flatMap]
  rw [e3] at b
  simp? [F_is_closed_by, e, b]
def Ok_is_closed (C : List Fn) (i : Nat) : Prop := fcOf C i = [false, false] ∧ ∀ k, 6 ≤ k → ∀ (L : List (List Nat)) (l : List Nat), LawG L → Nums l → callF C k i [.sh (lawD L), .sh (natsD l)] = .ret (.sh (.bl (closedB L l))) [.sh (lawD L), .sh (natsD l)]
theorem ok_is_closed (h : C[i]? = some (F_is_closed a b c)) (h1 : Ok_need_law C a) (h2 : Ok_need_numbers C b) (h3 : Ok_is_closed_by C c) : Ok_is_closed C i := by
  (refine ⟨by unfold fcOf; rw [h]; rfl, ?_⟩; intro k hk; obtain ⟨k, rfl⟩ : ∃ j, k = j + 1 := ⟨k - 1, by omega⟩)
  intro L l g hl
  rw [callF_eq h rfl]
  simp? [F_is_closed, h1.1, h1.2, h2.1, h2.2, h3.1, h3.2]
end
end Lv
namespace Lv
def Asc (l : List Nat) : Prop := l.Pairwise (· < ·)
theorem lotN_asc {L : List (List Nat)} {n : Nat} : Asc (lotN L n) := by
  refine List.Pairwise.sublist (List.filter_sublist.trans List.filter_sublist) ?_
  exact List.pairwise_lt_range' ..
theorem Asc.sub {l l' : List Nat} (h : Asc l) (s : l'.Sublist l) : Asc l' := List.Pairwise.sublist s h
theorem foldl_max_asc : ∀ (l : List Nat) (x : Nat), Asc (x :: l) → l.foldl max x = (x :: l).getLastD 1
  | [], x, _ => rfl
  | y :: l, x, h => by
    have hxy : x < y := (List.pairwise_cons.mp h).1 y List.mem_cons_self
    have h2 : Asc (y :: l) := (List.pairwise_cons.mp h).2
    rw [List.foldl_cons, Nat.max_eq_right (Nat.le_of_lt hxy), foldl_max_asc l y h2]
    rfl
theorem maxNat_asc {l : List Nat} (h : Asc l) (h0 : l ≠ []) : maxNat l = l.getLastD 1 := by
  cases l with
  | nil => exact absurd rfl h0
  | cons x l => exact foldl_max_asc l x h
theorem last_mem {l : List Nat} (h : l ≠ []) : l.getLastD 1 ∈ l := by
  rw [List.getLastD_eq_getLast?, List.getLast?_eq_some_getLast h]
  exact List.getLast_mem h
theorem last_ge {l : List Nat} (h : Asc l) : ∀ x ∈ l, x ≤ l.getLastD 1 := by
  induction l with
  | nil => intro x hx; cases hx
  | cons y l ih =>
    intro x hx
    cases l with
    | nil => rw [List.mem_singleton.mp hx]; exact Nat.le_refl _
    | cons z l =>
      have h2 : Asc (z :: l) := (List.pairwise_cons.mp h).2
      have e : (y :: z :: l).getLastD 1 = (z :: l).getLastD 1 := rfl
      rw [e]
      rcases List.mem_cons.mp hx with rfl | hx
      · have := ih h2 z List.mem_cons_self
        have := (List.pairwise_cons.mp h).1 z List.mem_cons_self
        omega
      · exact ih h2 x hx
theorem asc_zip {l : List Nat} (h : Asc l) : ∀ p ∈ l.zip (l.drop 1), p.1 < p.2 := by
  induction l with
  | nil => intro p hp; simp at hp
  | cons x l ih =>
    intro p hp
    cases l with
    | nil => simp at hp
    | cons y l =>
      have hp' : p ∈ (x :: y :: l).zip (y :: l) := hp
      rw [List.zip_cons_cons] at hp'
      rcases List.mem_cons.mp hp' with rfl | hp'
      · exact (List.pairwise_cons.mp h).1 y List.mem_cons_self
      · exact ih (List.pairwise_cons.mp h).2 p hp'
section
variable {L : List (List Nat)} {m n : Nat}
theorem divs_asc : Asc (divs L m n) := lotN_asc.sub List.filter_sublist
theorem great_max (g : LawG L) (n1 : 1 ≤ n) (n2 : n ≤ 120) : maxNat (divs L m n) = greatN L m n := maxNat_asc divs_asc fun z => by
  have := divs_ne g (far := m) n1 n2
  rw [z] at this
  cases this
theorem great_mem (g : LawG L) (n1 : 1 ≤ n) (n2 : n ≤ 120) : greatN L m n ∈ divs L m n := last_mem fun z => by
  have := divs_ne g (far := m) n1 n2
  rw [z] at this
  cases this
theorem mem_divs {d : Nat} : d ∈ divs L m n ↔ d ∈ lotN L n ∧ m % d = 0 := by
  unfold divs
  rw [List.mem_filter, beq_iff_eq]
def chkLcm (n : Nat) (ts : Ts) : Bool := (lotT ts n).all fun a => (lotT ts n).all fun b => decide (Nat.lcm a b ∈ lotT ts n)
theorem all_lcm : forAll 120 chkLcm = true := by decide +kernel
theorem lcm_lot (g : LawG L) (n1 : 1 ≤ n) (n2 : n ≤ 120) {a b : Nat} (ha : a ∈ lotN L n) (hb : b ∈ lotN L n) : Nat.lcm a b ∈ lotN L n := by
  have := List.all_eq_true.mp (List.all_eq_true.mp (seen all_lcm g n1 n2) a ha) b hb
  exact of_decide_eq_true this
theorem great_dvd (g : LawG L) (n1 : 1 ≤ n) (n2 : n ≤ 120) {d : Nat} (h : d ∈ divs L m n) : greatN L m n % d = 0 := by
  have hg := great_mem (m := m) g n1 n2
  rw [mem_divs] at hg h
  have hl : Nat.lcm (greatN L m n) d ∈ divs L m n := by
    rw [mem_divs]
    exact ⟨lcm_lot g n1 n2 hg.1 h.1, Nat.mod_eq_zero_of_dvd (Nat.lcm_dvd (Nat.dvd_of_mod_eq_zero hg.2) (Nat.dvd_of_mod_eq_zero h.2))⟩
  have hle : Nat.lcm (greatN L m n) d ≤ greatN L m n := last_ge divs_asc _ hl
  have hd : greatN L m n ∣ Nat.lcm (greatN L m n) d := Nat.dvd_lcm_left _ _
  have hp : 0 < Nat.lcm (greatN L m n) d := lotN_pos (mem_divs.mp hl).1
  have e : Nat.lcm (greatN L m n) d = greatN L m n := Nat.le_antisymm hle (Nat.le_of_dvd hp hd)
  have : d ∣ greatN L m n := by
    have := Nat.dvd_lcm_right (greatN L m n) d
    rwa [e] at this
  exact Nat.mod_eq_zero_of_dvd this
theorem divs_great (g : LawG L) (n1 : 1 ≤ n) (n2 : n ≤ 120) : divs L (greatN L m n) n = divs L m n := by
  unfold divs
  refine List.filter_congr fun d hd => ?_
  have hg := (mem_divs.mp (great_mem (m := m) g n1 n2)).2
  by_cases h : m % d = 0
  · rw [h, great_dvd g n1 n2 (mem_divs.mpr ⟨hd, h⟩)]
  · have : ¬ greatN L m n % d = 0 := fun z => h (Nat.mod_eq_zero_of_dvd (Nat.dvd_trans (Nat.dvd_of_mod_eq_zero z) (Nat.dvd_of_mod_eq_zero hg)))
    rw [show (greatN L m n % d == 0) = false by simpa using this, show (m % d == 0) = false by simpa using h]
theorem ram_great (g : LawG L) (n1 : 1 ≤ n) (n2 : n ≤ 120) : ramA L (greatN L m n) n = ramA L m n := by
  unfold ramA
  rw [divs_great g n1 n2]
theorem divs_all {d : Nat} (h : m % d = 0) : divs L m d = lotN L d := by
  unfold divs
  refine List.filter_eq_self.mpr fun e he => ?_
  have := lotN_dvd he
  simpa using Nat.mod_eq_zero_of_dvd (Nat.dvd_trans (Nat.dvd_of_mod_eq_zero this) (Nat.dvd_of_mod_eq_zero h))
theorem lotN_lastN (g : LawG L) (n1 : 1 ≤ n) (n2 : n ≤ 120) : (lotN L n).getLastD 1 = n := by
  have h1 := last_ge lotN_asc n (one_lot g n1 n2).2
  have h2 := lotN_le (last_mem (l := lotN L n) fun z => by have := (one_lot g n1 n2).2; rw [z] at this; cases this)
  omega
theorem great_self (g : LawG L) (n1 : 1 ≤ n) (n2 : n ≤ 120) : greatN L n n = n := by
  unfold greatN
  rw [divs_all (Nat.mod_self n)]
  exact lotN_lastN g n1 n2
theorem meet_self (g : LawG L) (n1 : 1 ≤ n) (n2 : n ≤ 120) : meetN L n n = n := by
  unfold meetN
  rw [List.filter_eq_self.mpr fun d hd => decide_eq_true hd]
  rw [maxNat_asc lotN_asc fun z => by have := (one_lot g n1 n2).2; rw [z] at this; cases this]
  exact lotN_lastN g n1 n2
theorem sum_S : ∀ (l : List Nat) (v : Nat → Int), (((l.map v).sum : Int) : Rat) = S l fun d => ((v d : Int) : Rat)
  | [], v => rfl
  | x :: l, v => by
    rw [List.map_cons, List.sum_cons, S_cons, Rat.intCast_add, sum_S l v]
def prt (m : Nat) : Tb := fun n => if m % n = 0 then (n : Rat) else 0
def idT : Tb := fun n => (n : Rat)
theorem ram_cv (g : LawG L) (n1 : 1 ≤ n) (n2 : n ≤ 120) : ((ramA L m n : Int) : Rat) = cv L (prt m) (mu L) n := by
  unfold ramA cv
  rw [sum_S]
  unfold divs
  rw [S_filter]
  refine S_cg fun d hd => ?_
  have e := mu_eq g (N := n) n2 (n / d) (lotN_div_pos hd) (lotN_div_le hd)
  unfold prt
  rw [e]
  by_cases h : m % d = 0
  · rw [if_pos (by simpa using h), if_pos h, Rat.intCast_mul]
    rfl
  · rw [if_neg (by simpa using h), if_neg h]
    grind
theorem ram_id (g : LawG L) (n1 : 1 ≤ n) (n2 : n ≤ 120) : ((ramA L n n : Int) : Rat) = cv L idT (mu L) n := by
  rw [ram_cv g n1 n2]
  unfold cv
  refine S_cg fun d hd => ?_
  unfold prt idT
  rw [if_pos (lotN_dvd hd)]
theorem ram_far {d : Nat} (h : m % d = 0) : ramA L m d = ramA L d d := by
  unfold ramA
  rw [divs_all h, divs_all (Nat.mod_self d)]
def coefT (ts : Ts) (d : Nat) : List (Nat × Int) := (lotT (norm d ts) d).map fun e => (e, (e : Int) * muT (norm (d / e) (norm d ts)) (d / e))
def ramC (c : List (Nat × Int)) (m : Nat) : Int := (c.map fun q => if m % q.1 == 0 then q.2 else 0).sum
def rowC (c : List (Nat × Int)) (n : Nat) : List Int := (List.range n).map fun i => ramC c (i + 1)
def dot : List Int → List Int → Int
  | x :: l, y :: m => x * y + dot l m
  | _, _ => 0
def chkOrt (n : Nat) (ts : Ts) : Bool := (lotT ts n).all fun a => (lotT ts n).all fun b => decide (dot (rowC (coefT ts a) n) (rowC (coefT ts b) n) = if a = b then (n : Int) * ramC (coefT ts a) a else 0)
theorem all_ort : forAll 40 chkOrt = true := by decide +kernel
theorem sum_filter {α : Type} (p : α → Bool) (v : α → Int) : ∀ l : List α, ((l.filter p).map v).sum = (l.map fun x => if p x then v x else 0).sum
  | [] => rfl
  | x :: l => by
    rw [List.filter_cons, List.map_cons, List.sum_cons, ← sum_filter p v l]
    cases p x
    · simp
    · simp
theorem dot_map (v w : Nat → Int) : ∀ l : List Nat, dot (l.map v) (l.map w) = (l.map fun i => v i * w i).sum
  | [] => rfl
  | x :: l => by
    rw [List.map_cons, List.map_cons, List.map_cons, List.sum_cons, ← dot_map v w l]
    rfl
theorem ram_coef (g : LawG L) (n1 : 1 ≤ n) (n2 : n ≤ 120) {d : Nat} (h : d ∈ lotN L n) : ramA L m d = ramC (coefT (tys L n) d) m := by
  unfold ramA ramC coefT divs
  rw [sum_filter, List.map_map, ← lotN_member g n1 n2 h]
  congr 1
  refine List.map_congr_left fun e he => ?_
  have d1 := lotN_pos h
  have d2 := lotN_le h
  have q := div_lot g d1 (by omega) he
  show _ = if (m % e == 0) = true then (e : Int) * muT (norm (d / e) (norm d (tys L n))) (d / e) else 0
  rw [muA_eq g (lotN_pos q) (by have := lotN_le q; omega), tys_lot g d1 (by omega) q, tys_lot g n1 n2 h]
theorem ram_ort (g : LawG L) (n1 : 1 ≤ n) (n2 : n ≤ 40) {a b : Nat} (ha : a ∈ lotN L n) (hb : b ∈ lotN L n) : ((List.range n).map fun i => ramA L (1 + i) a * ramA L (1 + i) b).sum = if a = b then (n : Int) * ramA L a a else 0 := by
  have c := List.all_eq_true.mp (List.all_eq_true.mp (forAll_ok all_ort n1 n2 (tys_mem g n1 (by omega))) a ha) b hb
  have c := of_decide_eq_true c
  unfold rowC at c
  rw [dot_map, ← ram_coef g n1 (by omega) ha] at c
  rw [← c]
  congr 1
  refine List.map_congr_left fun i _ => ?_
  rw [ram_coef g n1 (by omega) ha, ram_coef g n1 (by omega) hb, Nat.add_comm 1 i]
def chkFew (n : Nat) (ts : Ts) : Bool := decide ((lotT ts n).length ≤ 16)
theorem all_few : forAll 120 chkFew = true := by decide +kernel
theorem few_lot (g : LawG L) (n1 : 1 ≤ n) (n2 : n ≤ 120) : (lotN L n).length ≤ 16 := of_decide_eq_true (seen all_few g n1 n2)
theorem nums_lot (g : LawG L) (n1 : 1 ≤ n) (n2 : n ≤ 120) : Nums (lotN L n) :=
  ⟨List.length_pos_iff.mpr (fun z => by have := (one_lot g n1 n2).2; rw [z] at this; cases this), few_lot g n1 n2, fun x hx => ⟨lotN_pos hx, by have := lotN_le hx; omega⟩, asc_zip lotN_asc⟩
def chkClo (n : Nat) (ts : Ts) : Bool := (lotT ts n).all fun d => (lotT (norm d ts) d).all fun e => decide (e ∈ lotT ts n)
theorem all_clo : forAll 120 chkClo = true := by decide +kernel
theorem mem_mem (g : LawG L) (n1 : 1 ≤ n) (n2 : n ≤ 120) {d e : Nat} (hd : d ∈ lotN L n) (he : e ∈ lotN L d) : e ∈ lotN L n := by
  rw [lotN_member g n1 n2 hd] at he
  exact of_decide_eq_true (List.all_eq_true.mp (List.all_eq_true.mp (seen all_clo g n1 n2) d hd) e he)
theorem closed_lot (g : LawG L) (n1 : 1 ≤ n) (n2 : n ≤ 120) : closedB L (lotN L n) = true :=
  List.all_eq_true.mpr fun d hd => List.all_eq_true.mpr fun e he => decide_eq_true (mem_mem g n1 n2 hd he)
theorem sum_abs : ∀ (l : List Int) (B : Nat), (∀ x ∈ l, x.natAbs ≤ B) → l.sum.natAbs ≤ l.length * B
  | [], B, _ => by simp
  | x :: l, B, h => by
    have h1 := sum_abs l B fun y hy => h y (List.mem_cons_of_mem _ hy)
    have h2 := h x List.mem_cons_self
    rw [List.sum_cons, List.length_cons, Nat.add_mul, Nat.one_mul]
    have := Int.natAbs_add_le x l.sum
    omega
theorem muA_le (g : LawG L) (n1 : 1 ≤ n) (n2 : n ≤ 120) : (muA L n).natAbs ≤ 1 := by
  have c := seen all_mu g n1 n2
  simp only [chkMu, Bool.and_eq_true, decide_eq_true_eq] at c
  rw [muA_eq g n1 n2]
  exact c.2
theorem ramA_le (g : LawG L) (n1 : 1 ≤ n) (n2 : n ≤ 120) : -14400 ≤ ramA L m n ∧ ramA L m n ≤ 14400 := by
  have h := sum_abs ((divs L m n).map fun (d : Nat) => (d : Int) * muA L (n / d)) 120 (fun x hx => by
    obtain ⟨d, hd, rfl⟩ := List.mem_map.mp hx
    have hd := (mem_divs.mp hd).1
    have a := lotN_le hd
    have b := muA_le g (lotN_div_pos hd) (by have := lotN_div_le hd; omega)
    rw [Int.natAbs_mul, Int.natAbs_natCast]
    have : d * (muA L (n / d)).natAbs ≤ d * 1 := Nat.mul_le_mul_left d b
    omega)
  rw [List.length_map] at h
  have hl : (divs L m n).length ≤ n := Nat.le_trans (List.length_filter_le _ _) lotN_len
  have h3 : (ramA L m n).natAbs ≤ 120 * 120 := Nat.le_trans h (Nat.mul_le_mul_right _ (by omega))
  omega
theorem prt_bt {N : Nat} : BT N 1 N (prt m) := fun n a b => by
  unfold prt
  split
  · exact Bd.nat b
  · exact Bd.zero (by decide)
theorem idT_bt {N : Nat} : BT N 1 N idT := fun n a b => Bd.nat b
theorem bt_sm {N M : Nat} {f : Tb} (n1 : 1 ≤ N) (n2 : N ≤ 120) (h : BT N 1 M f) (hM : M ≤ 1000000000000000000000) : TSm N f := ⟨n1, n2, fun n a b => (h n a b).sm (by decide) (by omega)⟩
end
end Lv
namespace Lv
open PySem
theorem fr_int {z : Int} : D.tup [.int z, .int ((1 : Nat) : Int)] = fr (z : Rat) := by
  unfold fr
  rw [Rat.num_intCast, Rat.den_intCast]
theorem fr_nat {z : Nat} : D.tup [.int (z : Int), .int ((1 : Nat) : Int)] = fr (z : Rat) := by
  have := fr_int (z := (z : Int))
  rw [this]
  rfl
theorem tabL_eq {f : Tb} {N : Nat} : D.lst ((List.range N).map fun j => fr (f (j + 1))) = tabL f N := by
  unfold tabL tl
  rw [List.map_map]
  rfl
theorem deq_frs {α : Type} {l : List α} {v : α → Rat} : deq (.lst (l.map fun x => fr (v x))) (.lst (l.map fun x => fr (v x))) = some true := by
  have := (eqE_lst eqE_fr).deq (by decide) (l.map v) (l.map v)
  rw [List.map_map] at this
  refine this.trans ?_
  simp
theorem deq_ints {α : Type} {l : List α} {v : α → Int} : deq (.lst (l.map fun x => D.int (v x))) (.lst (l.map fun x => D.int (v x))) = some true := by
  have := (eqE_lst eqE_int).deq (by decide) (l.map v) (l.map v)
  rw [List.map_map] at this
  refine this.trans ?_
  simp
section
variable {C : List Fn} {i : Nat}
theorem pickN {k it : Nat} (h : Ok__law_pick C it) (hk : 3 ≤ k) (s : Dr) (l : List Nat) (h1 : l ≠ []) (h2 : l.length ≤ 1000000) : callF C k it [.ow s.d, .sh (.lst (l.map fun (n : Nat) => .int (n : Int)))] = .ret (.sh (.int (s.pk l : Nat))) [.ow (s.next l.length).d, .sh (.lst (l.map fun (n : Nat) => .int (n : Int)))] := (h.2 k hk s Nat (fun n => .int (n : Int)) l h1 h2).1
theorem pickT {k it : Nat} (h : Ok__law_pick C it) (hk : 3 ≤ k) (s : Dr) (l : List Nat) (h1 : l ≠ []) (h2 : l.length ≤ 1000000) : callF C k it [.ow s.d, .sh (natsD l)] = .ret (.sh (.int (s.pk l : Nat))) [.ow (s.next l.length).d, .sh (natsD l)] := (h.2 k hk s Nat (fun n => .int (n : Int)) l h1 h2).2
def Ok_right59 (C : List Fn) (i : Nat) : Prop := fcOf C i = [false] ∧ ∀ k, 9 ≤ k → ∀ s : Dr, ∃ s' : Dr, callF C k i [.ow s.d] = .ret (.sh (.bl true)) [.ow s'.d]
variable {i1 i2 i3 i4 i5 i6 i7 i8 i9 i10 i11 i12 : Nat}
theorem ok_right59 (h : C[i]? = some (F__law_right_v2 i1 i2 i3 i4 i5 i6 i7 i8 i9 i10 i11 i12)) (h1 : Ok__law_law C i1) (h2 : Ok__law_pick C i2) (h3 : Ok__law_take C i3) (h4 : Ok_lot C i4) (h5 : Ok_marks C i5) (h6 : Ok_greatest C i6) (h7 : Ok_is_in C i7) (h8 : Ok_ramanujan C i8) (h9 : Ok_product C i9) (h10 : Ok_meet C i10) (h11 : Ok_told_back C i11) (h12 : Ok_is_closed C i12) : Ok_right59 C i := by
  (refine ⟨by unfold fcOf; rw [h]; rfl, ?_⟩; intro k hk; obtain ⟨k, rfl⟩ : ∃ j, k = j + 1 := ⟨k - 1, by omega⟩)
  intro s
  have c1 := h1.2 k (by omega) s
  obtain ⟨s1, e1⟩ : ∃ s1, s1 = s.lawS := ⟨_, rfl⟩
  have g := s.lawG
  rw [← e1] at c1
  generalize s.law = L at c1 g
  have c2 := h3.2 k (by omega) s1 40 (by decide)
  have t2 := s1.take_lt (show 0 < 40 by decide)
  generalize s1.next 40 = s2 at c2
  generalize s1.take 40 = v2 at c2 t2
  have c3 := pickN h2 (k := k) (by omega) s2 [1 + v2, 12, 16, 24, 32, 36] (by simp) (by simp)
  have t3 := s2.pk_mem (l := [1 + v2, 12, 16, 24, 32, 36]) (by simp)
  simp only [List.map_cons, List.map_nil, List.length_cons, List.length_nil, Nat.reduceAdd] at c3
  generalize s2.next 6 = s3 at c3
  generalize hn : s2.pk [1 + v2, 12, 16, 24, 32, 36] = n at c3 t3
  have n1 : 1 ≤ n := by simp at t3; omega
  have n2 : n ≤ 40 := by simp at t3; omega
  have c4 := h3.2 k (by omega) s3 200 (by decide)
  have t4 := s3.take_lt (show 0 < 200 by decide)
  generalize s3.next 200 = s4 at c4
  generalize s3.take 200 = v4 at c4 t4
  have c5 := h3.2 k (by omega) s4 n (by omega)
  have t5 := s4.take_lt (show 0 < n by omega)
  generalize s4.next n = s5 at c5
  generalize s4.take n = v5 at c5 t5
  have c6 := h3.2 k (by omega) s5 4 (by decide)
  have t6 := s5.take_lt (show 0 < 4 by decide)
  generalize s5.next 4 = s6 at c6
  generalize s5.take 4 = v6 at c6 t6
  have c7 := h3.2 k (by omega) s6 1000 (by decide)
  have t7 := s6.take_lt (show 0 < 1000 by decide)
  generalize s6.next 1000 = s7 at c7
  generalize s6.take 1000 = v7 at c7 t7
  have hm4 : n * (1 + v6) ≤ 160 := Nat.mul_le_mul n2 (show 1 + v6 ≤ 4 by omega)
  have hm5 : 1 ≤ n * (1 + v6) := Nat.mul_pos n1 (by omega)
  have c8 := pickN h2 (k := k) (by omega) s7 [1 + v4, 1 + v5, n * (1 + v6), 1000000000000000 + v7] (by simp) (by simp)
  have t8 := s7.pk_mem (l := [1 + v4, 1 + v5, n * (1 + v6), 1000000000000000 + v7]) (by simp)
  simp only [List.map_cons, List.map_nil, List.length_cons, List.length_nil, Nat.reduceAdd] at c8
  generalize s7.next 4 = s8 at c8
  generalize hm : s7.pk [1 + v4, 1 + v5, n * (1 + v6), 1000000000000000 + v7] = m at c8 t8
  have m1 : 1 ≤ m := by simp at t8; omega
  have m2 : m ≤ 1000000000000000000 := by simp at t8; omega
  have nn : n ≤ 120 := by omega
  have c9 := pickT h2 (k := k) (by omega) s8 (lotN L n) (fun z => by have := (one_lot g n1 nn).2; rw [z] at this; cases this) (by have := lotN_len (L := L) (n := n); omega)
  have t9 := s8.pk_mem (l := lotN L n) (fun z => by have := (one_lot g n1 nn).2; rw [z] at this; cases this)
  generalize s8.next (lotN L n).length = s9 at c9
  generalize s8.pk (lotN L n) = one at c9 t9
  have c10 := pickT h2 (k := k) (by omega) s9 (lotN L n) (fun z => by have := (one_lot g n1 nn).2; rw [z] at this; cases this) (by have := lotN_len (L := L) (n := n); omega)
  have t10 := s9.pk_mem (l := lotN L n) (fun z => by have := (one_lot g n1 nn).2; rw [z] at this; cases this)
  generalize s9.next (lotN L n).length = s10 at c10
  generalize s9.pk (lotN L n) = other at c10 t10
  refine ⟨s10, ?_⟩
  refine callF_of h rfl (v := .sh (.bl true)) (ρ1 := ?_) ?_ ?_
  rotate_left
  · show exL _ _ (.cons _ _) [.ow s.d, .un, .un, .un, .un, .un, .un, .un, .un, .un, .un, .un, .un, .un, .un] = _
    simp?! [h1.1, c1, h2.1, c3, h3.1, c2]
    simp?! [h2.1, c8, h3.1, c4, c5, c6, c7]
    simp?! [h4.1, h4.2, h5.1, h5.2]
    have e21 : evE (fcOf C) (callF C k) C__law_right_v21 [.ow s8.d, .sh (lawD L), .sh (.int n), .sh (.int m), .sh (lotD L n), .sh (tabD (mu L) n), .un, .un, .un, .un, .un, .un, .un, .un, .un] = .ok (.ow (.lst ((divs L m n).map fun (d : Nat) => .int (d : Int)))) [.ow s8.d, .sh (lawD L), .sh (.int n), .sh (.int m), .sh (lotD L n), .sh (tabD (mu L) n), .un, .un, .un, .un, .un, .un, .un, .un, .un] :=
      lc_m (fun (d : Nat) => D.int (d : Int)) (fun d => m % d == 0) (fun (d : Nat) => D.int (d : Int)) (fun (d : Nat) => .sh (D.int (d : Int))) (fun (x : Nat) => [.ow s8.d, .sh (lawD L), .sh (.int n), .sh (.int m), .sh (lotD L n), .sh (tabD (mu L) n), .un, .un, .un, .un, .un, .un, .sh (.int (x : Int)), .un, .un]) (l := lotN L n) rfl rfl rfl
        (by simp? [lotD, natsD, itT]) (fun x hx => rfl) (fun x => rfl) (fun x hx => by
          unfold Q__law_right_v21
          rw [vC1, mod_test (m := m) (d := x) (by simp? [biIntI]) (by simp? [biIntI]) (lotN_pos hx)]
          simp? []) (fun x hx _ => by simp? [E__law_right_v21]) (fun x => .inl rfl) (by have := lotN_len (L := L) (n := n); omega)
    have ne : divs L m n ≠ [] := fun z => by
      have := divs_ne g (far := m) n1 nn
      rw [z] at this
      cases this
    have bm := biMaxN ne
    rw [great_max g n1 nn] at bm
    simp?! [e21, bm]
    have gm := (mem_divs.mp (great_mem (m := m) g n1 nn)).1
    have gp := lotN_pos gm
    have gl := lotN_le gm
    simp?! [h6.1, h6.2, h7.1, h7.2]
    have e22 : evE (fcOf C) (callF C k) C__law_right_v22 [.ow s8.d, .sh (lawD L), .sh (.int n), .sh (.int m), .sh (lotD L n), .sh (tabD (mu L) n), .sh (.int (greatN L m n : Nat)), .un, .un, .un, .un, .un, .un, .un, .un] = .ok (.ow (tabL (prt m) n)) [.ow s8.d, .sh (lawD L), .sh (.int n), .sh (.int m), .sh (lotD L n), .sh (tabD (mu L) n), .sh (.int (greatN L m n : Nat)), .un, .un, .un, .un, .un, .un, .un, .un] := by
      rw [← tabL_eq]
      exact lc_m0 (fun (j : Nat) => D.int (j : Int)) (fun j => fr (prt m (j + 1))) (fun j => .sh (fr (prt m (j + 1)))) (fun (x : Nat) => [.ow s8.d, .sh (lawD L), .sh (.int n), .sh (.int m), .sh (lotD L n), .sh (tabD (mu L) n), .sh (.int (greatN L m n : Nat)), .un, .un, .un, .un, .un, .un, .sh (.int (x : Int)), .un]) (l := List.range n) rfl rfl rfl
        (vR1 (by simp? []) (by omega)) (fun x hx => rfl) (fun x => rfl) (fun x hx => by
          unfold E__law_right_v22
          have q := mod_test (fc := fcOf C) (call := callF C k) (x := .bi .int (.cons (.var 3) .nil)) (y := .bi .int (.cons (.bop .add (.var 13) (.cst (.int 1))) .nil)) (ρ := [.ow s8.d, .sh (lawD L), .sh (.int n), .sh (.int m), .sh (lotD L n), .sh (tabD (mu L) n), .sh (.int (greatN L m n : Nat)), .un, .un, .un, .un, .un, .un, .sh (.int (x : Int)), .un]) (m := m) (d := x + 1) (by simp? [biIntI]) (by simp? [biIntI]) (by omega)
          unfold prt
          by_cases z : m % (x + 1) = 0
          · rw [if_pos z]
            rw [show (m % (x + 1) == 0) = true by simpa using z] at q
            rw [vTup, vEs1, vIteE, q]
            simp? [fr_nat]
          · rw [if_neg z]
            rw [show (m % (x + 1) == 0) = false by simpa using z] at q
            rw [vTup, vEs1, vIteE, q]
            simp? [fr_0]) (fun x => .inl rfl) (by simp; omega)
    simp?! [e22, tabTup, tabFr]
    have u9 := h9.2 k (by omega) L n (prt m) (mu L) 1 n 1 1 g (bt_sm n1 nn prt_bt (by omega)) (bt_sm n1 nn (mu_bt g nn) (by decide)) (by decide) (by decide) prt_bt (mu_bt g nn) (by
      have hl : (1000000 : Nat) < lim := by unfold lim; decide +kernel
      constructor <;> omega)
    have ix := tabIx (f := cv L (prt m) (mu L)) (N := n) (d := n - 1) (by omega)
    rw [Nat.sub_add_cancel n1, ← ram_cv g n1 nn] at ix
    have rg := ram_great (m := m) g n1 nn
    simp?! [h8.1, h8.2, h9.1, u9, ix, fr_int, cmpNe, deq_fr, rg, deq_int]
    have e23 : evE (fcOf C) (callF C k) C__law_right_v23 [.ow s8.d, .sh (lawD L), .sh (.int n), .sh (.int m), .sh (lotD L n), .sh (tabD (mu L) n), .sh (.int (greatN L m n : Nat)), .sh (tabD (prt m) n), .un, .un, .un, .un, .un, .un, .un] = .ok (.ow (.lst ((divs L m n).map fun (d : Nat) => .int (d : Int)))) [.ow s8.d, .sh (lawD L), .sh (.int n), .sh (.int m), .sh (lotD L n), .sh (tabD (mu L) n), .sh (.int (greatN L m n : Nat)), .sh (tabD (prt m) n), .un, .un, .un, .un, .un, .un, .un] :=
      lc_m (fun (d : Nat) => D.int (d : Int)) (fun d => m % d == 0) (fun (d : Nat) => D.int (d : Int)) (fun (d : Nat) => .sh (D.int (d : Int))) (fun (x : Nat) => [.ow s8.d, .sh (lawD L), .sh (.int n), .sh (.int m), .sh (lotD L n), .sh (tabD (mu L) n), .sh (.int (greatN L m n : Nat)), .sh (tabD (prt m) n), .un, .un, .un, .un, .sh (.int (x : Int)), .un, .un]) (l := lotN L n) rfl rfl rfl
        (by simp? [lotD, natsD, itT]) (fun x hx => rfl) (fun x => rfl) (fun x hx => by
          unfold Q__law_right_v22
          rw [vC1, mod_test (m := m) (d := x) (by simp? []) (by simp? []) (lotN_pos hx)]
          simp? []) (fun x hx _ => by simp? [E__law_right_v23]) (fun x => .inl rfl) (by have := lotN_len (L := L) (n := n); omega)
    refine exL_to (ρ1 := [.ow s8.d, .sh (lawD L), .sh (.int n), .sh (.int m), .sh (lotD L n), .sh (tabD (mu L) n), .sh (.int (greatN L m n : Nat)), .sh (tabD (prt m) n), .un, .un, .un, .un, .un, .un, .un]) ?_ ?_
    · have gs := great_self g n1 nn
      have ms := meet_self g n1 nn
      by_cases q1 : m < 121
      · by_cases q2 : m = n
        · subst q2
          simp? [e23, bm, h10.1, h10.2]
        · simp? [e23, bm]
      · simp? []
    have e24 : evE (fcOf C) (callF C k) C__law_right_v24 [.ow s8.d, .sh (lawD L), .sh (.int n), .sh (.int m), .sh (lotD L n), .sh (tabD (mu L) n), .sh (.int (greatN L m n : Nat)), .sh (tabD (prt m) n), .un, .un, .un, .un, .un, .un, .un] = .ok (.ow (tabL idT n)) [.ow s8.d, .sh (lawD L), .sh (.int n), .sh (.int m), .sh (lotD L n), .sh (tabD (mu L) n), .sh (.int (greatN L m n : Nat)), .sh (tabD (prt m) n), .un, .un, .un, .un, .un, .un, .un] := by
      rw [← tabL_eq]
      exact lc_m0 (fun (j : Nat) => D.int ((1 + j : Nat) : Int)) (fun j => fr (idT (j + 1))) (fun j => .sh (fr (idT (j + 1)))) (fun (x : Nat) => [.ow s8.d, .sh (lawD L), .sh (.int n), .sh (.int m), .sh (lotD L n), .sh (tabD (mu L) n), .sh (.int (greatN L m n : Nat)), .sh (tabD (prt m) n), .un, .un, .un, .un, .un, .un, .sh (.int ((1 + x : Nat) : Int))]) (l := List.range n) rfl rfl rfl
        (vR2m 1 (n + 1) n (by omega) (by simp? []) (by simp? []) (by omega)) (fun x hx => rfl) (fun x => rfl) (fun x hx => by
          unfold idT
          rw [Nat.add_comm x 1]
          simp? [E__law_right_v24, fr_nat]) (fun x => .inl rfl) (by simp; omega)
    have u11 := h11.2 k (by omega) L n idT 1 n g (bt_sm n1 nn idT_bt (by omega)) (by decide) idT_bt (by
      have hl : (1000000 : Nat) < lim := by unfold lim; decide +kernel
      constructor <;> omega)
    simp?! [e24, tabTup, tabFr, h11.1, u11]
    have e25 : evE (fcOf C) (callF C k) (C__law_right_v25 i8) [.ow s8.d, .sh (lawD L), .sh (.int n), .sh (.int m), .sh (lotD L n), .sh (tabD (mu L) n), .sh (.int (greatN L m n : Nat)), .sh (tabD (prt m) n), .sh (tabD (cv L idT (mu L)) n), .un, .un, .un, .un, .un, .un] = .ok (.ow (.lst ((lotN L n).map fun (d : Nat) => fr ((ramA L d d : Int) : Rat)))) [.ow s8.d, .sh (lawD L), .sh (.int n), .sh (.int m), .sh (lotD L n), .sh (tabD (mu L) n), .sh (.int (greatN L m n : Nat)), .sh (tabD (prt m) n), .sh (tabD (cv L idT (mu L)) n), .un, .un, .un, .un, .un, .un] :=
      lc_m0 (fun (d : Nat) => D.int (d : Int)) (fun d => fr ((ramA L d d : Int) : Rat)) (fun d => .sh (fr ((ramA L d d : Int) : Rat))) (fun (x : Nat) => [.ow s8.d, .sh (lawD L), .sh (.int n), .sh (.int m), .sh (lotD L n), .sh (tabD (mu L) n), .sh (.int (greatN L m n : Nat)), .sh (tabD (prt m) n), .sh (tabD (cv L idT (mu L)) n), .un, .un, .un, .sh (.int (x : Int)), .un, .un]) (l := lotN L n) rfl rfl rfl
        (by simp? [lotD, natsD, itT]) (fun x hx => rfl) (fun x => rfl) (fun x hx => by
          have x1 := lotN_pos hx
          have x2 := lotN_le hx
          simp? [E__law_right_v25, h8.1, h8.2, fr_int]) (fun x => .inl rfl) (by have := lotN_len (L := L) (n := n); omega)
    have e26 : evE (fcOf C) (callF C k) C__law_right_v26 [.ow s8.d, .sh (lawD L), .sh (.int n), .sh (.int m), .sh (lotD L n), .sh (tabD (mu L) n), .sh (.int (greatN L m n : Nat)), .sh (tabD (prt m) n), .sh (tabD (cv L idT (mu L)) n), .un, .un, .un, .un, .un, .un] = .ok (.ow (.lst ((lotN L n).map fun (d : Nat) => fr ((ramA L d d : Int) : Rat)))) [.ow s8.d, .sh (lawD L), .sh (.int n), .sh (.int m), .sh (lotD L n), .sh (tabD (mu L) n), .sh (.int (greatN L m n : Nat)), .sh (tabD (prt m) n), .sh (tabD (cv L idT (mu L)) n), .un, .un, .un, .un, .un, .un] :=
      lc_m0 (fun (d : Nat) => D.int (d : Int)) (fun d => fr ((ramA L d d : Int) : Rat)) (fun d => .sh (fr ((ramA L d d : Int) : Rat))) (fun (x : Nat) => [.ow s8.d, .sh (lawD L), .sh (.int n), .sh (.int m), .sh (lotD L n), .sh (tabD (mu L) n), .sh (.int (greatN L m n : Nat)), .sh (tabD (prt m) n), .sh (tabD (cv L idT (mu L)) n), .un, .un, .un, .sh (.int (x : Int)), .un, .un]) (l := lotN L n) rfl rfl rfl
        (by simp? [lotD, natsD, itT]) (fun x hx => rfl) (fun x => rfl) (fun x hx => by
          have x1 := lotN_pos hx
          have x2 := lotN_le hx
          have ix := tabIx (f := cv L idT (mu L)) (N := n) (d := x - 1) (by omega)
          rw [Nat.sub_add_cancel x1, ← ram_id g x1 (by omega)] at ix
          simp? [E__law_right_v26, ix]) (fun x => .inl rfl) (by have := lotN_len (L := L) (n := n); omega)
    have e27 : evE (fcOf C) (callF C k) (C__law_right_v27 i8) [.ow s8.d, .sh (lawD L), .sh (.int n), .sh (.int m), .sh (lotD L n), .sh (tabD (mu L) n), .sh (.int (greatN L m n : Nat)), .sh (tabD (prt m) n), .sh (tabD (cv L idT (mu L)) n), .un, .un, .un, .un, .un, .un] = .ok (.ow (.lst ((lotN L n).map fun (d : Nat) => .int (ramA L d d)))) [.ow s8.d, .sh (lawD L), .sh (.int n), .sh (.int m), .sh (lotD L n), .sh (tabD (mu L) n), .sh (.int (greatN L m n : Nat)), .sh (tabD (prt m) n), .sh (tabD (cv L idT (mu L)) n), .un, .un, .un, .un, .un, .un] :=
      lc_m0 (fun (d : Nat) => D.int (d : Int)) (fun d => .int (ramA L d d)) (fun d => .sh (.int (ramA L d d))) (fun (x : Nat) => [.ow s8.d, .sh (lawD L), .sh (.int n), .sh (.int m), .sh (lotD L n), .sh (tabD (mu L) n), .sh (.int (greatN L m n : Nat)), .sh (tabD (prt m) n), .sh (tabD (cv L idT (mu L)) n), .un, .un, .un, .sh (.int (x : Int)), .un, .un]) (l := lotN L n) rfl rfl rfl
        (by simp? [lotD, natsD, itT]) (fun x hx => rfl) (fun x => rfl) (fun x hx => by
          have x1 := lotN_pos hx
          have x2 := lotN_le hx
          have q := ram_far (L := L) (lotN_dvd hx)
          simp? [E__law_right_v27, h8.1, h8.2, q]) (fun x => .inl rfl) (by have := lotN_len (L := L) (n := n); omega)
    have e28 : evE (fcOf C) (callF C k) (C__law_right_v28 i8) [.ow s8.d, .sh (lawD L), .sh (.int n), .sh (.int m), .sh (lotD L n), .sh (tabD (mu L) n), .sh (.int (greatN L m n : Nat)), .sh (tabD (prt m) n), .sh (tabD (cv L idT (mu L)) n), .un, .un, .un, .un, .un, .un] = .ok (.ow (.lst ((lotN L n).map fun (d : Nat) => .int (ramA L d d)))) [.ow s8.d, .sh (lawD L), .sh (.int n), .sh (.int m), .sh (lotD L n), .sh (tabD (mu L) n), .sh (.int (greatN L m n : Nat)), .sh (tabD (prt m) n), .sh (tabD (cv L idT (mu L)) n), .un, .un, .un, .un, .un, .un] :=
      lc_m0 (fun (d : Nat) => D.int (d : Int)) (fun d => .int (ramA L d d)) (fun d => .sh (.int (ramA L d d))) (fun (x : Nat) => [.ow s8.d, .sh (lawD L), .sh (.int n), .sh (.int m), .sh (lotD L n), .sh (tabD (mu L) n), .sh (.int (greatN L m n : Nat)), .sh (tabD (prt m) n), .sh (tabD (cv L idT (mu L)) n), .un, .un, .un, .sh (.int (x : Int)), .un, .un]) (l := lotN L n) rfl rfl rfl
        (by simp? [lotD, natsD, itT]) (fun x hx => rfl) (fun x => rfl) (fun x hx => by
          have x1 := lotN_pos hx
          have x2 := lotN_le hx
          simp? [E__law_right_v28, h8.1, h8.2]) (fun x => .inl rfl) (by have := lotN_len (L := L) (n := n); omega)
    have q1 := deq_frs (l := lotN L n) (v := fun (d : Nat) => ((ramA L d d : Int) : Rat))
    have q2 := deq_ints (l := lotN L n) (v := fun (d : Nat) => ramA L d d)
    simp?! [e25, e26, e27, e28, cmpNe, q1, q2]
    have c9' : callF C k i2 [.ow s8.d, .sh (lotD L n)] = .ret (.sh (.int (one : Nat))) [.ow s9.d, .sh (lotD L n)] := c9
    have c10' : callF C k i2 [.ow s9.d, .sh (lotD L n)] = .ret (.sh (.int (other : Nat))) [.ow s10.d, .sh (lotD L n)] := c10
    simp?! [h2.1, c9', c10']
    have o1 := lotN_pos t9
    have o2 := lotN_le t9
    have o3 := lotN_pos t10
    have o4 := lotN_le t10
    have e29 : evE (fcOf C) (callF C k) (C__law_right_v29 i8) [.ow s10.d, .sh (lawD L), .sh (.int n), .sh (.int m), .sh (lotD L n), .sh (tabD (mu L) n), .sh (.int (greatN L m n : Nat)), .sh (tabD (prt m) n), .sh (tabD (cv L idT (mu L)) n), .sh (.int (one : Nat)), .sh (.int (other : Nat)), .un, .un, .un, .un] = .ok (.ow (.lst ((List.range n).map fun (j : Nat) => .int (ramA L (1 + j) one * ramA L (1 + j) other)))) [.ow s10.d, .sh (lawD L), .sh (.int n), .sh (.int m), .sh (lotD L n), .sh (tabD (mu L) n), .sh (.int (greatN L m n : Nat)), .sh (tabD (prt m) n), .sh (tabD (cv L idT (mu L)) n), .sh (.int (one : Nat)), .sh (.int (other : Nat)), .un, .un, .un, .un] :=
      lc_m0 (fun (j : Nat) => D.int ((1 + j : Nat) : Int)) (fun j => .int (ramA L (1 + j) one * ramA L (1 + j) other)) (fun j => .sh (.int (ramA L (1 + j) one * ramA L (1 + j) other))) (fun (x : Nat) => [.ow s10.d, .sh (lawD L), .sh (.int n), .sh (.int m), .sh (lotD L n), .sh (tabD (mu L) n), .sh (.int (greatN L m n : Nat)), .sh (tabD (prt m) n), .sh (tabD (cv L idT (mu L)) n), .sh (.int (one : Nat)), .sh (.int (other : Nat)), .un, .un, .sh (.int ((1 + x : Nat) : Int)), .un]) (l := List.range n) rfl rfl rfl
        (vR2m 1 (n + 1) n (by omega) (by simp? []) (by simp? []) (by omega)) (fun x hx => rfl) (fun x => rfl) (fun x hx => by
          have x2 := List.mem_range.mp hx
          have r1 := (ramA_le (m := 1 + x) (n := one) g o1 (by omega)).1
          have r2 := (ramA_le (m := 1 + x) (n := one) g o1 (by omega)).2
          simp? [E__law_right_v29, h8.1, h8.2]) (fun x => .inl rfl) (by simp; omega)
    have so := ram_ort g n1 n2 t9 t10
    simp?! [e29, biSum, so]
    refine exL_to (ρ1 := [.ow s10.d, .sh (lawD L), .sh (.int n), .sh (.int m), .sh (lotD L n), .sh (tabD (mu L) n), .sh (.int (greatN L m n : Nat)), .sh (tabD (prt m) n), .sh (tabD (cv L idT (mu L)) n), .sh (.int (one : Nat)), .sh (.int (other : Nat)), .sh (.int (if one = other then (n : Int) * ramA L one one else 0)), .un, .un, .un]) ?_ ?_
    · by_cases q : one = other
      · subst q
        rw [if_pos rfl]
        simp? [h8.1, h8.2]
      · rw [if_neg q]
        simp? []
    have fw := few_lot g n1 nn
    have cl := h12.2 k (by omega) L (lotN L n) g (nums_lot g n1 nn)
    rw [closed_lot g n1 nn] at cl
    have cl' : callF C k i12 [.sh (lawD L), .sh (lotD L n)] = .ret (.sh (.bl true)) [.sh (lawD L), .sh (lotD L n)] := cl
    have ll : bi .len [lotD L n] = some (.int ((lotN L n).length : Nat)) := by unfold lotD natsD; rw [biLenT, List.length_map]
    simp_all? [ll, h12.1, cl']
  · rfl
end
end Lv
namespace Lv
open PySem
abbrev Ok__law_begun := BegunOk
theorem ok__law_begun {C : List Fn} {i : Nat} (h : C[i]? = some F__law_begun) : Ok__law_begun C i := begun_ok h
def TurnOk (n : Nat) (C : List Fn) (i : Nat) : Prop := fcOf C i = [false] ∧ ∀ k, n ≤ k → ∀ s : Dr, ∃ s' : Dr, callF C k i [.ow s.d] = .ret (.sh (.bl true)) [.ow s'.d]
def turnB (r : Nat) : CSs := .cons (.ite (.not (.call r (.cons (.var 1) .nil))) (.cons (.ret (.cst (.bl false))) .nil) .nil) .nil
def turnI (a b : Int) : CI := .rng (.cons (.bop .add (.cst (.int a)) (.bi .min2 (.cons (.bi .len (.cons (.var 0) .nil)) (.cons (.cst (.int b)) .nil)))) .nil)
theorem biMin2 {a b : Nat} : bi .min2 [.int (a : Int), .int (b : Int)] = some (.int ((min a b : Nat) : Int)) := by
  show some (D.int (if (b : Int) < a then (b : Int) else a)) = _
  congr 2
  split <;> omega
theorem biLenS {ns : List Int} : bi .len [.scr ns] = some (.int ((ns.length : Nat) : Int)) := nr rfl
theorem turn_fr {C : List Fn} {k n r a b : Nat} {ns : List Int} {rest : Env} (h : TurnOk n C r) (hk : n ≤ k) (ha : a ≤ 100) (hb : b ≤ 100) (s : Dr) (z : Sl) : ∃ (s' : Dr) (z' : Sl), exS (fcOf C) (callF C k) (.fr (.nm 2) (turnI (a : Int) (b : Int)) (turnB r)) (.sh (.scr ns) :: .ow s.d :: z :: rest) = .ok .nx (.sh (.scr ns) :: .ow s'.d :: z' :: rest) := by
  obtain ⟨q, e⟩ := fr_ix (S := Dr × Sl) (fc := fcOf C) (call := callF C k) (t := .nm 2) (b := turnB r) (fun (j : Nat) => D.int (j : Int)) (a + min ns.length b) (fun _ q => .sh (.scr ns) :: .ow q.1.d :: q.2 :: rest) (fun j hj q => by
    obtain ⟨s', e⟩ := h.2 k hk q.1
    refine ⟨(s', .sh (.int (j : Int))), ?_⟩
    simp? [frT, turnB, h.1, e]) (s, z)
  refine ⟨q.1, q.2, fr_st ?_ e⟩
  exact vR1 (by simp? [biLenS, biMin2]) (by omega)
end Lv
namespace Lv
open PySem
def Ok_law59 (C : List Fn) (i : Nat) : Prop := ∀ k, 10 ≤ k → ∀ ns : List Int, ns.length ≤ 63 → (∀ z ∈ ns, Builtin.Int.intBits z ≤ 1048576) → ∃ outs, callF C k i [.sh (.scr ns)] = .ret (.sh (.bl true)) outs
theorem fair59 : ramA plainL 1 4 = 0 ∧ ramA plainL 2 4 = -2 ∧ ramA plainL 3 4 = 0 ∧ ramA plainL 4 4 = 2 ∧ ramA ownL 1 4 = -1 ∧ ramA ownL 2 4 = -1 ∧ ramA ownL 3 4 = -1 ∧ ramA ownL 4 4 = 3 := by decide +kernel
theorem ok_law59 {C : List Fn} {i a b c : Nat} (h : C[i]? = some (F_law_v2 a b c)) (h1 : Ok__law_begun C a) (h2 : Ok_right59 C b) (h3 : Ok_ramanujan C c) : Ok_law59 C i := by
  intro k hk
  obtain ⟨k, rfl⟩ : ∃ j, k = j + 1 := ⟨k - 1, by omega⟩
  intro ns hl hb
  obtain ⟨w, c1⟩ := h1.2 k (by omega) ns hl hb
  have c1 : callF C k a [.sh (.scr ns)] = .ret (.ow (Dr.d ⟨w, ns, 0, by omega⟩)) [.sh (.scr ns)] := c1
  generalize (⟨w, ns, 0, by omega⟩ : Dr) = s at c1
  obtain ⟨s', z', e⟩ := turn_fr (C := C) (k := k) (n := 9) (r := b) (a := 5) (b := 10) (ns := ns) (rest := [.un, .un, .un]) h2 (by omega) (by decide) (by decide) s .un
  have e' : exS (fcOf C) (callF C k) (S_law_v21 b) [.sh (.scr ns), .ow s.d, .un, .un, .un, .un] = .ok .nx [.sh (.scr ns), .ow s'.d, z', .un, .un, .un] := e
  obtain ⟨f1, f2, f3, f4, f5, f6, f7, f8⟩ := fair59
  refine ⟨_, callF_of h rfl (v := .sh (.bl true)) (ρ1 := [.sh (.scr ns), .ow s'.d, z', .sh (lawD plainL), .sh (lawD ownL), .un]) ?_ rfl⟩
  show exL _ _ (.cons _ _) [.sh (.scr ns), .un, .un, .un, .un, .un] = _
  simp?! [h1.1, c1]
  refine exL_to e' ?_
  refine exL_to (ρ1 := [.sh (.scr ns), .ow s'.d, z', .sh (lawD plainL), .sh (lawD ownL), .un]) ?_ ?_
  · simp? [mulTup (ds := [.int ((1 : Nat) : Int)]) (n := 6) (by decide) (by decide) (by decide) rfl, mulTup (ds := [.int ((1 : Nat) : Int)]) (n := 4) (by decide) (by decide) (by decide) rfl]
    rfl
  have q : ∀ (L : List (List Nat)), LawG L → ∀ e0 e1 : Sl, ∀ (v : Nat) (hv : (v = 3 ∧ e0 = .sh (lawD L)) ∨ (v = 4 ∧ e1 = .sh (lawD L))), True := fun _ _ _ _ _ _ => trivial
  have e21 : evE (fcOf C) (callF C k) (C_law_v21 c) [.sh (.scr ns), .ow s'.d, z', .sh (lawD plainL), .sh (lawD ownL), .un] = .ok (.ow (.lst ((List.range 4).map fun (j : Nat) => .int (ramA plainL (1 + j) 4)))) [.sh (.scr ns), .ow s'.d, z', .sh (lawD plainL), .sh (lawD ownL), .un] :=
    lc_m0 (fun (j : Nat) => D.int ((1 + j : Nat) : Int)) (fun j => .int (ramA plainL (1 + j) 4)) (fun j => .sh (.int (ramA plainL (1 + j) 4))) (fun (x : Nat) => [.sh (.scr ns), .ow s'.d, z', .sh (lawD plainL), .sh (lawD ownL), .sh (.int ((1 + x : Nat) : Int))]) (l := List.range 4) rfl rfl rfl
      (vR2m 1 5 4 (by omega) (by simp? []) (by simp? []) (by omega)) (fun x hx => rfl) (fun x => rfl) (fun x hx => by
        have x2 := List.mem_range.mp hx
        have pg := plainG
        simp? [E_law_v21, h3.1, h3.2]) (fun x => .inl rfl) (by simp)
  have e22 : evE (fcOf C) (callF C k) (C_law_v22 c) [.sh (.scr ns), .ow s'.d, z', .sh (lawD plainL), .sh (lawD ownL), .un] = .ok (.ow (.lst ((List.range 4).map fun (j : Nat) => .int (ramA ownL (1 + j) 4)))) [.sh (.scr ns), .ow s'.d, z', .sh (lawD plainL), .sh (lawD ownL), .un] :=
    lc_m0 (fun (j : Nat) => D.int ((1 + j : Nat) : Int)) (fun j => .int (ramA ownL (1 + j) 4)) (fun j => .sh (.int (ramA ownL (1 + j) 4))) (fun (x : Nat) => [.sh (.scr ns), .ow s'.d, z', .sh (lawD plainL), .sh (lawD ownL), .sh (.int ((1 + x : Nat) : Int))]) (l := List.range 4) rfl rfl rfl
      (vR2m 1 5 4 (by omega) (by simp? []) (by simp? []) (by omega)) (fun x hx => rfl) (fun x => rfl) (fun x hx => by
        have x2 := List.mem_range.mp hx
        have pg := ownG
        simp? [E_law_v22, h3.1, h3.2]) (fun x => .inl rfl) (by simp)
  have w1 : ((List.range 4).map fun (j : Nat) => D.int (ramA plainL (1 + j) 4)) = [.int 0, .int (-2), .int 0, .int 2] := by
    show [D.int (ramA plainL 1 4), D.int (ramA plainL 2 4), D.int (ramA plainL 3 4), D.int (ramA plainL 4 4)] = _
    rw [f1, f2, f3, f4]
  have w2 : ((List.range 4).map fun (j : Nat) => D.int (ramA ownL (1 + j) 4)) = [.int (-1), .int (-1), .int (-1), .int 3] := by
    show [D.int (ramA ownL 1 4), D.int (ramA ownL 2 4), D.int (ramA ownL 3 4), D.int (ramA ownL 4 4)] = _
    rw [f5, f6, f7, f8]
  obtain ⟨x1, hx1⟩ : ∃ x1 : List D, x1 = [.int 0, .int (-2), .int 0, .int 2] := ⟨_, rfl⟩
  obtain ⟨x2, hx2⟩ : ∃ x2 : List D, x2 = [.int (-1), .int (-1), .int (-1), .int 3] := ⟨_, rfl⟩
  rw [w1, ← hx1] at e21
  rw [w2, ← hx2] at e22
  have d1 : deq (.lst x1) (.lst [.int ((0 : Nat) : Int), .int (-((2 : Nat) : Int)), .int ((0 : Nat) : Int), .int ((2 : Nat) : Int)]) = some true := by rw [hx1]; kernel_rfl
  have d2 : deq (.lst x2) (.lst [.int (-((1 : Nat) : Int)), .int (-((1 : Nat) : Int)), .int (-((1 : Nat) : Int)), .int ((3 : Nat) : Int)]) = some true := by rw [hx2]; kernel_rfl
  simp_all? [e21, e22, cmpEq, d1, d2]
end Lv
namespace Lv
open PySem PySem.Spec PyProof.Rows L2
structure Pm where
  K : PySem.W.Frag
  fa : Nat → Addr
  ca : Nat → Addr
def ScrAt (K : PySem.W.Frag) (H : Hp) (a : Addr) (xs : List V) : Prop := (∃ o, H a = some (.frz o (.lst xs))) ∨ ∀ G : Hp, SqL K G a xs
theorem ScrAt.seq {K : PySem.W.Frag} {H : Hp} {a : Addr} {xs : List V} (h : ScrAt K H a xs) : SqL K H a xs := h.elim (fun ⟨o, e⟩ => .inl (.inr ⟨o, e⟩)) fun h => h H
mutual
inductive Rep (p : Pm) (H : Hp) (A : Addr → Prop) : D → V → Prop
  | non : Rep p H A .non .non
  | bl (b : Bool) : Rep p H A (.bl b) (.bl b)
  | int (i : Int) : Rep p H A (.int i) (.int i)
  | str (x : Str) : Rep p H A (.str x) (.str x)
  | fn (i : Nat) : Rep p H A (.fn i) (.ref (p.fa i))
  | tup {a : Addr} {xs : List V} {ds : List D} : SqT p.K H a xs → Reps p H A ds xs → Rep p H A (.tup ds) (.ref a)
  | scr {a : Addr} {ns : List Int} : ScrAt p.K H a (ns.map .int) → Rep p H A (.scr ns) (.ref a)
  | lst {a : Addr} {xs : List V} {ds : List D} : H a = some (.lst xs) → A a → Reps p H A ds xs → Rep p H A (.lst ds) (.ref a)
  | dk {a : Addr} {ks : List (Key × V)} {ds : List (D × D)} : Rd H a (.dK ks) → A a → Repk p H A ds ks → Rep p H A (.dic ds) (.ref a)
inductive Reps (p : Pm) (H : Hp) (A : Addr → Prop) : List D → List V → Prop
  | nil : Reps p H A [] []
  | cons {d : D} {ds : List D} {v : V} {vs : List V} : Rep p H A d v → Reps p H A ds vs → Reps p H A (d :: ds) (v :: vs)
inductive Repk (p : Pm) (H : Hp) (A : Addr → Prop) : List (D × D) → List (Key × V) → Prop
  | nil : Repk p H A [] []
  | cons {x d : D} {ds : List (D × D)} {k : Key} {v : V} {ks : List (Key × V)} : x.ky = some k → Rep p H A d v → Repk p H A ds ks → Repk p H A ((x, d) :: ds) ((k, v) :: ks)
end
section
variable {p : Pm} {H H' : Hp} {A A' : Addr → Prop}
structure Keeps (p : Pm) (H H' : Hp) (A A' : Addr → Prop) : Prop where
  rd : ∀ a u, A a → Rd H a u → (∀ xs, u ≠ .tup xs) → Rd H' a u ∧ A' a
  tp : ∀ a xs, SqT p.K H a xs → SqT p.K H' a xs
  ls : ∀ a xs, A a → H a = some (.lst xs) → H' a = some (.lst xs) ∧ A' a
  sc : ∀ a xs, ScrAt p.K H a xs → ScrAt p.K H' a xs
mutual
theorem Rep.keep (k : Keeps p H H' A A') : ∀ {d : D} {v : V}, Rep p H A d v → Rep p H' A' d v
  | _, _, .non => .non
  | _, _, .bl b => .bl b
  | _, _, .int i => .int i
  | _, _, .str x => .str x
  | _, _, .fn i => .fn i
  | _, _, .tup h r => .tup (k.tp _ _ h) (Reps.keep k r)
  | _, _, .scr h => .scr (k.sc _ _ h)
  | _, _, .lst h a r => .lst (k.ls _ _ a h).1 (k.ls _ _ a h).2 (Reps.keep k r)
  | _, _, .dk h a r => .dk (k.rd _ _ a h (fun _ z => nomatch z)).1 (k.rd _ _ a h (fun _ z => nomatch z)).2 (Repk.keep k r)
theorem Reps.keep (k : Keeps p H H' A A') : ∀ {d : List D} {v : List V}, Reps p H A d v → Reps p H' A' d v
  | _, _, .nil => .nil
  | _, _, .cons h r => .cons (Rep.keep k h) (Reps.keep k r)
theorem Repk.keep (k : Keeps p H H' A A') : ∀ {d : List (D × D)} {v : List (Key × V)}, Repk p H A d v → Repk p H' A' d v
  | _, _, .nil => .nil
  | _, _, .cons e h r => .cons e (Rep.keep k h) (Repk.keep k r)
end
theorem Keeps.mono (h : ∀ a, A a → A' a) : Keeps p H H A A' := ⟨fun _ _ a r _ => ⟨r, h _ a⟩, fun _ _ t => t, fun _ _ a r => ⟨r, h _ a⟩, fun _ _ h => h⟩
theorem Rd.there {a : Addr} {u : HO} (r : Rd H a u) : H a ≠ none := by
  rcases r with r | ⟨o, r⟩ <;> rw [r] <;> exact fun z => nomatch z
theorem Keeps.new {q : Addr} (h : H q = none) : Keeps p H H A (fun b => A b ∧ b ≠ q) :=
  ⟨fun _ _ a r _ => ⟨r, a, fun e => Rd.there r (e ▸ h)⟩, fun _ _ t => t, fun _ _ a r => ⟨r, a, ne_of_none r h⟩, fun _ _ h => h⟩
theorem Reps.length : ∀ {d : List D} {v : List V}, Reps p H A d v → d.length = v.length
  | _, _, .nil => rfl
  | _, _, .cons _ r => congrArg (· + 1) (Reps.length r)
theorem Reps.get : ∀ {ds : List D} {vs : List V} {i : Nat} {d : D}, Reps p H A ds vs → ds[i]? = some d → ∃ v, vs[i]? = some v ∧ Rep p H A d v
  | _, _, _, _, .nil, e => by simp at e
  | _, _, 0, _, .cons h _, e => by
    have e' := Option.some.inj e
    exact ⟨_, rfl, e' ▸ h⟩
  | _, _, i + 1, d, .cons _ r, e => by
    obtain ⟨v, h1, h2⟩ := Reps.get (i := i) (d := d) r (by simpa using e)
    exact ⟨v, by simpa using h1, h2⟩
theorem Reps.append : ∀ {ds es : List D} {vs ws : List V}, Reps p H A ds vs → Reps p H A es ws → Reps p H A (ds ++ es) (vs ++ ws)
  | _, _, _, _, .nil, s => s
  | _, _, _, _, .cons h r, s => .cons h (Reps.append r s)
theorem Reps.take : ∀ {ds : List D} {vs : List V} (n : Nat), Reps p H A ds vs → Reps p H A (ds.take n) (vs.take n)
  | _, _, 0, _ => .nil
  | _, _, _ + 1, .nil => .nil
  | _, _, n + 1, .cons h r => .cons h (Reps.take n r)
theorem Reps.drop : ∀ {ds : List D} {vs : List V} (n : Nat), Reps p H A ds vs → Reps p H A (ds.drop n) (vs.drop n)
  | _, _, 0, r => r
  | _, _, _ + 1, .nil => .nil
  | _, _, n + 1, .cons _ r => Reps.drop n r
theorem Reps.set {d : D} {v : V} (h : Rep p H A d v) : ∀ {ds : List D} {vs : List V} (n : Nat), Reps p H A ds vs → Reps p H A (ds.set n d) (vs.set n v)
  | _, _, _, .nil => .nil
  | _, _, 0, .cons _ r => .cons h r
  | _, _, n + 1, .cons g r => .cons g (Reps.set h n r)
end
def Own (σ : L2.St) (ρ : Env) (a : Addr) : Prop := ∃ i d, slot ρ i = .ow d ∧ σ[i]? = some (some (.ref a))
def Av (W : Addr → Prop) (σ : L2.St) (ρ : Env) (a : Addr) : Prop := ¬ W a ∧ ¬ Own σ ρ a
def Top (p : Pm) (H : Hp) (A : Addr → Prop) (d : D) (a : Addr) : Prop := match d with
  | .lst ds => ∃ xs, H a = some (.lst xs) ∧ Reps p H A ds xs
  | .dic ds => ∃ ks, H a = some (.dK ks) ∧ Repk p H A ds ks
  | _ => False
structure Good (p : Pm) (H : Hp) (W : Addr → Prop) (σ : L2.St) (ρ : Env) : Prop where
  len : ρ.length = σ.length
  wt : ∀ a, W a → H a ≠ none
  sh : ∀ i d, slot ρ i = .sh d → ∃ v, σ[i]? = some (some v) ∧ Rep p H (Av W σ ρ) d v
  ow : ∀ i d, slot ρ i = .ow d → ∃ a, σ[i]? = some (some (.ref a)) ∧ ¬ W a ∧ Top p H (Av W σ ρ) d a
  inj : ∀ i j d e a, slot ρ i = .ow d → slot ρ j = .ow e → σ[i]? = some (some (.ref a)) → σ[j]? = some (some (.ref a)) → i = j
def Wv (W : Addr → Prop) (v : Vl) (u : V) : Addr → Prop := fun b => W b ∨ ((∃ d, v = .ow d) ∧ u = .ref b)
def VR (p : Pm) (H₀ : Hp) (W : Addr → Prop) (σ : L2.St) (ρ : Env) (H : Hp) (v : Vl) (u : V) : Prop := match v with
  | .sh d => Rep p H (Av W σ ρ) d u
  | .ow d => ∃ a, u = .ref a ∧ H₀ a = none ∧ Top p H (fun b => Av W σ ρ b ∧ b ≠ a) d a
  | .sl i => σ[i]? = some (some u)
structure Post (p : Pm) (H : Hp) (W : Addr → Prop) (σ : L2.St) (ρ : Env) (v : Vl) (ρ' : Env) (u : V) (H' : Hp) : Prop where
  ext : ∀ b o, H b = some o → ¬ Own σ ρ b → H' b = some o
  trk : ∀ b, H' b = none → H b = none
  sub : ∀ a, Own σ ρ' a → Own σ ρ a
  good : Good p H' (Wv W v u) σ ρ'
  vr : VR p H W σ ρ' H' v u
structure PostE (p : Pm) (H : Hp) (W : Addr → Prop) (σ : L2.St) (ρ ρ' : Env) (H' : Hp) : Prop where
  ext : ∀ b o, H b = some o → ¬ Own σ ρ b → H' b = some o
  trk : ∀ b, H' b = none → H b = none
  sub : ∀ a, Own σ ρ' a → Own σ ρ a
  good : Good p H' W σ ρ'
section
variable {p : Pm} {H H' H1 H2 : Hp} {A A' W W' : Addr → Prop} {σ : L2.St} {ρ ρ' ρ1 ρ2 : Env} {d : D} {a : Addr} {v w : Vl} {u u1 : V}
theorem Top.keep (k : Keeps p H H' A A') (e : ∀ o, H a = some o → H' a = some o) (t : Top p H A d a) : Top p H' A' d a := by
  cases d with
  | lst ds => obtain ⟨xs, h, r⟩ := t; exact ⟨xs, e _ h, r.keep k⟩
  | dic ds =>
    obtain ⟨ks, h, r⟩ := t
    exact ⟨ks, e _ h, r.keep k⟩
  | _ => exact t.elim
theorem Top.there (t : Top p H A d a) : ∃ o, H a = some o ∧ (∀ xs, o ≠ .tup xs) ∧ (∀ ob u, o ≠ .frz ob u) ∧ L2.Mut (some o) := by
  cases d with
  | lst ds => obtain ⟨xs, h, r⟩ := t; exact ⟨_, h, (fun _ z => by cases z), (fun _ _ z => by cases z), trivial⟩
  | dic ds =>
    obtain ⟨ks, h, r⟩ := t
    exact ⟨_, h, (fun _ z => by cases z), (fun _ _ z => by cases z), trivial⟩
  | _ => exact t.elim
theorem Top.mono (h : ∀ b, A b → A' b) (t : Top p H A d a) : Top p H A' d a := t.keep (.mono h) fun _ e => e
theorem Good.own (g : Good p H W σ ρ) (o : Own σ ρ a) : ¬ W a ∧ ∃ d, Top p H (Av W σ ρ) d a := by
  obtain ⟨i, d, e, es⟩ := o
  obtain ⟨b, eb, nw, t⟩ := g.ow i d e
  rw [es] at eb
  cases eb
  exact ⟨nw, d, t⟩
theorem Good.own_there (g : Good p H W σ ρ) (o : Own σ ρ a) : H a ≠ none := by
  obtain ⟨_, d, t⟩ := g.own o
  obtain ⟨o, e, _⟩ := t.there
  rw [e]
  exact fun z => nomatch z
theorem Good.tup (g : Good p H W σ ρ) {xs : List V} (h : Rd H a (.tup xs)) : ¬ Own σ ρ a := fun o => by
  obtain ⟨_, d, t⟩ := g.own o
  obtain ⟨o, e, nt, nf, _⟩ := t.there
  rcases h with h | ⟨ob, h⟩
  · rw [e] at h; exact nt _ (Option.some.inj h)
  · rw [e] at h; exact nf _ _ (Option.some.inj h)
theorem Good.keeps (g : Good p H W σ ρ) (ext : ∀ b o, H b = some o → ¬ Own σ ρ b → H' b = some o) (hA : ∀ b, A b → ¬ Own σ ρ b) (hAA : ∀ b, A b → A' b) : Keeps p H H' A A' where
  rd := fun b u hb r _ => ⟨by
    rcases r with r | ⟨o, r⟩
    · exact .inl (ext _ _ r (hA b hb))
    · exact .inr ⟨o, ext _ _ r (hA b hb)⟩, hAA b hb⟩
  tp := fun b xs h => by
    rcases h with h | h
    · have n := g.tup h
      rcases h with h | ⟨o, h⟩
      · exact .inl (.inl (ext _ _ h n))
      · exact .inl (.inr ⟨o, ext _ _ h n⟩)
    · exact .inr h
  ls := fun b xs hb h => ⟨ext _ _ h (hA b hb), hAA b hb⟩
  sc := fun b xs h => by
    rcases h with ⟨o, h⟩ | h
    · refine .inl ⟨o, ext _ _ h fun z => ?_⟩
      obtain ⟨_, d, t⟩ := g.own z
      obtain ⟨o', e, _, nf, _⟩ := t.there
      rw [e] at h
      exact nf _ _ (Option.some.inj h)
    · exact .inr h
theorem Good.less (g : Good p H W σ ρ) (h : ∀ b, W' b → W b) : Good p H W' σ ρ where
  len := g.len
  wt := fun b w => g.wt b (h b w)
  sh := fun i d e => by
    obtain ⟨v, es, r⟩ := g.sh i d e
    exact ⟨v, es, r.keep (.mono fun b ⟨x, y⟩ => ⟨fun w => x (h b w), y⟩)⟩
  ow := fun i d e => by
    obtain ⟨b, es, nw, t⟩ := g.ow i d e
    exact ⟨b, es, fun w => nw (h b w), t.mono fun b ⟨x, y⟩ => ⟨fun w => x (h b w), y⟩⟩
  inj := g.inj
theorem Good.laid {q : Addr} {o : HO} (g : Good p H W σ ρ) (n : H q = none) : Good p (upd H q o) (fun b => W b ∨ b = q) σ ρ := by
  have ext : ∀ b u, H b = some u → ¬ Own σ ρ b → upd H q o b = some u := fun b u e _ => by rw [upd_ne (ne_of_none e n)]; exact e
  have k : Keeps p H (upd H q o) (fun b => Av W σ ρ b ∧ b ≠ q) (Av (fun b => W b ∨ b = q) σ ρ) :=
    g.keeps ext (fun b h => h.1.2) fun b h => ⟨fun z => z.elim h.1.1 h.2, h.1.2⟩
  refine ⟨g.len, fun b w z => ?_, fun i d e => ?_, fun i d e => ?_, g.inj⟩
  · rcases w with w | w
    · have := g.wt b w
      cases hb : H b with
      | none => exact this hb
      | some u => rw [upd_ne (ne_of_none hb n), hb] at z; cases z
    · rw [w, upd_same] at z; cases z
  · obtain ⟨v, es, r⟩ := g.sh i d e
    exact ⟨v, es, (r.keep (Keeps.new n)).keep k⟩
  · obtain ⟨b, es, nw, t⟩ := g.ow i d e
    have bq : b ≠ q := by
      obtain ⟨o, e, _⟩ := t.there
      exact ne_of_none e n
    refine ⟨b, es, fun z => z.elim nw bq, ?_⟩
    refine (t.keep (Keeps.new n) fun _ e => e).keep k fun o e => ?_
    rw [upd_ne bq]; exact e
theorem Av.less (h : ∀ b, W' b → W b) (hs : ∀ b, Own σ ρ' b → Own σ ρ b) : ∀ b, Av W σ ρ b → Av W' σ ρ' b := fun b ⟨x, y⟩ => ⟨fun w => x (h b w), fun o => y (hs b o)⟩
theorem VR.step {H₀ : Hp} (x : VR p H₀ W σ ρ1 H1 v u) (g : Good p H1 (Wv W v u) σ ρ1) (q : PostE p H1 (Wv W v u) σ ρ1 ρ2 H2) : VR p H₀ W σ ρ2 H2 v u := by
  cases v with
  | sh d => exact Rep.keep (g.keeps q.ext (fun b h => h.2) (Av.less (fun _ w => w) q.sub)) x
  | ow d =>
    obtain ⟨a, e, n, t⟩ := x
    have na : ¬ Own σ ρ1 a := fun o => (g.own o).1 (.inr ⟨⟨d, rfl⟩, e⟩)
    refine ⟨a, e, n, t.keep (g.keeps q.ext (fun b h => h.1.2) fun b h => ⟨Av.less (fun _ w => w) q.sub b h.1, h.2⟩) fun o h => q.ext _ _ h na⟩
  | sl i => exact x
theorem Post.e (q : Post p H W σ ρ v ρ' u H') : PostE p H W σ ρ ρ' H' := ⟨q.ext, q.trk, q.sub, q.good.less fun _ w => .inl w⟩
theorem PostE.trans (x : PostE p H W σ ρ ρ1 H1) (y : PostE p H1 W' σ ρ1 ρ2 H2) (h : ∀ b, W b → W' b) : PostE p H W σ ρ ρ2 H2 :=
  ⟨fun b o e n => y.ext b o (x.ext b o e n) fun z => n (x.sub b z), fun b e => x.trk b (y.trk b e), fun b z => x.sub b (y.sub b z), y.good.less h⟩
theorem PostE.refl (g : Good p H W σ ρ) : PostE p H W σ ρ ρ H := ⟨fun _ _ e _ => e, fun _ e => e, fun _ o => o, g⟩
def Rd1 (p : Pm) (H : Hp) (A : Addr → Prop) (d : D) (u : V) : Prop := Rep p H A d u ∨ ∃ a, u = .ref a ∧ Top p H A d a
theorem VR.read {H₀ : Hp} (x : VR p H₀ W σ ρ H v u) (g : Good p H W σ ρ) (e : val ρ v = some d) : Rd1 p H (Av W σ ρ) d u := by
  cases v with
  | sh d' => cases e; exact .inl x
  | ow d' =>
    cases e
    obtain ⟨a, e, n, t⟩ := x
    exact .inr ⟨a, e, t.mono fun b h => h.1⟩
  | sl i =>
    have es : σ[i]? = some (some u) := x
    unfold val at e
    cases hs : slot ρ i with
    | un => simp only [hs] at e; cases e
    | ow d' =>
      simp only [hs] at e
      cases e
      obtain ⟨a, ea, nw, t⟩ := g.ow i d hs
      rw [es] at ea
      cases ea
      exact .inr ⟨a, rfl, t⟩
    | sh d' =>
      simp only [hs] at e
      cases e
      obtain ⟨z, ez, r⟩ := g.sh i d hs
      rw [es] at ez
      cases ez
      exact .inl r
end
end Lv
namespace Lv
open PySem PySem.Spec PyProof.Rows L2
section
variable {p : Pm} {H H' : Hp} {A A' W : Addr → Prop} {σ : L2.St} {ρ ρ' : Env} {d : D} {u z : V}
inductive Made (p : Pm) (H : Hp) (A : Addr → Prop) : D → V → Hp → Prop
  | same {d : D} {z : V} : Rep p H A d z → (∀ x, fresh d ≠ .ow x) → Made p H A d z H
  | tup {q : Addr} {ds : List D} {xs : List V} : H q = none → Reps p H A ds xs → Made p H A (.tup ds) (.ref q) (upd H q (.tup xs))
  | lst {q : Addr} {ds : List D} {xs : List V} : H q = none → Reps p H A ds xs → Made p H A (.lst ds) (.ref q) (upd H q (.lst xs))
  | dk {q : Addr} {ds : List (D × D)} {ks : List (Key × V)} : H q = none → Repk p H A ds ks → Made p H A (.dic ds) (.ref q) (upd H q (.dK ks))
theorem Keeps.laid {q : Addr} {o : HO} (h : H q = none) : Keeps p H (upd H q o) A (fun b => A b ∧ b ≠ q) where
  rd := fun b u a r _ => by
    have n : b ≠ q := fun e => Rd.there r (e ▸ h)
    refine ⟨?_, a, n⟩
    rcases r with r | ⟨o, r⟩
    · exact .inl (by rw [upd_ne n]; exact r)
    · exact .inr ⟨o, by rw [upd_ne n]; exact r⟩
  tp := fun b xs r => by
    rcases r with r | r
    · have n : b ≠ q := fun e => Rd.there r (e ▸ h)
      rcases r with r | ⟨o, r⟩
      · exact .inl (.inl (by rw [upd_ne n]; exact r))
      · exact .inl (.inr ⟨o, by rw [upd_ne n]; exact r⟩)
    · exact .inr r
  ls := fun b xs a r => by
    have n : b ≠ q := ne_of_none r h
    exact ⟨by rw [upd_ne n]; exact r, a, n⟩
  sc := fun b xs r => by
    rcases r with ⟨o, r⟩ | r
    · exact .inl ⟨o, by rw [upd_ne (ne_of_none r h)]; exact r⟩
    · exact .inr r
theorem PostE.laid {q : Addr} {o : HO} {ρ2 : Env} {H2 : Hp} (x : PostE p H W σ ρ ρ2 H2) (n : H2 q = none) : PostE p H W σ ρ ρ2 (upd H2 q o) where
  ext := fun b u e h => by rw [upd_ne (ne_of_none (x.ext b u e h) n)]; exact x.ext b u e h
  trk := fun b e => x.trk b (by
    by_cases hb : b = q
    · rw [hb, upd_same] at e; cases e
    · rw [upd_ne hb] at e; exact e)
  sub := x.sub
  good := (x.good.laid n).less fun b w => .inl w
theorem Wv.sh {d : D} {u : V} : Wv W (.sh d) u = W := by
  funext b
  exact propext ⟨fun h => h.elim id fun ⟨⟨_, e⟩, _⟩ => (nomatch e), .inl⟩
theorem Wv.sl {i : Nat} {u : V} : Wv W (.sl i) u = W := by
  funext b
  exact propext ⟨fun h => h.elim id fun ⟨⟨_, e⟩, _⟩ => (nomatch e), .inl⟩
theorem fresh_sh (h : ∀ x, fresh d ≠ .ow x) : fresh d = .sh d := by
  cases d <;> first | rfl | exact absurd rfl (h _)
theorem Made.post {ρ2 : Env} {H2 H3 : Hp} (x : PostE p H W σ ρ ρ2 H2) (m : Made p H2 (Av W σ ρ2) d z H3) : Post p H W σ ρ (fresh d) ρ2 z H3 := by
  cases m with
  | same r h =>
    rw [fresh_sh h]
    exact ⟨x.ext, x.trk, x.sub, by rw [Wv.sh]; exact x.good, r⟩
  | @tup q ds xs n r =>
    have y := x.laid (o := .tup xs) n
    refine ⟨y.ext, y.trk, y.sub, by show Good _ _ (Wv W (.sh _) _) _ _; rw [Wv.sh]; exact y.good, ?_⟩
    exact Rep.tup (.inl (.inl upd_same)) ((r.keep (Keeps.laid n)).keep (.mono fun b h => h.1))
  | @lst q ds xs n r =>
    have y := x.laid (o := .lst xs) n
    refine ⟨y.ext, y.trk, y.sub, (x.good.laid n).less fun b w => w.elim .inl fun ⟨_, e⟩ => .inr (by cases e; rfl), q, rfl, ?_, xs, upd_same, r.keep (Keeps.laid n)⟩
    exact x.trk q n
  | @dk q ds ks n r =>
    have y := x.laid (o := .dK ks) n
    exact ⟨y.ext, y.trk, y.sub, (x.good.laid n).less fun b w => w.elim .inl fun ⟨_, e⟩ => .inr (by cases e; rfl), q, rfl, x.trk q n, ks, upd_same, r.keep (Keeps.laid n)⟩
end
end Lv
namespace Lv
open PySem PySem.Spec PyProof.Rows L2
section
variable {p : Pm} {H H' : Hp} {A A' W : Addr → Prop} {σ : L2.St} {ρ ρ' : Env} {d : D} {u z : V}
theorem Rd1.int {i : Int} (h : Rd1 p H A (.int i) u) : u = .int i := by
  rcases h with h | ⟨a, _, h⟩
  · cases h; rfl
  · exact h.elim
theorem Rd1.bl {b : Bool} (h : Rd1 p H A (.bl b) u) : u = .bl b := by
  rcases h with h | ⟨a, _, h⟩
  · cases h; rfl
  · exact h.elim
theorem Rd1.str {b : Str} (h : Rd1 p H A (.str b) u) : u = .str b := by
  rcases h with h | ⟨a, _, h⟩
  · cases h; rfl
  · exact h.elim
theorem Rd1.non (h : Rd1 p H A .non u) : u = .non := by
  rcases h with h | ⟨a, _, h⟩
  · cases h; rfl
  · exact h.elim
theorem Rd1.tup {ds : List D} (h : Rd1 p H A (.tup ds) u) : ∃ a xs, u = .ref a ∧ SqT p.K H a xs ∧ Reps p H A ds xs := by
  rcases h with h | ⟨a, _, h⟩
  · cases h with
    | tup h r => exact ⟨_, _, rfl, h, r⟩
  · exact h.elim
theorem Rd1.lst {ds : List D} (h : Rd1 p H A (.lst ds) u) : ∃ a xs, u = .ref a ∧ H a = some (.lst xs) ∧ Reps p H A ds xs := by
  rcases h with h | ⟨a, e, h⟩
  · cases h with
    | lst h _ r => exact ⟨_, _, rfl, h, r⟩
  · obtain ⟨xs, h, r⟩ := h
    exact ⟨a, xs, e, h, r⟩
theorem Rd1.scr {ns : List Int} (h : Rd1 p H A (.scr ns) u) : ∃ a, u = .ref a ∧ SqL p.K H a (ns.map .int) := by
  rcases h with h | ⟨a, e, h⟩
  · cases h with
    | scr h => exact ⟨_, rfl, h.seq⟩
  · exact h.elim
theorem Rd1.dic {ds : List (D × D)} (h : Rd1 p H A (.dic ds) u) : ∃ a ks, u = .ref a ∧ Rd H a (.dK ks) ∧ Repk p H A ds ks := by
  rcases h with h | ⟨a, e, h⟩
  · cases h with
    | dk h _ r => exact ⟨_, _, rfl, h, r⟩
  · obtain ⟨ks, h, r⟩ := h
    exact ⟨a, ks, e, .inl h, r⟩
mutual
theorem Rep.dp : ∀ {d : D} {v : V} {y : PyData}, Rep p H A d v → d.py = some y → Dp p.K H v y
  | _, _, _, .non, e => by cases e; exact .non
  | _, _, _, .bl b, e => by cases e; exact .bl b
  | _, _, _, .int i, e => by cases e; exact .int i
  | _, _, _, .str x, e => by cases e; exact .str x
  | _, _, _, .tup (ds := ds) h r, e => by
    unfold D.py at e
    cases q : D.py.pys ds with
    | none => rw [q] at e; cases e
    | some ys => rw [q] at e; cases e; exact .tup h (Reps.dp r q)
  | _, _, _, .lst (ds := ds) h _ r, e => by
    unfold D.py at e
    cases q : D.py.pys ds with
    | none => rw [q] at e; cases e
    | some ys => rw [q] at e; cases e; exact .lst (.inl (.inl h)) (Reps.dp r q)
  | _, _, _, .fn i, e => by cases e
  | _, _, _, .scr _, e => by cases e
  | _, _, _, .dk _ _ _, e => by cases e
theorem Reps.dp : ∀ {d : List D} {v : List V} {y : List PyData}, Reps p H A d v → D.py.pys d = some y → DpAll p.K H v y
  | _, _, _, .nil, e => by cases e; exact .nil
  | _, _, _, .cons (d := d) (ds := ds) h r, e => by
    unfold D.py.pys at e
    cases q : d.py with
    | none => rw [q] at e; cases e
    | some y =>
      cases q2 : D.py.pys ds with
      | none => rw [q, q2] at e; cases e
      | some ys => rw [q, q2] at e; cases e; exact .cons (Rep.dp h q) (Reps.dp r q2)
end
theorem Rd1.dp {y : PyData} (h : Rd1 p H A d u) (e : d.py = some y) : Dp p.K H u y := by
  rcases h with h | ⟨a, ea, h⟩
  · exact h.dp e
  · cases d with
    | lst ds =>
      obtain ⟨xs, hx, r⟩ := h
      unfold D.py at e
      cases q : D.py.pys ds with
      | none => rw [q] at e; cases e
      | some ys => rw [q] at e; cases e; rw [ea]; exact .lst (.inl (.inl hx)) (r.dp q)
    | dic ds => cases e
    | _ => exact h.elim
end
section
variable {X : L2.Cx} {p : Pm}
def opOf : Bop → Operator
  | .add => .Add | .sub => .Sub | .mul => .Mult | .fdiv => .FloorDiv | .mod => .Mod | .pow => .Pow
def cmpOf : Cop → CmpOp
  | .eq => .Eq | .ne => .NotEq | .lt => .Lt | .le => .LtE | .gt => .Gt | .ge => .GtE | .isin => .In | .notin => .NotIn | .is => .Is | .isnot => .IsNot
def rB (p : Pm) (f : D → D → Option D) : R2 := fun x y H Q => ∃ A dx dy d, Rd1 p H A dx x ∧ Rd1 p H A dy y ∧ f dx dy = some d ∧ ∀ z H', Made p H A d z H' → Q z H'
theorem fits_le {n : Nat} (h : fits n = true) : n ≤ sizeLine := by
  rw [sizeLine_eq]; exact of_decide_eq_true h
theorem mulOk_ok {i j : Int} (h : mulOk i j = true) : IntMulOk i j := by
  unfold IntMulOk
  intro z
  unfold mulOk at h
  rw [Bool.not_eq_true'] at h
  have e : ∀ b : Nat, Builtin.Int.intTooBig (b : Int) = decide (b > 134217728) := fun b => by
    unfold Builtin.Int.intTooBig
    rw [bitsLine_eq]
    by_cases hb : b > 134217728
    · rw [decide_eq_true hb]; exact decide_eq_true (by omega)
    · rw [decide_eq_false hb]; exact decide_eq_false (by omega)
  have z' : (decide (ibits i > 64) && decide (ibits j > 64) && decide (ibits i + ibits j > 134217728)) = true := by
    have z1 := z
    rw [show ((Builtin.Int.intBits i : Int) + (Builtin.Int.intBits j : Int)) = ((Builtin.Int.intBits i + Builtin.Int.intBits j : Nat) : Int) by omega, e] at z1
    rw [shortFactorBits_eq] at z1
    exact z1
  rw [z'] at h
  cases h
theorem reps_ne {H : Hp} {A : Addr → Prop} {ds : List D} {vs : List V} (r : Reps p H A ds vs) : ds = [] ↔ vs = [] := by
  cases r with
  | nil => exact ⟨fun _ => rfl, fun _ => rfl⟩
  | cons _ _ => exact ⟨fun e => (nomatch e), fun e => (nomatch e)⟩
theorem reps_flat {H : Hp} {A : Addr → Prop} {ds : List D} {vs : List V} (r : Reps p H A ds vs) : ∀ n, Reps p H A (List.replicate n ds).flatten (List.replicate n vs).flatten
  | 0 => .nil
  | n + 1 => by
    rw [List.replicate_succ, List.replicate_succ, List.flatten_cons, List.flatten_cons]
    exact r.append (reps_flat r n)
theorem opR_bop (hK : p.K = X.K) (o : Bop) : OpR X (binaryOp (opOf o)) (rB p (bop o)) := by
  intro pins s σ H x y v u Q I rx ry ⟨A, dx, dy, d, hx, hy, e, q⟩
  unfold bop at e
  split at e
  case h_1 i j =>
    cases e
    exact op_add pins s σ H x y v u Q I rx ry ⟨i, j, hx.int, hy.int, q _ _ (.same (.int _) fun _ z => nomatch z)⟩
  case h_2 i j =>
    split at e
    · rename_i hf
      cases e
      exact op_add_str pins s σ H x y v u Q I rx ry ⟨i, j, hx.str, hy.str, fits_le hf, q _ _ (.same (.str _) fun _ z => nomatch z)⟩
    · cases e
  case h_3 xs ys =>
    split at e
    · rename_i hf
      cases e
      obtain ⟨a, vs, rfl, h1, r1⟩ := hx.lst
      obtain ⟨b, ws, rfl, h2, r2⟩ := hy.lst
      exact op_cat pins s σ H _ _ v u Q I rx ry ⟨a, b, vs, ws, rfl, rfl, h1, h2, by rw [← r1.length, ← r2.length]; exact fits_le hf, fun q' n => q _ _ (.lst n (r1.append r2))⟩
    · cases e
  case h_4 xs ys =>
    split at e
    · rename_i hf
      cases e
      obtain ⟨a, vs, rfl, h1, r1⟩ := hx.tup
      obtain ⟨b, ws, rfl, h2, r2⟩ := hy.tup
      refine op_catA pins s σ H _ _ v u Q I rx ry ⟨a, b, vs, ws, rfl, rfl, hK ▸ h1, hK ▸ h2, by rw [← r1.length, ← r2.length]; exact fits_le hf, fun e1 => ?_, fun e1 e2 => ?_, fun _ _ q' n => q _ _ (.tup n (r1.append r2))⟩
      · have := (reps_ne r1).mpr e1
        subst this
        exact q _ _ (.same (.tup h2 r2) fun _ z => nomatch z)
      · have := (reps_ne r2).mpr e2
        subst this
        rw [List.append_nil] at q
        exact q _ _ (.same (.tup h1 r1) fun _ z => nomatch z)
    · cases e
  case h_5 i j =>
    cases e
    exact op_sub pins s σ H x y v u Q I rx ry ⟨i, j, hx.int, hy.int, q _ _ (.same (.int _) fun _ z => nomatch z)⟩
  case h_6 i j =>
    split at e
    · rename_i hf
      cases e
      have e1 := hx.int
      have e2 := hy.int
      subst e1 e2
      obtain ⟨t, rfl⟩ := rx
      obtain ⟨t', rfl⟩ := ry
      exact mul_int ⟨.int (i * j), H, I.tok _, ⟨_, rfl⟩, q _ _ (.same (.int _) fun _ z => nomatch z)⟩ (mulOk_ok hf)
    · cases e
  case h_7 xs k =>
    split at e
    · rename_i hf
      cases e
      simp only [Bool.and_eq_true, decide_eq_true_eq, Bool.not_eq_true'] at hf
      obtain ⟨⟨⟨h2, h3⟩, h4⟩, h5⟩ := hf
      obtain ⟨a, vs, rfl, h1, r1⟩ := hx.tup
      have nv : vs ≠ [] := fun z => by
        have := (reps_ne r1).mpr z
        subst this
        cases h5
      exact op_repT pins s σ H _ _ v u Q I rx ry ⟨a, k, vs, rfl, hy.int, hK ▸ h1, nv, h2, h3, by rw [← r1.length]; exact h4, fun q' n => q _ _ (.tup n (reps_flat r1 _))⟩
    · cases e
  case h_8 xs k =>
    split at e
    · rename_i hf
      cases e
      simp only [Bool.and_eq_true, decide_eq_true_eq] at hf
      obtain ⟨⟨h2, h3⟩, h4⟩ := hf
      obtain ⟨a, vs, rfl, h1, r1⟩ := hx.lst
      exact op_rep pins s σ H _ _ v u Q I rx ry ⟨a, k, vs, rfl, hy.int, h1, h2, h3, by rw [← r1.length]; exact fits_le h4, fun q' n => q _ _ (.lst n (reps_flat r1 _))⟩
    · cases e
  case h_9 i j =>
    split at e
    · rename_i hf
      cases e
      simp only [Bool.and_eq_true, decide_eq_true_eq, Bool.not_eq_true'] at hf
      have e1 := hx.int
      have e2 := hy.int
      subst e1 e2
      obtain ⟨t, rfl⟩ := rx
      obtain ⟨t', rfl⟩ := ry
      exact floordiv_int hf.1 ⟨.int _, H, I.tok _, ⟨_, rfl⟩, q _ _ (.same (.int _) fun _ z => nomatch z)⟩ (.inl hf.2)
    · cases e
  case h_10 i j =>
    split at e
    · rename_i hf
      cases e
      have hf' := of_decide_eq_true hf
      have e1 := hx.int
      have e2 := hy.int
      subst e1 e2
      obtain ⟨t, rfl⟩ := rx
      obtain ⟨t', rfl⟩ := ry
      exact mod_int' hf' ⟨.int _, H, I.tok _, ⟨_, rfl⟩, q _ _ (.same (.int _) fun _ z => nomatch z)⟩
    · cases e
  case h_11 i j =>
    split at e
    · rename_i hf
      cases e
      simp only [Bool.and_eq_true, decide_eq_true_eq] at hf
      exact op_pow pins s σ H x y v u Q I rx ry ⟨i, j, hx.int, hy.int, ⟨hf.1.1, hf.1.2, hf.2⟩, q _ _ (.same (.int _) fun _ z => nomatch z)⟩
    · cases e
  case h_12 => cases e
end
end Lv
namespace Lv
open PySem PySem.Spec PyProof.Rows L2
section
variable {p : Pm} {H H' : Hp} {A A' W : Addr → Prop} {d : D} {u z : V}
theorem repk_look {k : Key} : ∀ {ds : List (D × D)} {ks : List (Key × V)}, Repk p H A ds ks → (∀ d, dlook k ds = some d → ∃ v, valV ks k = some v ∧ Rep p H A d v) ∧ (dlook k ds = none → valV ks k = none)
  | _, _, .nil => ⟨fun d e => (nomatch e), fun _ => rfl⟩
  | _, _, .cons (x := x) (d := d) (ds := ds) (k := k') (v := v) (ks := ks) ek h r => by
    obtain ⟨i1, i2⟩ := repk_look (k := k) r
    by_cases e : k' = k
    · have e1 : dlook k ((x, d) :: ds) = some d := by unfold dlook; rw [if_pos (by rw [ek, e])]
      have e2 : valV ((k', v) :: ks) k = some v := by
        unfold valV
        rw [List.find?_cons_of_pos (by simpa using e)]
        rfl
      refine ⟨fun d' q => ?_, fun q => ?_⟩
      · rw [e1] at q
        cases q
        exact ⟨v, e2, h⟩
      · rw [e1] at q; cases q
    · have e1 : dlook k ((x, d) :: ds) = dlook k ds := by
        rw [show dlook k ((x, d) :: ds) = if x.ky = some k then some d else dlook k ds from rfl]
        rw [if_neg (by rw [ek]; exact fun q => e (Option.some.inj q))]
      have e2 : valV ((k', v) :: ks) k = valV ks k := by
        unfold valV
        rw [List.find?_cons_of_neg (by simpa using e)]
      rw [e1, e2]
      exact ⟨i1, i2⟩
theorem repk_some {k : Key} {ds : List (D × D)} {ks : List (Key × V)} (r : Repk p H A ds ks) : (dlook k ds).isSome = (valV ks k).isSome := by
  obtain ⟨h1, h2⟩ := repk_look (k := k) r
  cases e : dlook k ds with
  | none => rw [h2 e]; rfl
  | some d => obtain ⟨v, q, _⟩ := h1 d e; rw [q]; rfl
theorem repk_length : ∀ {ds : List (D × D)} {ks : List (Key × V)}, Repk p H A ds ks → ds.length = ks.length
  | _, _, .nil => rfl
  | _, _, .cons _ _ r => congrArg (· + 1) (repk_length r)
theorem ky_v {k : Key} (h : Rd1 p H A d u) (e : d.ky = some k) : u = kV k := by
  cases d with
  | int i => cases e; exact h.int
  | str x => cases e; exact h.str
  | _ => cases e
end
section
variable {X : L2.Cx} {p : Pm}
def rC (p : Pm) (f : D → D → Option Bool) : R2 := fun x y H Q => ∃ A dx dy b, Rd1 p H A dx x ∧ Rd1 p H A dy y ∧ f dx dy = some b ∧ Q (.bl b) H
theorem cmp_int {o : CmpOp} {f : Int → Int → Bool}
    (rule : ∀ (i j : Int) (t t' : Tok) (s : Shared) (Q : Value → Shared → Prop) (E : Value → Shared → Prop), Q (.bool (f i j)) s → wpAny (model X.prog X.w) X.A (compareOp o (.int i t) (.int j t')) Q E s)
    {pins : List (Addr × Obj)} {s : Shared} {σ : L2.St} {H : Hp} {i j : Int} {x y : V} {v u : Value} {Q : VK} (I : Inv X pins σ H s) (rx : RelV x v) (ry : RelV y u) (ex : x = .int i) (ey : y = .int j) (q : Q (.bl (f i j)) H) :
    wpAny (model X.prog X.w) X.A (compareOp o v u) (EP X pins σ Q) X.xe s := by
  subst ex ey
  obtain ⟨t, rfl⟩ := rx
  obtain ⟨t', rfl⟩ := ry
  exact rule i j t t' s _ _ ⟨.bl _, H, I, rfl, q⟩
theorem isNon_dec {H : Hp} {A : Addr → Prop} {d : D} {x : V} (h : Rd1 p H A d x) : isNon d = decide (x = .non) := by
  rcases h with h | ⟨a, rfl, h⟩
  · cases h <;> rfl
  · cases d <;> first | rfl | exact h.elim
theorem shaped_two {a b : PyData} (h : (SeqAt.shaped a && SeqAt.shaped b) = true) : SeqAt.shaped a = true ∧ SeqAt.shaped b = true := Bool.and_eq_true_iff.mp h
theorem deq_some {a b : D} {k : Bool} (h : deq a b = some k) : ∃ x y, a.py = some x ∧ b.py = some y ∧ SeqAt.shaped x = true ∧ SeqAt.shaped y = true ∧ k = PyData.eqv x y := by
  unfold deq at h
  split at h
  · rename_i x y e1 e2
    split at h
    · rename_i hs
      obtain ⟨s1, s2⟩ := shaped_two hs
      cases h
      exact ⟨x, y, e1, e2, s1, s2, rfl⟩
    · cases h
  · cases h
theorem dmem_some {a : D} {ds : List D} {k : Bool} (h : dmem a ds = some k) : ∃ x ys, a.py = some x ∧ D.py.pys ds = some ys ∧ SeqAt.shaped x = true ∧ SeqAt.shaped (.list ys) = true ∧ k = ys.any fun z => PyData.eqv z x := by
  unfold dmem at h
  split at h
  · rename_i x y e1 e2
    split at h
    · rename_i hs
      obtain ⟨s1, s2⟩ := shaped_two hs
      cases h
      exact ⟨x, y, e1, e2, s1, s2, rfl⟩
    · cases h
  · cases h
theorem py_lst {ds : List D} {ys : List PyData} (h : D.py.pys ds = some ys) : (D.lst ds).py = some (.list ys) := by
  unfold D.py
  rw [h]
  rfl
theorem py_tup {ds : List D} {ys : List PyData} (h : D.py.pys ds = some ys) : (D.tup ds).py = some (.tuple ys) := by
  unfold D.py
  rw [h]
  rfl
theorem opR_cmp (hK : p.K = X.K) (hu : X.A.units + 65 < cLine) (o : Cop) : OpR X (compareOp (cmpOf o)) (rC p (cmp o)) := by
  intro pins s σ H x y v u Q I rx ry ⟨A, dx, dy, b, hx, hy, e, q⟩
  unfold cmp at e
  split at e
  case h_1 =>
    obtain ⟨a, c, e1, e2, s1, s2, rfl⟩ := deq_some e
    exact op_eqD (by omega) pins s σ H x y v u Q I rx ry ⟨a, c, hK ▸ hx.dp e1, hK ▸ hy.dp e2, s1, s2, q⟩
  case h_2 =>
    cases e3 : deq dx dy with
    | none => rw [e3] at e; cases e
    | some k =>
      rw [e3] at e
      cases e
      obtain ⟨a, c, e1, e2, s1, s2, rfl⟩ := deq_some e3
      exact op_neD (by omega) pins s σ H x y v u Q I rx ry ⟨a, c, hK ▸ hx.dp e1, hK ▸ hy.dp e2, s1, s2, q⟩
  case h_3 i j =>
    cases e
    exact cmp_int (fun _ _ _ _ _ _ _ h => lt_int h) I rx ry hx.int hy.int q
  case h_4 i j =>
    cases e
    exact cmp_int (fun _ _ _ _ _ _ _ h => le_int h) I rx ry hx.int hy.int q
  case h_5 i j =>
    cases e
    exact cmp_int (fun _ _ _ _ _ _ _ h => gt_int h) I rx ry hx.int hy.int q
  case h_6 i j =>
    cases e
    exact cmp_int (fun _ _ _ _ _ _ _ h => ge_int h) I rx ry hx.int hy.int q
  case h_7 ys =>
    obtain ⟨a, c, e1, e2, s1, s2, rfl⟩ := dmem_some e
    exact op_inD hu pins s σ H x y v u Q I rx ry ⟨a, c, hK ▸ hx.dp e1, hK ▸ hy.dp (py_lst e2), s1, s2, q⟩
  case h_8 ys =>
    obtain ⟨a, c, e1, e2, s1, s2, rfl⟩ := dmem_some e
    obtain ⟨as, r1⟩ := Dp.reads I a x v (hK ▸ hx.dp e1) rx
    obtain ⟨bs, r2⟩ := Dp.reads I (.tuple c) y u (hK ▸ hy.dp (py_tup e2)) ry
    exact SeqAt.in_tuple_reads r2 r1 (SeqAt.canLay_of_shaped s2) (SeqAt.canLay_of_shaped s1) (room_in_shaped s1 hu) ⟨.bl _, H, I, rfl, q⟩
  case h_9 kvs =>
    cases ek : dx.ky with
    | none => rw [ek] at e; cases e
    | some k =>
      rw [ek] at e
      cases e
      obtain ⟨a, ks, rfl, hr, r⟩ := hy.dic
      cases ry
      have ex := ky_v hx ek
      subst ex
      exact d_in (by omega) I (.inl ⟨ks, k, hr, rfl, rfl⟩) rx fun s' I' => ⟨.bl _, H, I', rfl, by rw [← repk_some r]; exact q⟩
  case h_10 ys =>
    cases e3 : dmem dx ys with
    | none => rw [e3] at e; cases e
    | some k =>
      rw [e3] at e
      cases e
      obtain ⟨a, c, e1, e2, s1, s2, rfl⟩ := dmem_some e3
      exact op_notInD hu pins s σ H x y v u Q I rx ry ⟨a, c, hK ▸ hx.dp e1, hK ▸ hy.dp (py_lst e2), s1, s2, q⟩
  case h_11 ys =>
    cases e3 : dmem dx ys with
    | none => rw [e3] at e; cases e
    | some k =>
      rw [e3] at e
      cases e
      obtain ⟨a, c, e1, e2, s1, s2, rfl⟩ := dmem_some e3
      obtain ⟨as, r1⟩ := Dp.reads I a x v (hK ▸ hx.dp e1) rx
      obtain ⟨bs, r2⟩ := Dp.reads I (.tuple c) y u (hK ▸ hy.dp (py_tup e2)) ry
      exact SeqAt.notIn_tuple_reads r2 r1 (SeqAt.canLay_of_shaped s2) (SeqAt.canLay_of_shaped s1) (room_in_shaped s1 hu) ⟨.bl _, H, I, rfl, q⟩
  case h_12 kvs =>
    cases ek : dx.ky with
    | none => rw [ek] at e; cases e
    | some k =>
      rw [ek] at e
      cases e
      obtain ⟨a, ks, rfl, hr, r⟩ := hy.dic
      cases ry
      have ex := ky_v hx ek
      subst ex
      exact d_notIn (by omega) I (.inl ⟨ks, k, hr, rfl, rfl⟩) rx fun s' I' => ⟨.bl _, H, I', rfl, by rw [← repk_some r]; exact q⟩
  case h_13 =>
    cases e
    exact op_isN pins s σ H x y v u Q I rx ry ⟨hy.non, by rw [← isNon_dec hx]; exact q⟩
  case h_14 =>
    cases e
    exact op_notN pins s σ H x y v u Q I rx ry ⟨hy.non, by rw [← isNon_dec hx]; exact q⟩
  case h_15 a b =>
    cases e
    have ex := hx.bl
    have ey := hy.bl
    subst ex ey
    cases rx
    cases ry
    exact is_bool ⟨.bl _, H, I, rfl, q⟩
  case h_16 a b =>
    cases e
    have ex := hx.bl
    have ey := hy.bl
    subst ex ey
    cases rx
    cases ry
    exact isnot_bool ⟨.bl _, H, I, rfl, q⟩
  case h_17 => cases e
theorem truth_ok {pins : List (Addr × Obj)} {s : Shared} {σ : L2.St} {H : Hp} {A : Addr → Prop} {d : D} {x : V} {v : Value} {k : Bool} {Q : Bool → Hp → Prop} (hK : p.K = X.K) (I : Inv X pins σ H s) (rx : RelV x v) (h : Rd1 p H A d x) (e : truth d = some k) (q : Q k H) :
    wpAny (model X.prog X.w) X.A (truthy v) (TP X pins σ Q) X.xe s := by
  have go : ∀ k', TruV X.K x H k' → k' = k → wpAny (model X.prog X.w) X.A (truthy v) (TP X pins σ Q) X.xe s := fun k' t ek => tru_ok pins s σ H x v Q I rx ⟨k', t, ek ▸ q⟩
  cases d with
  | non => cases e; have ex := h.non; subst ex; exact go false rfl rfl
  | bl b => cases e; have ex := h.bl; subst ex; exact go _ rfl rfl
  | int i => cases e; have ex := h.int; subst ex; exact go _ rfl rfl
  | str z =>
    have ex := h.str
    subst ex
    have e' : (if fits z.length = true then some (z.length != 0) else none) = some k := e
    split at e'
    · rename_i hf
      cases e'
      exact go _ ⟨fits_le hf, rfl⟩ (by
        by_cases hz : z.length = 0
        · rw [hz]; rfl
        · rw [(bne_iff_ne (a := z.length) (b := 0)).mpr hz]; exact bne_iff_ne.mpr (by omega))
    · cases e'
  | tup ds =>
    cases e
    obtain ⟨a, xs, rfl, hs, r⟩ := h.tup
    exact go _ (.inr (.inl ⟨xs, hK ▸ hs, rfl⟩)) (by cases r <;> rfl)
  | lst ds =>
    cases e
    obtain ⟨a, xs, rfl, hs, r⟩ := h.lst
    exact go _ (.inl ⟨xs, .inl (.inl hs), rfl⟩) (by cases r <;> rfl)
  | dic ds =>
    cases e
    obtain ⟨a, ks, rfl, hs, r⟩ := h.dic
    cases rx
    obtain ⟨hz, hS, vs, rv, m⟩ := dk_rd I.hok hs
    have hlen : ks.length = vs.length := Paired.length rv
    refine wpAny_truthy_dict hS m (by have := line63; omega) ⟨H, I.tok _, ?_⟩
    rw [isEmpty_kv rv, show (!ks.isEmpty) = !ds.isEmpty by cases r <;> rfl]
    exact q
  | _ => cases e
theorem ixR (hK : p.K = X.K) (hu : X.A.units + 65 < cLine) : IxR X (fun x y H Q => ∃ A dx dy d, Rd1 p H A dx x ∧ Rd1 p H A dy y ∧ idx dx dy = some d ∧ ∀ z, Rep p H A d z → Q z H) := by
  intro value slice pins s σ H x y v u Q I rx ry ⟨A, dx, dy, d, hx, hy, e, q⟩ hs
  unfold idx at e
  split at e
  case h_1 xs i =>
    obtain ⟨a, vs, rfl, h1, r⟩ := hx.lst
    obtain ⟨j, e1, e2⟩ := Option.bind_eq_some_iff.mp e
    obtain ⟨z, hz, hr⟩ := r.get e2
    refine ix_list value slice pins s σ H _ y v u Q I rx ry ⟨a, vs, i, z, rfl, hy.int, .inl (.inl h1), ?_, q z hr⟩ hs
    unfold atI
    rw [← r.length, e1]
    exact hz
  case h_2 xs i =>
    obtain ⟨a, vs, rfl, h1, r⟩ := hx.tup
    obtain ⟨j, e1, e2⟩ := Option.bind_eq_some_iff.mp e
    obtain ⟨z, hz, hr⟩ := r.get e2
    refine ix_tup value slice pins s σ H _ y v u Q I rx ry ⟨a, vs, i, z, rfl, hy.int, hK ▸ h1, ?_, q z hr⟩ hs
    unfold atI
    rw [← r.length, e1]
    exact hz
  case h_3 kvs =>
    obtain ⟨k, e1, e2⟩ := Option.bind_eq_some_iff.mp e
    obtain ⟨a, ks, rfl, hr, r⟩ := hx.dic
    cases rx
    have ey := ky_v hy e1
    subst ey
    obtain ⟨z, hz, hrz⟩ := (repk_look r).1 d e2
    have g : DGet H a (kV k) (some z) := .inl ⟨ks, k, hr, rfl, hz.symm⟩
    exact tail_any (dict_typeIs I g) F.slot_dict_getitem.lookup (d_getItem (by omega) I g ry fun w' s' I' rw' => ⟨z, H, I', rw', q z hrz⟩) hs
  case h_4 => cases e
end
end Lv
namespace Lv
open PySem PySem.Spec PyProof.Rows L2
section
variable {p : Pm} {H H' : Hp} {A A' W : Addr → Prop} {d : D} {u z : V}
inductive Rd1s (p : Pm) (H : Hp) (A : Addr → Prop) : List D → List V → Prop
  | nil : Rd1s p H A [] []
  | cons {d : D} {ds : List D} {v : V} {vs : List V} : Rd1 p H A d v → Rd1s p H A ds vs → Rd1s p H A (d :: ds) (v :: vs)
theorem reps_ints : ∀ {ds : List D} {vs : List V} {ns : List Int}, Reps p H A ds vs → dints ds = some ns → vs = ns.map V.int ∧ ds = ns.map D.int
  | _, _, _, .nil, e => by cases e; exact ⟨rfl, rfl⟩
  | _, _, _, .cons (d := d) (ds := ds) h r, e => by
    cases d with
    | int i =>
      cases h
      have e' : (dints ds).map (i :: ·) = some _ := e
      cases q : dints ds with
      | none => rw [q] at e'; cases e'
      | some ns =>
        rw [q] at e'
        cases e'
        obtain ⟨e1, e2⟩ := reps_ints r q
        exact ⟨by rw [e1]; rfl, by rw [e2]; rfl⟩
    | _ => cases e
theorem reps_bools : ∀ {ds : List D} {vs : List V} {ns : List Bool}, Reps p H A ds vs → dbools ds = some ns → vs = ns.map V.bl
  | _, _, _, .nil, e => by cases e; rfl
  | _, _, _, .cons (d := d) (ds := ds) h r, e => by
    cases d with
    | bl i =>
      cases h
      have e' : (dbools ds).map (i :: ·) = some _ := e
      cases q : dbools ds with
      | none => rw [q] at e'; cases e'
      | some ns =>
        rw [q] at e'
        cases e'
        rw [reps_bools r q]
        rfl
    | _ => cases e
theorem reps_of_ints : ∀ ns : List Int, Reps p H A (ns.map D.int) (ns.map V.int)
  | [] => .nil
  | n :: r => .cons (.int n) (reps_of_ints r)
theorem insI_perm (x : Int) : ∀ l, (insI x l).Perm (x :: l)
  | [] => .refl _
  | y :: r => by
    unfold insI
    split
    · exact .refl _
    · exact ((insI_perm x r).cons y).trans (.swap x y r)
theorem sortI_perm : ∀ l, (sortI l).Perm l
  | [] => .refl _
  | x :: r => (insI_perm x (sortI r)).trans ((sortI_perm r).cons x)
theorem insI_sorted (x : Int) : ∀ l : List Int, l.Pairwise (· ≤ ·) → (insI x l).Pairwise (· ≤ ·)
  | [], _ => List.pairwise_singleton _ _
  | y :: r, h => by
    obtain ⟨h1, h2⟩ := List.pairwise_cons.mp h
    unfold insI
    split
    · rename_i hxy
      refine List.pairwise_cons.mpr ⟨fun z hz => ?_, h⟩
      rcases List.mem_cons.mp hz with rfl | hz
      · exact hxy
      · exact Int.le_trans hxy (h1 z hz)
    · rename_i hxy
      refine List.pairwise_cons.mpr ⟨fun z hz => ?_, insI_sorted x r h2⟩
      rcases List.mem_cons.mp ((insI_perm x r).mem_iff.mp hz) with rfl | hz
      · omega
      · exact h1 z hz
theorem sortI_sorted : ∀ l : List Int, (sortI l).Pairwise (· ≤ ·)
  | [] => .nil
  | x :: r => insI_sorted x _ (sortI_sorted r)
theorem sorted_uniq : ∀ {l m : List Int}, l.Perm m → l.Pairwise (· ≤ ·) → m.Pairwise (· ≤ ·) → l = m
  | [], m, h, _, _ => (List.Perm.nil_eq h)
  | x :: l, [], h, _, _ => by have := h.length_eq; simp at this
  | x :: l, y :: m, h, hl, hm => by
    obtain ⟨l1, l2⟩ := List.pairwise_cons.mp hl
    obtain ⟨m1, m2⟩ := List.pairwise_cons.mp hm
    have exy : x = y := by
      have h1 : x ∈ y :: m := h.mem_iff.mp List.mem_cons_self
      have h2 : y ∈ x :: l := h.mem_iff.mpr List.mem_cons_self
      have a1 : y ≤ x := (List.mem_cons.mp h1).elim (fun e => by omega) fun z => m1 x z
      have a2 : x ≤ y := (List.mem_cons.mp h2).elim (fun e => by omega) fun z => l1 y z
      omega
    subst exy
    rw [sorted_uniq (List.Perm.cons_inv h) l2 m2]
theorem maxI_is : ∀ (l : List Int) (m : Int), maxI m l ∈ m :: l ∧ ∀ y ∈ m :: l, y ≤ maxI m l
  | [], m => ⟨List.mem_cons_self, fun y h => by simp at h; rw [h]; exact Int.le_refl _⟩
  | x :: r, m => by
    unfold maxI
    obtain ⟨h1, h2⟩ := maxI_is r (if m < x then x else m)
    refine ⟨?_, fun y hy => ?_⟩
    · rcases List.mem_cons.mp h1 with h | h
      · rw [h]; split
        · exact List.mem_cons_of_mem _ List.mem_cons_self
        · exact List.mem_cons_self
      · exact List.mem_cons_of_mem _ (List.mem_cons_of_mem _ h)
    · have h3 := h2 _ List.mem_cons_self
      have h4 : m ≤ if m < x then x else m := by split <;> omega
      have h5 : x ≤ if m < x then x else m := by split <;> omega
      rcases List.mem_cons.mp hy with rfl | hy
      · exact Int.le_trans h4 h3
      · rcases List.mem_cons.mp hy with rfl | hy
        · exact Int.le_trans h5 h3
        · exact h2 y (List.mem_cons_of_mem _ hy)
theorem minI_is : ∀ (l : List Int) (m : Int), minI m l ∈ m :: l ∧ ∀ y ∈ m :: l, minI m l ≤ y
  | [], m => ⟨List.mem_cons_self, fun y h => by simp at h; rw [h]; exact Int.le_refl _⟩
  | x :: r, m => by
    unfold minI
    obtain ⟨h1, h2⟩ := minI_is r (if x < m then x else m)
    refine ⟨?_, fun y hy => ?_⟩
    · rcases List.mem_cons.mp h1 with h | h
      · rw [h]; split
        · exact List.mem_cons_of_mem _ List.mem_cons_self
        · exact List.mem_cons_self
      · exact List.mem_cons_of_mem _ (List.mem_cons_of_mem _ h)
    · have h3 := h2 _ List.mem_cons_self
      have h4 : (if x < m then x else m) ≤ m := by split <;> omega
      have h5 : (if x < m then x else m) ≤ x := by split <;> omega
      rcases List.mem_cons.mp hy with rfl | hy
      · exact Int.le_trans h3 h4
      · rcases List.mem_cons.mp hy with rfl | hy
        · exact Int.le_trans h3 h5
        · exact h2 y (List.mem_cons_of_mem _ hy)
theorem repk_any {k : Key} : ∀ {ds : List (D × D)} {ks : List (Key × V)}, Repk p H A ds ks → (ds.any fun e => decide (e.1.ky = some k)) = ks.any fun kv => decide (kv.1 = k)
  | _, _, .nil => rfl
  | _, _, .cons ey _ r => by
    rw [List.any_cons, List.any_cons, repk_any r, ey]
    congr 1
    exact decide_eq_decide.mpr ⟨Option.some.inj, congrArg some⟩
theorem repk_map {k : Key} {d : D} {v : V} (h : Rep p H A d v) : ∀ {ds : List (D × D)} {ks : List (Key × V)}, Repk p H A ds ks →
    Repk p H A (ds.map fun e => if e.1.ky = some k then (e.1, d) else e) (ks.map fun kv => if kv.1 = k then (kv.1, v) else kv)
  | _, _, .nil => .nil
  | _, _, .cons (k := k') ey hy r => by
    rw [List.map_cons, List.map_cons]
    by_cases q : k' = k
    · rw [if_pos (by rw [ey, q]), if_pos q]
      exact .cons ey h (repk_map h r)
    · rw [if_neg (by rw [ey]; exact fun z => q (Option.some.inj z)), if_neg q]
      exact .cons ey hy (repk_map h r)
theorem repk_append : ∀ {ds es : List (D × D)} {ks ls : List (Key × V)}, Repk p H A ds ks → Repk p H A es ls → Repk p H A (ds ++ es) (ks ++ ls)
  | _, _, _, _, .nil, s => s
  | _, _, _, _, .cons e h r, s => .cons e h (repk_append r s)
theorem repk_put {x d : D} {k : Key} {v : V} (ek : x.ky = some k) (h : Rep p H A d v) {ds : List (D × D)} {ks : List (Key × V)} (r : Repk p H A ds ks) : Repk p H A (dput x d k ds) (putK ks k v) := by
  unfold dput putK
  rw [repk_any r]
  split
  · exact repk_map h r
  · exact repk_append r (.cons ek h .nil)
theorem repk_merge : ∀ {ms : List (D × D)} {ls : List (Key × V)} {ds : List (D × D)} {ks : List (Key × V)}, Repk p H A ms ls → Repk p H A ds ks → Repk p H A (dmerge ds ms) (mergeK ks ls)
  | _, _, ds, ks, .nil, r => by
    unfold dmerge mergeK
    exact r
  | _, _, ds, ks, .cons (x := x) (d := d) (k := k) (ds := ms) e h m, r => by
    have q : dmerge ds ((x, d) :: ms) = dmerge (dput x d k ds) ms := by
      rw [dmerge.eq_2]
      simp only [e]
    rw [q, show mergeK ks ((k, _) :: _) = mergeK (putK ks k _) _ from rfl]
    exact repk_merge m (repk_put e h r)
theorem reps_pairs : ∀ {ds : List D} {vs : List V} {kvs : List (D × D)}, Reps p H A ds vs → dpairs ds = some kvs → ∃ (ps : List Addr) (ks : List (Key × V)), vs = ps.map V.ref ∧ Paired (fun q kv => SqT p.K H q [kV kv.1, kv.2]) ps ks ∧ Repk p H A kvs ks
  | _, _, _, .nil, e => by cases e; exact ⟨[], [], rfl, .nil, .nil⟩
  | _, _, _, .cons (d := d) (ds := ds) h r, e => by
    unfold dpairs at e
    split at e
    case h_1 => rename_i q; cases q
    case h_2 k v r' heq =>
      obtain ⟨rfl, rfl⟩ := List.cons.inj heq
      split at e
      · rename_i ky kvs ek er
        cases e
        obtain ⟨ps, ks, rfl, hp, hk⟩ := reps_pairs r er
        cases h with
        | tup h hr =>
          cases hr with
          | cons hk1 hr =>
            cases hr with
            | cons hv1 hr =>
              cases hr
              have := ky_v (.inl hk1) ek
              subst this
              exact ⟨_ :: ps, (ky, _) :: ks, rfl, .cons h hp, .cons ek hv1 hk⟩
      · cases e
    case h_3 => cases e
end
def biV : Bi → Value
  | .len => .builtin "len" | .abs => .builtin "abs" | .int => .type "int" | .sum => .builtin "sum" | .max => .builtin "max" | .min => .builtin "min" | .max2 => .builtin "max" | .min2 => .builtin "min"
  | .sorted => .builtin "sorted" | .tuple => .type "tuple" | .list => .type "list" | .all => .builtin "all" | .gcd => .builtin "math.gcd" | .dict => .type "dict" | .repr => .builtin "repr" | .str => .type "str" | .bool => .type "bool"
section
variable {X : L2.Cx} {p : Pm}
theorem rd1s1 {H : Hp} {A : Addr → Prop} {d : D} {vs : List V} (h : Rd1s p H A [d] vs) : ∃ v, vs = [v] ∧ Rd1 p H A d v := by
  cases h with
  | cons a r => cases r; exact ⟨_, rfl, a⟩
theorem rd1s2 {H : Hp} {A : Addr → Prop} {d e : D} {vs : List V} (h : Rd1s p H A [d, e] vs) : ∃ v w, vs = [v, w] ∧ Rd1 p H A d v ∧ Rd1 p H A e w := by
  cases h with
  | cons a r =>
    cases r with
    | cons b r => cases r; exact ⟨_, _, rfl, a, b⟩
def rBi (p : Pm) (f : Bi) : List V → Hp → VK → Prop := fun xs H Q => ∃ A ds d, Rd1s p H A ds xs ∧ bi f ds = some d ∧ ∀ z H', Made p H A d z H' → Q z H'
theorem biR (hK : p.K = X.K) (hc : X.calm = true) (f : Bi) : CallR X (biV f) (rBi p f) := by
  intro pins s σ H xs us Q I r ⟨A, ds, d, hr, e, q⟩
  unfold bi at e
  split at e
  case h_1 ys =>
    cases e
    obtain ⟨v, rfl, h⟩ := rd1s1 hr
    obtain ⟨a, vs, rfl, h1, rr⟩ := h.lst
    exact call_len pins s σ H _ us Q I r ⟨_, vs.length, rfl, .inl ⟨vs, .inl (.inl h1), rfl⟩, by rw [← rr.length]; exact q _ _ (.same (.int _) fun _ z => nomatch z)⟩
  case h_2 ys =>
    cases e
    obtain ⟨v, rfl, h⟩ := rd1s1 hr
    obtain ⟨a, vs, rfl, h1, rr⟩ := h.tup
    exact call_len pins s σ H _ us Q I r ⟨_, vs.length, rfl, .inr ⟨vs, hK ▸ h1, rfl⟩, by rw [← rr.length]; exact q _ _ (.same (.int _) fun _ z => nomatch z)⟩
  case h_3 ys =>
    cases e
    obtain ⟨v, rfl, h⟩ := rd1s1 hr
    obtain ⟨a, ks, rfl, h1, rr⟩ := h.dic
    obtain ⟨u, rfl, rv⟩ := vals1 r
    cases rv
    exact d_len I h1 fun t s' I' => ⟨.int ks.length, H, I', ⟨_, rfl⟩, by rw [← repk_length rr]; exact q _ _ (.same (.int _) fun _ z => nomatch z)⟩
  case h_4 ys =>
    cases e
    obtain ⟨v, rfl, h⟩ := rd1s1 hr
    obtain ⟨a, rfl, h1⟩ := h.scr
    exact call_len pins s σ H _ us Q I r ⟨_, ys.length, rfl, .inl ⟨_, hK ▸ h1, by rw [List.length_map]⟩, q _ _ (.same (.int _) fun _ z => nomatch z)⟩
  case h_5 y =>
    split at e
    · rename_i hf
      cases e
      obtain ⟨v, rfl, h⟩ := rd1s1 hr
      have ex := h.str
      subst ex
      exact call_len pins s σ H _ us Q I r ⟨_, y.length, rfl, ⟨fits_le hf, rfl⟩, q _ _ (.same (.int _) fun _ z => nomatch z)⟩
    · cases e
  case h_6 i =>
    cases e
    obtain ⟨v, rfl, h⟩ := rd1s1 hr
    have ex := h.int
    subst ex
    exact call_abs pins s σ H _ us Q I r ⟨i, rfl, q _ _ (.same (.int _) fun _ z => nomatch z)⟩
  case h_7 i =>
    cases e
    obtain ⟨v, rfl, h⟩ := rd1s1 hr
    have ex := h.int
    subst ex
    exact call_int1 pins s σ H _ us Q I r (.inl ⟨i, rfl, q _ _ (.same (.int _) fun _ z => nomatch z)⟩)
  case h_8 b =>
    cases e
    obtain ⟨v, rfl, h⟩ := rd1s1 hr
    have ex := h.bl
    subst ex
    exact call_int1 pins s σ H _ us Q I r (.inr ⟨b, rfl, q _ _ (.same (.int _) fun _ z => nomatch z)⟩)
  case h_9 ys =>
    obtain ⟨v, rfl, h⟩ := rd1s1 hr
    obtain ⟨a, vs, rfl, h1, rr⟩ := h.lst
    obtain ⟨ns, en, ed⟩ := Option.map_eq_some_iff.mp e
    subst ed
    obtain ⟨rfl, _⟩ := reps_ints rr en
    exact cr_sum hc pins s σ H _ us Q I r ⟨a, ns, rfl, .inl (.inl h1), q _ _ (.same (.int _) fun _ z => nomatch z)⟩
  case h_10 ys =>
    obtain ⟨v, rfl, h⟩ := rd1s1 hr
    obtain ⟨a, vs, rfl, h1, rr⟩ := h.lst
    split at e
    · rename_i n ns en
      cases e
      obtain ⟨rfl, _⟩ := reps_ints rr en
      refine cr_max hc pins s σ H _ us Q I r ⟨a, n :: ns, rfl, .inl (.inl h1), Nat.succ_pos _, fun m hm hall => ?_⟩
      obtain ⟨g1, g2⟩ := maxI_is ns n
      have : m = maxI n ns := Int.le_antisymm (g2 m hm) (hall _ g1)
      rw [this]
      exact q _ _ (.same (.int _) fun _ z => nomatch z)
    · cases e
  case h_11 ys =>
    obtain ⟨v, rfl, h⟩ := rd1s1 hr
    obtain ⟨a, vs, rfl, h1, rr⟩ := h.lst
    split at e
    · rename_i n ns en
      cases e
      obtain ⟨rfl, _⟩ := reps_ints rr en
      refine cr_min hc pins s σ H _ us Q I r ⟨a, n :: ns, rfl, .inl (.inl h1), Nat.succ_pos _, fun m hm hall => ?_⟩
      obtain ⟨g1, g2⟩ := minI_is ns n
      have : m = minI n ns := Int.le_antisymm (hall _ g1) (g2 m hm)
      rw [this]
      exact q _ _ (.same (.int _) fun _ z => nomatch z)
    · cases e
  case h_12 i j =>
    cases e
    obtain ⟨v, w, rfl, h1, h2⟩ := rd1s2 hr
    have e1 := h1.int
    have e2 := h2.int
    subst e1 e2
    exact call_max2 hc pins s σ H _ us Q I r ⟨i, j, rfl, q _ _ (.same (.int _) fun _ z => nomatch z)⟩
  case h_13 i j =>
    cases e
    obtain ⟨v, w, rfl, h1, h2⟩ := rd1s2 hr
    have e1 := h1.int
    have e2 := h2.int
    subst e1 e2
    exact call_min2 hc pins s σ H _ us Q I r ⟨i, j, rfl, q _ _ (.same (.int _) fun _ z => nomatch z)⟩
  case h_14 ys =>
    obtain ⟨v, rfl, h⟩ := rd1s1 hr
    obtain ⟨a, vs, rfl, h1, rr⟩ := h.lst
    obtain ⟨ns, en, ed⟩ := Option.map_eq_some_iff.mp e
    subst ed
    obtain ⟨rfl, _⟩ := reps_ints rr en
    refine cr_sortedI pins s σ H _ us Q I r ⟨a, ns, rfl, .inl (.inl h1), fun ns' q' pm so hn => ?_⟩
    have : ns' = sortI ns := sorted_uniq (pm.trans (sortI_perm ns).symm) so (sortI_sorted ns)
    rw [this]
    exact q _ _ (.lst hn (reps_of_ints _))
  case h_15 ys =>
    cases e
    obtain ⟨v, rfl, h⟩ := rd1s1 hr
    obtain ⟨a, vs, rfl, h1, rr⟩ := h.lst
    exact call_tuple_of pins s σ H _ us Q I r ⟨a, vs, rfl, .inl ⟨.inl (.inl h1), fun l hl => q _ _ (.tup hl rr)⟩⟩
  case h_16 ys =>
    cases e
    obtain ⟨v, rfl, h⟩ := rd1s1 hr
    obtain ⟨a, vs, rfl, h1, rr⟩ := h.tup
    exact call_tuple_of pins s σ H _ us Q I r ⟨a, vs, rfl, .inr ⟨hK ▸ h1, q _ _ (.same (.tup h1 rr) fun _ z => nomatch z)⟩⟩
  case h_17 ys =>
    cases e
    obtain ⟨v, rfl, h⟩ := rd1s1 hr
    obtain ⟨a, vs, rfl, h1, rr⟩ := h.lst
    exact call_list_of pins s σ H _ us Q I r ⟨a, vs, rfl, .inl (.inl (.inl h1)), fun l hl => q _ _ (.lst hl rr)⟩
  case h_18 ys =>
    cases e
    obtain ⟨v, rfl, h⟩ := rd1s1 hr
    obtain ⟨a, vs, rfl, h1, rr⟩ := h.tup
    exact call_list_of pins s σ H _ us Q I r ⟨a, vs, rfl, .inr (hK ▸ h1), fun l hl => q _ _ (.lst hl rr)⟩
  case h_19 ys =>
    obtain ⟨v, rfl, h⟩ := rd1s1 hr
    obtain ⟨a, vs, rfl, h1, rr⟩ := h.lst
    obtain ⟨ns, en, ed⟩ := Option.map_eq_some_iff.mp e
    subst ed
    have := reps_bools rr en
    subst this
    exact cr_all hc pins s σ H _ us Q I r ⟨a, ns, rfl, .inl (.inl h1), q _ _ (.same (.bl _) fun _ z => nomatch z)⟩
  case h_20 i j =>
    cases e
    obtain ⟨v, w, rfl, h1, h2⟩ := rd1s2 hr
    have e1 := h1.int
    have e2 := h2.int
    subst e1 e2
    exact cr_gcd pins s σ H _ us Q I r ⟨i, j, rfl, q _ _ (.same (.int _) fun _ z => nomatch z)⟩
  case h_21 ys =>
    obtain ⟨v, rfl, h⟩ := rd1s1 hr
    obtain ⟨a, vs, rfl, h1, rr⟩ := h.lst
    obtain ⟨kvs, en, ed⟩ := Option.map_eq_some_iff.mp e
    subst ed
    obtain ⟨ps, ks, rfl, hp, hk⟩ := reps_pairs rr en
    exact call_dictP hc pins s σ H _ us Q I r ⟨a, ps, ks, rfl, .inl (.inl h1), hK ▸ hp, fun l hl => q _ _ (.dk hl (repk_merge hk .nil))⟩
  case h_22 => cases e
end
end Lv
namespace Lv
open PySem PySem.Spec PyProof.Rows L2
structure Cenv where
  N : List Str
  names : List (Str × NameKind)
  sto : List Nat
  fns : List (Str × List Str × List D)
  cons : List (Str × D)
  cls : List Str
  blt : List Str
  imp : List (Str × String)
  tix : List (Str × List Int)
def RFin {α : Type} (r : R α) (okP : α → Env → Prop) (exP : Nat → Env → Prop) : Prop := match r with
  | .ok a ρ => okP a ρ
  | .ex n ρ => exP n ρ
  | .bad => False
theorem RFin.bind {α β : Type} {r : R α} {f : α → Env → R β} {okP : β → Env → Prop} {exP : Nat → Env → Prop} (h : RFin (r.bind f) okP exP) : RFin r (fun a ρ => RFin (f a ρ) okP exP) exP := by
  cases r <;> exact h
theorem RFin.mono {α : Type} {r : R α} {okP okP' : α → Env → Prop} {exP exP' : Nat → Env → Prop} (h : RFin r okP exP) (h1 : ∀ a ρ, okP a ρ → okP' a ρ) (h2 : ∀ n ρ, exP n ρ → exP' n ρ) : RFin r okP' exP' := by
  cases r with
  | ok a ρ => exact h1 a ρ h
  | ex n ρ => exact h2 n ρ h
  | bad => exact h
theorem RFin.ofO {α : Type} {o : Option α} {ρ : Env} {okP : α → Env → Prop} {exP : Nat → Env → Prop} (h : RFin (ofO o ρ) okP exP) : ∃ a, o = some a ∧ okP a ρ := by
  cases o with
  | none => exact h.elim
  | some a => exact ⟨a, rfl, h⟩
def spF (p : Pm) (P : List Fn) (k i n : Nat) : Sp := fun vs H Q E => vs.length = n ∧ ∃ W args, Good p H W (vs.map some) args ∧ (match callF P k i args with
  | .ret v outs => ∀ u H', Post p H W (vs.map some) args v outs u H' → Q u H'
  | .ex c outs => ∀ H', PostE p H W (vs.map some) args outs H' → E (.ref (p.ca c)) none H'
  | .bad => False)
def cstV : D → Option V
  | .non => some .non
  | .bl b => some (.bl b)
  | .int i => some (.int i)
  | .str x => some (.str x)
  | _ => none
theorem cstV_rep {p : Pm} {H : Hp} {A : Addr → Prop} {d : D} {v : V} (h : cstV d = some v) : Rep p H A d v := by
  cases d <;> cases h
  · exact .non
  · exact .bl _
  · exact .int _
  · exact .str _
structure GloOk (p : Pm) (P : List Fn) (cx : Cenv) (k : Nat) (prog : Program) (w : World) (K : PySem.W.Frag) (mg : Str → Option Value) (base : Heap) : Prop where
  fns : ∀ i x ps ds, cx.fns[i]? = some (x, ps, ds) → mg x = some (.ref (p.fa i)) ∧ PySem.W.keepIn K (.ref (p.fa i)) = true ∧
    ∃ fd, (∀ m dvs, m ≤ ds.length → (ds.drop m).mapM cstV = some dvs → ∃ us, Vals dvs us ∧ Binds K fd ps us) ∧ FnOk prog w K mg base (L2.CX prog w) k (p.fa i) fd ps (spF p P k i ps.length)
  cons : ∀ x d, cx.cons.lookup x = some d → ∃ u v, mg x = some u ∧ RelV v u ∧ ∀ H A, Rep p H A d v
  blt : ∀ x ∈ cx.blt, mg x = none
  imp : ∀ x id, (x, id) ∈ cx.imp → mg x = some (.builtin id)
  tix : ∀ x ns, cx.tix.lookup x = some ns → ∃ a, mg x = some (.ref a) ∧ (∃ o, K.lookup a = some o ∧ o.cls = .type "tuple" ∧ o.dict = none) ∧ ∀ H : Hp, SqT K H a (ns.map .int)
structure Okc (p : Pm) (P : List Fn) (cx : Cenv) (k : Nat) (X : L2.Cx) : Prop where
  K : p.K = X.K
  N : X.N = cx.N
  nd : X.N.Nodup
  sc : X.env.scope.names = cx.names
  kd : X.env.scope.kind = .function
  calm : X.calm = true
  room : Room k X.A
  sto : ∀ i x, i ∈ cx.sto → cx.N[i]? = some x → Loc X.env.scope x ∧ (X.fn x = true ∨ X.env.scope.names.lookup x = some .local)
  glo : GloOk p P cx k X.prog X.w X.K X.mg X.base
section
variable (p : Pm) (P : List Fn) (k : Nat) (Wx : WX)
def exP (H : Hp) (W : Addr → Prop) (σ : L2.St) (ρ : Env) (n : Nat) (ρ' : Env) : Prop := ∀ H', PostE p H W σ ρ ρ' H' → Wx (.ref (p.ca n)) none σ H'
def tE (c : CE) : TE := fun σ H Q => ∃ W ρ, Good p H W σ ρ ∧ RFin (evE (fcOf P) (callF P k) c ρ) (fun v ρ' => ∀ u H', Post p H W σ ρ v ρ' u H' → Q u H') (exP p Wx H W σ ρ)
def tT (c : CE) : TT := fun σ H Q => ∃ W ρ, Good p H W σ ρ ∧ RFin ((evE (fcOf P) (callF P k) c ρ).bind rTruth) (fun b ρ' => ∀ H', PostE p H W σ ρ ρ' H' → Q b H') (exP p Wx H W σ ρ)
end
section
variable {p : Pm} {P : List Fn} {cx : Cenv} {k : Nat} {X : L2.Cx} {Wx : WX} {H H1 H2 : Hp} {W : Addr → Prop} {σ : L2.St} {ρ ρ1 ρ2 : Env} {a b c : Expr} {ca cb cc : CE} {pos : Pos}
theorem _root_.L2.PE.imp {e : Expr} {t t' : TE} (h : PE X e t) (i : ∀ σ H Q, t' σ H Q → t σ H Q) : PE X e t' := ⟨fun pins s σ H Q I q => h.run pins s σ H Q I (i σ H Q q)⟩
theorem _root_.L2.PT.imp {e : Expr} {t t' : TT} (h : PT X e t) (i : ∀ σ H Q, t' σ H Q → t σ H Q) : PT X e t' := ⟨fun pins s σ H Q I q => h.run pins s σ H Q I (i σ H Q q)⟩
theorem exP.step {W1 : Addr → Prop} {n : Nat} {ρ' : Env} (q : PostE p H W σ ρ ρ1 H1) (h : ∀ b, W b → W1 b) (e : exP p Wx H W σ ρ n ρ') : exP p Wx H1 W1 σ ρ1 n ρ' := fun H' q' => e H' (q.trans q' h)
theorem tE.first {α : Type} {F : Vl → Env → R α} {okP : α → Env → Prop} {Q : VK} (g : Good p H W σ ρ) (h : RFin ((evE (fcOf P) (callF P k) ca ρ).bind F) okP (exP p Wx H W σ ρ))
    (next : ∀ v ρ1 u H1, Post p H W σ ρ v ρ1 u H1 → RFin (F v ρ1) okP (exP p Wx H W σ ρ) → Q u H1) : tE p P k Wx ca σ H Q :=
  ⟨W, ρ, g, h.bind.mono (fun v ρ1 hf u H1 q => next v ρ1 u H1 q hf) fun _ _ e => e⟩
theorem tE.then {α : Type} {F : Vl → Env → R α} {okP : α → Env → Prop} {W1 : Addr → Prop} {Q : VK} (q0 : PostE p H W σ ρ ρ1 H1) (g : Good p H1 W1 σ ρ1) (hW : ∀ b, W b → W1 b) (h : RFin ((evE (fcOf P) (callF P k) ca ρ1).bind F) okP (exP p Wx H W σ ρ))
    (next : ∀ v ρ2 u H2, Post p H1 W1 σ ρ1 v ρ2 u H2 → RFin (F v ρ2) okP (exP p Wx H W σ ρ) → Q u H2) : tE p P k Wx ca σ H1 Q :=
  ⟨W1, ρ1, g, h.bind.mono (fun v ρ1 hf u H1 q => next v ρ1 u H1 q hf) fun _ _ e => e.step q0 hW⟩
theorem Wv.base {v : Vl} {u : V} : ∀ b, W b → Wv W v u b := fun _ w => .inl w
theorem two {v w : Vl} {u u2 : V} {x y : D} (q1 : Post p H W σ ρ v ρ1 u H1) (q2 : Post p H1 (Wv W v u) σ ρ1 w ρ2 u2 H2) (hx : val ρ2 v = some x) (hy : val ρ2 w = some y) :
    PostE p H W σ ρ ρ2 H2 ∧ Rd1 p H2 (Av W σ ρ2) x u ∧ Rd1 p H2 (Av W σ ρ2) y u2 := by
  have e := q1.e.trans q2.e Wv.base
  refine ⟨e, (q1.vr.step q1.good q2.e).read e.good hx, ?_⟩
  have r := q2.vr.read (q2.good.less fun _ w => .inl w) hy
  rcases r with r | ⟨a, ea, t⟩
  · exact .inl (r.keep (.mono (Av.less Wv.base fun _ o => o)))
  · exact .inr ⟨a, ea, t.mono (Av.less Wv.base fun _ o => o)⟩
theorem Post.sh {d : D} {u : V} (q : PostE p H W σ ρ ρ1 H1) (r : Rep p H1 (Av W σ ρ1) d u) : Post p H W σ ρ (.sh d) ρ1 u H1 := ⟨q.ext, q.trk, q.sub, by rw [Wv.sh]; exact q.good, r⟩
theorem so_var {x : Str} {i : Nat} (ok : Okc p P cx k X) (hN : cx.N[i]? = some x) (hv : cx.names.lookup x = some .local ∨ cx.names.lookup x = some .cell ∨ cx.names.lookup x = some .free) (hd : (x == ("__debug__" : Str)) = false) (hcd : (x == ("__classdict__" : Str)) = false) :
    PE X (.Name x pos) (tE p P k Wx (.var i)) := by
  refine (pe_var (i := i) (by rw [ok.N]; exact hN) (by unfold Vis; rw [ok.sc]; exact hv) hd hcd).imp fun σ H Q ⟨W, ρ, g, h⟩ => ?_
  unfold evE at h
  cases hs : slot ρ i with
  | un => rw [hs] at h; exact h.elim
  | sh d =>
    rw [hs] at h
    obtain ⟨v, e, r⟩ := g.sh i d hs
    exact ⟨v, e, h v H (.sh (.refl g) r)⟩
  | ow d =>
    rw [hs] at h
    obtain ⟨a, e, nw, t⟩ := g.ow i d hs
    have q : PostE p H W σ ρ ρ H := .refl g
    exact ⟨.ref a, e, h (.ref a) H ⟨q.ext, q.trk, q.sub, by rw [Wv.sl]; exact g, e⟩⟩
theorem so_cst {e : Expr} {v : V} {d : D} (he : PE X e (tC v)) (hd : cstV d = some v) : PE X e (tE p P k Wx (.cst d)) :=
  he.imp fun σ H Q ⟨W, ρ, g, h⟩ => h v H (.sh (.refl g) (cstV_rep hd))
theorem so_glo {x : Str} {d : D} (ok : Okc p P cx k X) (hn : cx.names.lookup x = some .globalImplicit) (hd : cx.cons.lookup x = some d) (hdb : (x == ("__debug__" : Str)) = false) : PE X (.Name x pos) (tE p P k Wx (.glo d)) := by
  obtain ⟨u, v, hm, rv, hr⟩ := ok.glo.cons x d hd
  refine (pe_glob (by unfold Gl Env.kindOf; rw [ok.sc]; exact hn) hm rv hdb).imp fun σ H Q ⟨W, ρ, g, h⟩ => h v H (.sh (.refl g) (hr _ _))
theorem so_fn {x : Str} {i : Nat} {ps : List Str} {ds : List D} (ok : Okc p P cx k X) (hn : cx.names.lookup x = some .globalImplicit) (hd : cx.fns[i]? = some (x, ps, ds)) (hdb : (x == ("__debug__" : Str)) = false) : PE X (.Name x pos) (tE p P k Wx (.glo (.fn i))) := by
  obtain ⟨hm, _⟩ := ok.glo.fns i x ps ds hd
  refine (pe_glob (v := .ref (p.fa i)) (by unfold Gl Env.kindOf; rw [ok.sc]; exact hn) hm rfl hdb).imp fun σ H Q ⟨W, ρ, g, h⟩ => h _ H (.sh (.refl g) (.fn i))
theorem so_bop (ok : Okc p P cx k X) (o : Bop) (ha : PE X a (tE p P k Wx ca)) (hb : PE X b (tE p P k Wx cb)) : PE X (.BinOp a (opOf o) b pos) (tE p P k Wx (.bop o ca cb)) := by
  refine (pe_op (opR_bop ok.K o) ha hb).imp fun σ H Q ⟨W, ρ, g, h⟩ => ?_
  unfold evE at h
  refine tE.first g h fun v ρ1 u H1 q1 h => ?_
  refine tE.then q1.e q1.good Wv.base h fun w ρ2 u2 H2 q2 h => ?_
  split at h
  case h_1 x y hx hy =>
    obtain ⟨r, er, hq⟩ := h.ofO
    obtain ⟨d, ed, rfl⟩ := Option.map_eq_some_iff.mp er
    obtain ⟨e, r1, r2⟩ := two q1 q2 hx hy
    exact ⟨_, x, y, d, r1, r2, ed, fun z H' m => hq z H' (m.post e)⟩
  case h_2 => exact h.elim
theorem room_u (r : Room k X.A) : X.A.units + 65 < cLine := by have := r.un; omega
theorem so_cmp (ok : Okc p P cx k X) (o : Cop) (ha : PE X a (tE p P k Wx ca)) (hb : PE X b (tE p P k Wx cb)) (hm : behindInMarks (cmpOf o) b = false) : PE X (.Compare a [cmpOf o] [b] pos) (tE p P k Wx (.cmp o ca cb)) := by
  refine (pe_cmpR (opR_cmp ok.K (room_u ok.room) o) ha hb hm).imp fun σ H Q ⟨W, ρ, g, h⟩ => ?_
  unfold evE at h
  refine tE.first g h fun v ρ1 u H1 q1 h => ?_
  refine tE.then q1.e q1.good Wv.base h fun w ρ2 u2 H2 q2 h => ?_
  split at h
  case h_1 x y hx hy =>
    obtain ⟨r, er, hq⟩ := h.ofO
    obtain ⟨d, ed, rfl⟩ := Option.map_eq_some_iff.mp er
    obtain ⟨e, r1, r2⟩ := two q1 q2 hx hy
    exact ⟨_, x, y, d, r1, r2, ed, hq _ _ (.sh e (.bl d))⟩
  case h_2 => exact h.elim
theorem so_neg (ok : Okc p P cx k X) (ha : PE X a (tE p P k Wx ca)) : PE X (.UnaryOp .USub a pos) (tE p P k Wx (.neg ca)) := by
  refine (pe_un un_neg ha).imp fun σ H Q ⟨W, ρ, g, h⟩ => ?_
  unfold evE at h
  refine tE.first g h fun v ρ1 u H1 q1 h => ?_
  split at h
  case h_1 i =>
    have r : Rep p H1 _ (.int i) u := q1.vr
    cases r
    exact ⟨i, rfl, h _ _ (.sh q1.e (.int _))⟩
  case h_2 => exact h.elim
theorem so_truth (ok : Okc p P cx k X) (ha : PE X a (tE p P k Wx ca)) (he : ∀ whole, isTrue a X.env whole = (do let v ← whole; standAt a.pos; holding [v] (truthy v))) : PT X a (tT p P k Wx ca) := by
  refine ⟨fun pins s σ H Q I ⟨W, ρ, g, h⟩ => ?_⟩
  refine isTrue_plain (thn (ha.run pins s σ H (fun u H1 => ∃ d b A, Rd1 p H1 A d u ∧ truth d = some b ∧ Q b H1) I (tE.first g h fun v ρ1 u H1 q1 h => ?_)) fun v s1 ⟨x, H1, I1, r1, d, b, A, rd, tr, q⟩ => truth_ok ok.K I1 r1 rd tr q) (he _)
  unfold rTruth at h
  cases hv : val ρ1 v with
  | none => simp only [hv] at h; exact h.elim
  | some d =>
    simp only [hv] at h
    obtain ⟨b, eb, hq⟩ := h.ofO
    exact ⟨d, b, _, q1.vr.read (q1.good.less Wv.base) hv, eb, hq _ q1.e⟩
theorem tT.first {α : Type} {F : Vl → Bool → Env → R α} {okP : α → Env → Prop} {Q : Bool → Hp → Prop} (g : Good p H W σ ρ) (h : RFin ((evE (fcOf P) (callF P k) ca ρ).bind fun v ρ1 => (rTruth v ρ1).bind fun b ρ2 => F v b ρ2) okP (exP p Wx H W σ ρ))
    (next : ∀ v b ρ1 H1, PostE p H W σ ρ ρ1 H1 → RFin (F v b ρ1) okP (exP p Wx H W σ ρ) → (∃ d, val ρ1 v = some d ∧ truth d = some b) → Q b H1) : tT p P k Wx ca σ H Q := by
  refine ⟨W, ρ, g, ?_⟩
  cases hr : evE (fcOf P) (callF P k) ca ρ with
  | bad => rw [hr] at h; exact h.elim
  | ex n ρ1 => rw [hr] at h; exact h
  | ok v ρ1 =>
    rw [hr] at h
    have h' : RFin ((rTruth v ρ1).bind fun b ρ2 => F v b ρ2) okP (exP p Wx H W σ ρ) := h
    show RFin (rTruth v ρ1) _ _
    unfold rTruth at h' ⊢
    cases hv : val ρ1 v with
    | none => simp only [hv] at h'; exact h'.elim
    | some d =>
      simp only [hv] at h' ⊢
      cases ht : truth d with
      | none => rw [ht] at h'; exact h'.elim
      | some b =>
        rw [ht] at h'
        intro H' q
        exact next v b ρ1 H' q h' ⟨d, hv, ht⟩
theorem so_not (ok : Okc p P cx k X) (ha : PT X a (tT p P k Wx ca)) : PT X (.UnaryOp .Not a pos) (tT p P k Wx (.not ca)) := by
  refine (pt_not ha).imp fun σ H Q ⟨W, ρ, g, h⟩ => ?_
  unfold evE at h
  have h' : RFin ((evE (fcOf P) (callF P k) ca ρ).bind fun v ρ1 => (rTruth v ρ1).bind fun b ρ1 => R.ok (!b) ρ1) (fun b ρ' => ∀ H', PostE p H W σ ρ ρ' H' → Q b H') (exP p Wx H W σ ρ) := by
    cases hr : evE (fcOf P) (callF P k) ca ρ with
    | bad => rw [hr] at h; exact h
    | ex n ρ1 => rw [hr] at h; exact h
    | ok v ρ1 =>
      rw [hr] at h
      show RFin ((rTruth v ρ1).bind _) _ _
      have h2 : RFin (((rTruth v ρ1).bind fun b ρ1 => R.ok (Vl.sh (.bl (!b))) ρ1).bind rTruth) (fun b ρ' => ∀ H', PostE p H W σ ρ ρ' H' → Q b H') (exP p Wx H W σ ρ) := h
      cases hb : rTruth v ρ1 with
      | bad => rw [hb] at h2; exact h2
      | ex n ρ2 => rw [hb] at h2; exact h2
      | ok b ρ2 => rw [hb] at h2; exact h2
  exact tT.first (F := fun _ b ρ1 => R.ok (!b) ρ1) g h' fun v b ρ1 H1 q h _ => h H1 q
end
end Lv
namespace Lv
open PySem PySem.Spec PyProof.Rows L2
section
variable {p : Pm} {P : List Fn} {cx : Cenv} {k : Nat} {X : L2.Cx} {Wx : WX} {H H' H1 H2 H₀ : Hp} {A W W1 : Addr → Prop} {σ : L2.St} {ρ ρ' ρ1 ρ2 : Env} {a b c : Expr} {ca cb cc : CE} {pos : Pos} {d : D} {u : V} {v : Vl}
theorem slot_set_same {i : Nat} {s : Sl} (h : i < ρ.length) : slot (ρ.set i s) i = s := by
  unfold slot
  rw [List.getD_eq_getElem?_getD, List.getElem?_set_self h]
  rfl
theorem slot_set_ne {i j : Nat} {s : Sl} (h : i ≠ j) : slot (ρ.set i s) j = slot ρ j := by
  unfold slot
  rw [List.getD_eq_getElem?_getD, List.getD_eq_getElem?_getD, List.getElem?_set_ne h]
theorem slot_lt {i : Nat} (h : slot ρ i ≠ .un) : i < ρ.length := by
  by_cases q : i < ρ.length
  · exact q
  · refine absurd ?_ h
    unfold slot
    rw [List.getD_eq_getElem?_getD, List.getElem?_eq_none (by omega)]
    rfl
theorem Top.rep {a : Addr} (t : Top p H A d a) (h : A a) : Rep p H A d (.ref a) := by
  cases d with
  | lst ds => obtain ⟨xs, e, r⟩ := t; exact .lst e h r
  | dic ds => obtain ⟨ks, e, r⟩ := t; exact .dk (.inl e) h r
  | _ => exact t.elim
theorem Good.give {i : Nat} (g : Good p H W σ ρ) (hs : slot ρ i = .ow d) : Good p H W σ (ρ.set i (.sh d)) ∧ (∃ a, σ[i]? = some (some (.ref a)) ∧ Rep p H (Av W σ (ρ.set i (.sh d))) d (.ref a)) ∧ ∀ b, Own σ (ρ.set i (.sh d)) b → Own σ ρ b := by
  have hi : i < ρ.length := slot_lt (by rw [hs]; exact fun z => nomatch z)
  have sub : ∀ b, Own σ (ρ.set i (.sh d)) b → Own σ ρ b := fun b ⟨j, e, hj, es⟩ => by
    by_cases q : i = j
    · subst q
      rw [slot_set_same hi] at hj
      cases hj
    · rw [slot_set_ne q] at hj
      exact ⟨j, e, hj, es⟩
  obtain ⟨a, es, nw, t⟩ := g.ow i d hs
  have na : ¬ Own σ (ρ.set i (.sh d)) a := fun ⟨j, e, hj, ej⟩ => by
    by_cases q : i = j
    · subst q
      rw [slot_set_same hi] at hj
      cases hj
    · rw [slot_set_ne q] at hj
      exact q (g.inj i j d e a hs hj es ej)
  have rep : Rep p H (Av W σ (ρ.set i (.sh d))) d (.ref a) := (t.mono (Av.less (fun _ w => w) sub)).rep ⟨nw, na⟩
  refine ⟨⟨by rw [List.length_set]; exact g.len, g.wt, fun j e hj => ?_, fun j e hj => ?_, fun j l e f b hj hl => ?_⟩, ⟨a, es, rep⟩, sub⟩
  · by_cases q : i = j
    · subst q
      rw [slot_set_same hi] at hj
      cases hj
      exact ⟨_, es, rep⟩
    · rw [slot_set_ne q] at hj
      obtain ⟨z, ez, r⟩ := g.sh j e hj
      exact ⟨z, ez, r.keep (.mono (Av.less (fun _ w => w) sub))⟩
  · by_cases q : i = j
    · subst q
      rw [slot_set_same hi] at hj
      cases hj
    · rw [slot_set_ne q] at hj
      obtain ⟨z, ez, nz, t⟩ := g.ow j e hj
      exact ⟨z, ez, nz, t.mono (Av.less (fun _ w => w) sub)⟩
  · have hj' : slot ρ j = .ow e := by
      by_cases q : i = j
      · subst q; rw [slot_set_same hi] at hj; cases hj
      · rw [slot_set_ne q] at hj; exact hj
    have hl' : slot ρ l = .ow f := by
      by_cases q : i = l
      · subst q; rw [slot_set_same hi] at hl; cases hl
      · rw [slot_set_ne q] at hl; exact hl
    exact g.inj j l e f b hj' hl'
theorem Good.fresh_av {a : Addr} (g : Good p H W σ ρ) (n : H a = none) : Av W σ ρ a := ⟨fun w => g.wt a w n, fun o => g.own_there o n⟩
theorem Post.letow (g : Good p H W σ ρ) (q : Post p H W σ ρ (.ow d) ρ1 u H1) : Rep p H1 (Av W σ ρ1) d u := by
  obtain ⟨a, e, n, t⟩ := q.vr
  subst e
  obtain ⟨x, y⟩ := g.fresh_av n
  exact (t.mono fun b h => h.1).rep ⟨x, fun o => y (q.sub a o)⟩
theorem Post.letgo {v : Vl} (g : Good p H W σ ρ) (q : Post p H W σ ρ v ρ1 u H1) (h : letgo ρ1 v = some (d, ρ2)) : PostE p H W σ ρ ρ2 H1 ∧ Rep p H1 (Av W σ ρ2) d u := by
  cases v with
  | sh d' => cases h; exact ⟨q.e, q.vr⟩
  | ow d' => cases h; exact ⟨q.e, q.letow g⟩
  | sl i =>
    unfold Lv.letgo at h
    have es : σ[i]? = some (some u) := q.vr
    cases hs : slot ρ1 i with
    | un => simp only [hs] at h; cases h
    | sh d' =>
      simp only [hs] at h
      cases h
      obtain ⟨z, ez, r⟩ := q.e.good.sh i d hs
      rw [es] at ez
      cases ez
      exact ⟨q.e, r⟩
    | ow d' =>
      simp only [hs] at h
      cases h
      obtain ⟨g2, ⟨a, ea, r⟩, sub⟩ := q.e.good.give hs
      rw [es] at ea
      cases ea
      exact ⟨⟨q.ext, q.trk, fun b o => q.sub b (sub b o), g2⟩, r⟩
inductive VRs (p : Pm) (H₀ : Hp) (W : Addr → Prop) (σ : L2.St) (ρ : Env) (H : Hp) : List Vl → List V → Prop
  | nil : VRs p H₀ W σ ρ H [] []
  | cons {v : Vl} {u : V} {vs : List Vl} {us : List V} : VR p H₀ W σ ρ H v u → (∀ d, v ≠ .ow d) → VRs p H₀ W σ ρ H vs us → VRs p H₀ W σ ρ H (v :: vs) (u :: us)
section
variable (p : Pm) (P : List Fn) (k : Nat) (Wx : WX)
def tVs (c : CEs) : TA := fun σ H Q => ∃ W ρ, Good p H W σ ρ ∧ RFin (evVs (fcOf P) (callF P k) c ρ) (fun vs ρ' => ∀ us H', PostE p H W σ ρ ρ' H' → VRs p H W σ ρ' H' vs us → Q us H') (exP p Wx H W σ ρ)
def tDs (c : CEs) : TA := fun σ H Q => ∃ W ρ, Good p H W σ ρ ∧ RFin (evEs (fcOf P) (callF P k) c ρ) (fun ds ρ' => ∀ us H', PostE p H W σ ρ ρ' H' → Reps p H' (Av W σ ρ') ds us → Q us H') (exP p Wx H W σ ρ)
end
theorem _root_.L2.PA.imp {es : List Expr} {t t' : TA} (h : PA X es t) (i : ∀ σ H Q, t' σ H Q → t σ H Q) : PA X es t' := ⟨fun pos pins s σ H Q I q => h.run pos pins s σ H Q I (i σ H Q q)⟩
theorem vs_nil : PA X [] (tVs p P k Wx .nil) := pa_nil.imp fun σ H Q ⟨W, ρ, g, h⟩ => h [] H (.refl g) .nil
theorem ds_nil : PA X [] (tDs p P k Wx .nil) := pa_nil.imp fun σ H Q ⟨W, ρ, g, h⟩ => h [] H (.refl g) .nil
theorem VRs.step {vs : List Vl} {us : List V} (x : VRs p H₀ W σ ρ1 H1 vs us) (g : Good p H1 W σ ρ1) (q : PostE p H1 W σ ρ1 ρ2 H2) : VRs p H₀ W σ ρ2 H2 vs us := by
  induction x with
  | nil => exact .nil
  | @cons v u vs us h n _ ih =>
    refine .cons ?_ n ih
    cases v with
    | sh d => exact VR.step h (by rw [Wv.sh]; exact g) (by rw [Wv.sh]; exact q)
    | ow d => exact absurd rfl (n d)
    | sl i => exact h
theorem VRs.weak {vs : List Vl} {us : List V} (x : VRs p H₀ W σ ρ1 H1 vs us) : VRs p H W σ ρ1 H1 vs us := by
  induction x with
  | nil => exact .nil
  | @cons v u vs us h n _ ih =>
    refine .cons ?_ n ih
    cases v with
    | sh d => exact h
    | ow d => exact absurd rfl (n d)
    | sl i => exact h
theorem vs_cons {e : Expr} {es : List Expr} {ce : CE} {ces : CEs} (he : PE X e (tE p P k Wx ce)) (hs : PA X es (tVs p P k Wx ces)) (hst : starEach (e :: es) X.env = (false, eval e X.env) :: starEach es X.env) : PA X (e :: es) (tVs p P k Wx (.cons ce ces)) := by
  refine (pa_cons he hs hst).imp fun σ H Q ⟨W, ρ, g, h⟩ => ?_
  unfold evVs at h
  refine tE.first g h fun v ρ1 u H1 q1 h => ?_
  have x1 : VR p H W σ ρ1 H1 (match (generalizing := false) v with | .ow d => Vl.sh d | v => v) u ∧ ∀ d, (match (generalizing := false) v with | .ow d => Vl.sh d | v => v) ≠ .ow d := by
    cases v with
    | sh d => exact ⟨q1.vr, fun _ z => nomatch z⟩
    | ow d => exact ⟨q1.letow g, fun _ z => nomatch z⟩
    | sl i => exact ⟨q1.vr, fun _ z => nomatch z⟩
  refine ⟨W, ρ1, q1.e.good, (h.bind).mono (fun vs ρ2 hf us H2 q2 r2 => ?_) fun n ρ' e => e.step q1.e fun _ w => w⟩
  refine hf (u :: us) H2 (q1.e.trans q2 fun _ w => w) (.cons ?_ x1.2 r2.weak)
  have x := VRs.step (.cons x1.1 x1.2 .nil) q1.e.good q2
  cases x with
  | cons h _ _ => exact h
theorem ds_cons {e : Expr} {es : List Expr} {ce : CE} {ces : CEs} (he : PE X e (tE p P k Wx ce)) (hs : PA X es (tDs p P k Wx ces)) (hst : starEach (e :: es) X.env = (false, eval e X.env) :: starEach es X.env) : PA X (e :: es) (tDs p P k Wx (.cons ce ces)) := by
  refine (pa_cons he hs hst).imp fun σ H Q ⟨W, ρ, g, h⟩ => ?_
  unfold evEs at h
  refine tE.first g h fun v ρ1 u H1 q1 h => ?_
  cases hl : letgo ρ1 v with
  | none => simp only [hl] at h; exact h.elim
  | some z =>
    obtain ⟨d, ρ2⟩ := z
    simp only [hl] at h
    obtain ⟨q2, r⟩ := q1.letgo g hl
    refine ⟨W, ρ2, q2.good, (h.bind).mono (fun ds ρ3 hf us H2 q3 r3 => ?_) fun n ρ' e => e.step q2 fun _ w => w⟩
    exact hf (u :: us) H2 (q2.trans q3 fun _ w => w) (.cons (r.keep (q2.good.keeps q3.ext (fun b h => h.2) (Av.less (fun _ w => w) q3.sub))) r3)
def lenCEs : CEs → Nat
  | .nil => 0
  | .cons _ es => lenCEs es + 1
theorem RFin.eq {α : Type} {r : R α} {okP : α → Env → Prop} {exP : Nat → Env → Prop} (h : RFin r okP exP) : RFin r (fun a ρ => r = .ok a ρ ∧ okP a ρ) exP := by
  cases r with
  | ok a ρ => exact ⟨rfl, h⟩
  | ex n ρ => exact h
  | bad => exact h
theorem R.bind_ok {α β : Type} {r : R α} {f : α → Env → R β} {b : β} {ρ : Env} (h : r.bind f = .ok b ρ) : ∃ a ρ1, r = .ok a ρ1 ∧ f a ρ1 = .ok b ρ := by
  cases r with
  | ok a ρ1 => exact ⟨a, ρ1, rfl, h⟩
  | ex n ρ => cases h
  | bad => cases h
theorem evEs_len {fc : Nat → List Bool} {call : Nat → Env → FR} : ∀ (ces : CEs) (ρ ρ' : Env) (ds : List D), evEs fc call ces ρ = .ok ds ρ' → ds.length = lenCEs ces
  | .nil, ρ, ρ', ds, h => by
    unfold evEs at h
    cases h
    rfl
  | .cons e es, ρ, ρ', ds, h => by
    unfold evEs at h
    obtain ⟨v, ρ1, _, h⟩ := R.bind_ok h
    cases hl : letgo ρ1 v with
    | none => simp only [hl] at h; cases h
    | some z =>
      obtain ⟨d, ρ2⟩ := z
      simp only [hl] at h
      obtain ⟨r, ρ3, h1, h2⟩ := R.bind_ok h
      cases h2
      rw [List.length_cons, evEs_len es _ _ _ h1]
      rfl
theorem so_tup {es : List Expr} {ces : CEs} {n : Nat} (hs : PA X es (tDs p P k Wx ces)) (hz : fits (lenCEs ces) = true) : PE X (.Tuple es n pos) (tE p P k Wx (.tup ces)) := by
  refine (pe_tup hs).imp fun σ H Q ⟨W, ρ, g, h⟩ => ?_
  unfold evE at h
  exact ⟨W, ρ, g, (h.bind.eq).mono (fun ds ρ1 ⟨e, hf⟩ us H1 q1 r => ⟨by rw [← r.length, evEs_len _ _ _ _ e]; exact fits_le hz, fun q n => hf _ _ (Made.post q1 (.tup n r))⟩) fun _ _ e => e⟩
theorem so_lst {es : List Expr} {ces : CEs} (hs : PA X es (tDs p P k Wx ces)) (hz : fits (lenCEs ces) = true) : PE X (.List es pos) (tE p P k Wx (.lst ces)) := by
  refine (pe_lst hs).imp fun σ H Q ⟨W, ρ, g, h⟩ => ?_
  unfold evE at h
  exact ⟨W, ρ, g, (h.bind.eq).mono (fun ds ρ1 ⟨e, hf⟩ us H1 q1 r => ⟨by rw [← r.length, evEs_len _ _ _ _ e]; exact fits_le hz, fun q n => hf _ _ (Made.post (d := .lst ds) q1 (.lst n r))⟩) fun _ _ e => e⟩
theorem VRs.reads {vs : List Vl} {us : List V} {ds : List D} (x : VRs p H₀ W σ ρ H vs us) (g : Good p H W σ ρ) (e : vals ρ vs = some ds) : Rd1s p H (Av W σ ρ) ds us := by
  induction x generalizing ds with
  | nil => cases e; exact .nil
  | @cons v u vs us h n _ ih =>
    unfold vals at e
    cases hv : val ρ v with
    | none => simp only [hv] at e; cases e
    | some d =>
      cases hvs : vals ρ vs with
      | none => simp only [hv, hvs] at e; cases e
      | some ds' =>
        simp only [hv, hvs] at e
        cases e
        exact .cons (VR.read h g hv) (ih hvs)
theorem so_bi_core (ok : Okc p P cx k X) (f : Bi) {ces : CEs} {σ : L2.St} {H : Hp} {Q : VK} (h : tE p P k Wx (.bi f ces) σ H Q) : tCB (rBi p f) (tVs p P k Wx ces) σ H Q := by
  obtain ⟨W, ρ, g, h⟩ := h
  unfold evE at h
  refine ⟨W, ρ, g, (h.bind).mono (fun vs ρ1 hf us H1 q1 x => ?_) fun _ _ e => e⟩
  cases hv : vals ρ1 vs with
  | none => simp only [hv] at hf; exact hf.elim
  | some ds =>
    simp only [hv] at hf
    obtain ⟨r, er, hq⟩ := hf.ofO
    obtain ⟨d, ed, rfl⟩ := Option.map_eq_some_iff.mp er
    exact ⟨_, ds, d, x.reads q1.good hv, ed, fun z H' m => hq z H' (m.post q1)⟩
theorem gl_of (ok : Okc p P cx k X) {x : Str} (hn : cx.names.lookup x = some .globalImplicit) : Gl X x := by
  unfold Gl Env.kindOf
  rw [ok.sc]
  exact hn
theorem so_biB (ok : Okc p P cx k X) (f : Bi) {id : String} (hf : biV f = .builtin id) {x : Str} {e : Expr} {es : List Expr} {ces : CEs} {pp : Pos} (hn : cx.names.lookup x = some .globalImplicit) (hb : x ∈ cx.blt) (hv : bootBuiltins x = some (.builtin id))
    (hs : PA X (e :: es) (tVs p P k Wx ces)) (hnn : x ≠ "__name__") (hdb : (x == ("__debug__" : Str)) = false) (he : starEach (e :: es) X.env = (false, eval e X.env) :: starEach es X.env) (hpl : (backTo pos (starEach es X.env)).any (·.1) = false) :
    PE X (.Call (.Name x pp) (e :: es) [] pos) (tE p P k Wx (.bi f ces)) :=
  (pe_callB (by have := biR ok.K ok.calm f; rw [hf] at this; exact this) (gl_of ok hn) (ok.glo.blt x hb) hv hs hnn hdb he hpl).imp fun _ _ _ h => so_bi_core ok f h
theorem so_biT (ok : Okc p P cx k X) (f : Bi) {id : String} (hf : biV f = .type id) {x : Str} {e : Expr} {es : List Expr} {ces : CEs} {pp : Pos} (hn : cx.names.lookup x = some .globalImplicit) (hb : x ∈ cx.blt) (hv : bootBuiltins x = some (.type id))
    (hs : PA X (e :: es) (tVs p P k Wx ces)) (hnn : x ≠ "__name__") (hdb : (x == ("__debug__" : Str)) = false) (he : starEach (e :: es) X.env = (false, eval e X.env) :: starEach es X.env) (hpl : (backTo pos (starEach es X.env)).any (·.1) = false) :
    PE X (.Call (.Name x pp) (e :: es) [] pos) (tE p P k Wx (.bi f ces)) :=
  (pe_callTy (by have := biR ok.K ok.calm f; rw [hf] at this; exact this) (gl_of ok hn) (ok.glo.blt x hb) hv hs hnn hdb he hpl).imp fun _ _ _ h => so_bi_core ok f h
theorem so_biI (ok : Okc p P cx k X) (f : Bi) {id : String} (hf : biV f = .builtin id) {x : Str} {e : Expr} {es : List Expr} {ces : CEs} {pp : Pos} (hn : cx.names.lookup x = some .globalImplicit) (hb : (x, id) ∈ cx.imp)
    (hs : PA X (e :: es) (tVs p P k Wx ces)) (hdb : (x == ("__debug__" : Str)) = false) (he : starEach (e :: es) X.env = (false, eval e X.env) :: starEach es X.env) (hpl : (backTo pos (starEach es X.env)).any (·.1) = false) :
    PE X (.Call (.Name x pp) (e :: es) [] pos) (tE p P k Wx (.bi f ces)) :=
  (pe_callBfun (by have := biR ok.K ok.calm f; rw [hf] at this; exact this) (gl_of ok hn) (ok.glo.imp x id hb) hs hdb he hpl).imp fun _ _ _ h => so_bi_core ok f h
theorem so_idx (ok : Okc p P cx k X) (ha : PE X a (tE p P k Wx ca)) (hb : PE X b (tE p P k Wx cb)) (hs : PlainIx b) : PE X (.Subscript a b pos) (tE p P k Wx (.idx ca cb)) := by
  refine (pe_ix (ixR ok.K (room_u ok.room)) ha hb hs).imp fun σ H Q ⟨W, ρ, g, h⟩ => ?_
  unfold evE at h
  refine tE.first g h fun v ρ1 u H1 q1 h => ?_
  refine tE.then q1.e q1.good Wv.base h fun w ρ2 u2 H2 q2 h => ?_
  split at h
  case h_1 x y hx hy =>
    obtain ⟨r, er, hq⟩ := h.ofO
    obtain ⟨d, ed, rfl⟩ := Option.map_eq_some_iff.mp er
    obtain ⟨e, r1, r2⟩ := two q1 q2 hx hy
    exact ⟨_, x, y, d, r1, r2, ed, fun z r => hq z H2 (.sh e r)⟩
  case h_2 => exact h.elim
theorem truV_ok (hK : p.K = X.K) {x : V} {kk : Bool} (h : Rd1 p H A d x) (e : truth d = some kk) (nd : ∀ kvs, d ≠ .dic kvs) : TruV X.K x H kk := by
  cases d with
  | non => cases e; have ex := h.non; subst ex; rfl
  | bl b => cases e; have ex := h.bl; subst ex; rfl
  | int i => cases e; have ex := h.int; subst ex; rfl
  | str z =>
    have ex := h.str
    subst ex
    have e' : (if fits z.length = true then some (z.length != 0) else none) = some kk := e
    split at e'
    · rename_i hf
      cases e'
      refine ⟨fits_le hf, ?_⟩
      by_cases hz : z.length = 0
      · rw [hz]; rfl
      · rw [(bne_iff_ne (a := z.length) (b := 0)).mpr hz]; exact (bne_iff_ne.mpr (by omega)).symm
    · cases e'
  | tup ds =>
    cases e
    obtain ⟨a, xs, rfl, hs, r⟩ := h.tup
    exact .inr (.inl ⟨xs, hK ▸ hs, by cases r <;> rfl⟩)
  | lst ds =>
    cases e
    obtain ⟨a, xs, rfl, hs, r⟩ := h.lst
    exact .inl ⟨xs, .inl (.inl hs), by cases r <;> rfl⟩
  | dic ds => exact absurd rfl (nd ds)
  | _ => cases e
end
end Lv
namespace Lv
open PySem PySem.Spec PyProof.Rows L2
section
variable {p : Pm} {P : List Fn} {cx : Cenv} {k : Nat} {X : L2.Cx} {Wx : WX} {H H' H1 H2 H₀ : Hp} {A W W1 : Addr → Prop} {σ : L2.St} {ρ ρ' ρ1 ρ2 : Env} {a b c : Expr} {ca cb cc : CE} {pos : Pos} {d : D} {u : V} {v : Vl} {rest : List Expr}
theorem _root_.L2.PW.imp {e : Expr} {t t' : TT} (h : PW X e t) (i : ∀ σ H Q, t' σ H Q → t σ H Q) : PW X e t' := ⟨fun wh pins s σ H Q I q => h.run wh pins s σ H Q I (i σ H Q q)⟩
theorem tE.firstT {α : Type} {F : Vl → Bool → Env → R α} {okP : α → Env → Prop} {Q : VK} (g : Good p H W σ ρ) (h : RFin ((evE (fcOf P) (callF P k) ca ρ).bind fun v ρ1 => (rTruth v ρ1).bind fun b ρ2 => F v b ρ2) okP (exP p Wx H W σ ρ))
    (next : ∀ v d b ρ1 u H1, Post p H W σ ρ v ρ1 u H1 → Rd1 p H1 (Av W σ ρ1) d u → truth d = some b → RFin (F v b ρ1) okP (exP p Wx H W σ ρ) → Q u H1) : tE p P k Wx ca σ H Q := by
  refine tE.first g h fun v ρ1 u H1 q1 h => ?_
  unfold rTruth at h
  cases hv : val ρ1 v with
  | none => simp only [hv] at h; exact h.elim
  | some d =>
    simp only [hv] at h
    cases ht : truth d with
    | none => rw [ht] at h; exact h.elim
    | some b =>
      rw [ht] at h
      exact next v d b ρ1 u H1 q1 (q1.vr.read (q1.good.less Wv.base |> fun g => g) hv |> fun r => r) ht h
theorem so_and (ok : Okc p P cx k X) (ha : PE X a (tE p P k Wx ca)) (hb : PE X (.BoolOp .And (b :: rest) pos) (tE p P k Wx cb)) : PE X (.BoolOp .And (a :: b :: rest) pos) (tE p P k Wx (.and ca cb)) := by
  refine ⟨fun pins s σ H Q I ⟨W, ρ, g, h⟩ => ?_⟩
  unfold evE at h
  refine BoolOp_and (thn (ha.run pins s σ H (fun x H1 => ∃ d b A, Rd1 p H1 A d x ∧ truth d = some b ∧ if b = true then tE p P k Wx cb σ H1 Q else Q x H1) I (tE.firstT (F := fun v kk ρ1 => if kk then evE (fcOf P) (callF P k) cb ρ1 else .ok v ρ1) g h fun v d b ρ1 u H1 q1 rd tr h => ⟨d, b, _, rd, tr, ?_⟩)) fun v s1 ⟨x, H1, I1, r1, d, b, A, rd, tr, q1⟩ => ?_)
  · cases b with
    | true => exact ⟨W, ρ1, q1.e.good, h.mono (fun v2 ρ2 hf u2 H2 q2 => hf u2 H2 ⟨fun b o e n => q2.ext b o (q1.ext b o e n) fun z => n (q1.sub b z), fun b e => q1.trk b (q2.trk b e), fun b z => q1.sub b (q2.sub b z), q2.good, by
        cases v2 with
        | sh d => exact q2.vr
        | ow d => obtain ⟨a, e, n, t⟩ := q2.vr; exact ⟨a, e, q1.trk a n, t⟩
        | sl i => exact q2.vr⟩) fun n ρ' e => e.step q1.e fun _ w => w⟩
    | false => exact h _ _ q1
  · refine thn (truth_ok (Q := fun b' H' => H' = H1 ∧ b' = b) ok.K I1 r1 rd tr ⟨rfl, rfl⟩) fun b' s2 ⟨H2, I2, e1, e2⟩ => ?_
    subst e1 e2
    cases b' with
    | true => exact hb.run pins s2 σ H2 Q I2 q1
    | false => exact ⟨x, H2, I2, r1, q1⟩
theorem so_or (ok : Okc p P cx k X) (ha : PE X a (tE p P k Wx ca)) (hb : PE X (.BoolOp .Or (b :: rest) pos) (tE p P k Wx cb)) : PE X (.BoolOp .Or (a :: b :: rest) pos) (tE p P k Wx (.or ca cb)) := by
  refine ⟨fun pins s σ H Q I ⟨W, ρ, g, h⟩ => ?_⟩
  unfold evE at h
  refine BoolOp_or (thn (ha.run pins s σ H (fun x H1 => ∃ d b A, Rd1 p H1 A d x ∧ truth d = some b ∧ if b = true then Q x H1 else tE p P k Wx cb σ H1 Q) I (tE.firstT (F := fun v kk ρ1 => if kk then .ok v ρ1 else evE (fcOf P) (callF P k) cb ρ1) g h fun v d b ρ1 u H1 q1 rd tr h => ⟨d, b, _, rd, tr, ?_⟩)) fun v s1 ⟨x, H1, I1, r1, d, b, A, rd, tr, q1⟩ => ?_)
  · cases b with
    | false => exact ⟨W, ρ1, q1.e.good, h.mono (fun v2 ρ2 hf u2 H2 q2 => hf u2 H2 ⟨fun b o e n => q2.ext b o (q1.ext b o e n) fun z => n (q1.sub b z), fun b e => q1.trk b (q2.trk b e), fun b z => q1.sub b (q2.sub b z), q2.good, by
        cases v2 with
        | sh d => exact q2.vr
        | ow d => obtain ⟨a, e, n, t⟩ := q2.vr; exact ⟨a, e, q1.trk a n, t⟩
        | sl i => exact q2.vr⟩) fun n ρ' e => e.step q1.e fun _ w => w⟩
    | true => exact h _ _ q1
  · refine thn (truth_ok (Q := fun b' H' => H' = H1 ∧ b' = b) ok.K I1 r1 rd tr ⟨rfl, rfl⟩) fun b' s2 ⟨H2, I2, e1, e2⟩ => ?_
    subst e1 e2
    cases b' with
    | false => exact hb.run pins s2 σ H2 Q I2 q1
    | true => exact ⟨x, H2, I2, r1, q1⟩
theorem Post.after {v : Vl} (q1 : PostE p H W σ ρ ρ1 H1) (q2 : Post p H1 W σ ρ1 v ρ2 u H2) : Post p H W σ ρ v ρ2 u H2 :=
  ⟨fun b o e n => q2.ext b o (q1.ext b o e n) fun z => n (q1.sub b z), fun b e => q1.trk b (q2.trk b e), fun b z => q1.sub b (q2.sub b z), q2.good, by
    cases v with
    | sh d => exact q2.vr
    | ow d => obtain ⟨a, e, n, t⟩ := q2.vr; exact ⟨a, e, q1.trk a n, t⟩
    | sl i => exact q2.vr⟩
theorem so_notV (ok : Okc p P cx k X) (ha : PE X a (tE p P k Wx ca)) : PE X (.UnaryOp .Not a pos) (tE p P k Wx (.not ca)) := by
  refine ⟨fun pins s σ H Q I ⟨W, ρ, g, h⟩ => ?_⟩
  unfold evE at h
  refine UnaryOp_ (thn (ha.run pins s σ H (fun x H1 => ∃ d b A, Rd1 p H1 A d x ∧ truth d = some b ∧ Q (.bl (!b)) H1) I (tE.firstT (F := fun _ kk ρ1 => R.ok (Vl.sh (D.bl (!kk))) ρ1) g h fun v d b ρ1 u H1 q1 rd tr h => ⟨d, b, _, rd, tr, h _ _ (.sh q1.e (.bl _))⟩)) fun v s1 ⟨x, H1, I1, r1, d, b, A, rd, tr, q1⟩ => ?_)
  refine not_of (thn (truth_ok (Q := fun b' H' => H' = H1 ∧ b' = b) ok.K I1 r1 rd tr ⟨rfl, rfl⟩) fun b' s2 ⟨H2, I2, e1, e2⟩ => ?_)
  subst e1 e2
  exact ⟨.bl (!b'), H2, I2, rfl, q1⟩
theorem so_ite (hc : PT X c (tT p P k Wx cc)) (ha : PE X a (tE p P k Wx ca)) (hb : PE X b (tE p P k Wx cb)) : PE X (.IfExp c a b pos) (tE p P k Wx (.ite cc ca cb)) := by
  refine (pe_ifExp hc ha hb).imp fun σ H Q ⟨W, ρ, g, h⟩ => ?_
  unfold evE at h
  refine tT.first (F := fun v kk ρ1 => if kk then evE (fcOf P) (callF P k) ca ρ1 else evE (fcOf P) (callF P k) cb ρ1) g h fun v b ρ1 H1 q1 h _ => ?_
  cases b with
  | true => exact ⟨W, ρ1, q1.good, h.mono (fun v2 ρ2 hf u2 H2 q2 => hf u2 H2 (q2.after q1)) fun n ρ' e => e.step q1 fun _ w => w⟩
  | false => exact ⟨W, ρ1, q1.good, h.mono (fun v2 ρ2 hf u2 H2 q2 => hf u2 H2 (q2.after q1)) fun n ρ' e => e.step q1 fun _ w => w⟩
theorem tT_of {Q : Bool → Hp → Prop} {t : TE} (i : ∀ Q', tE p P k Wx ca σ H Q' → t σ H Q') (h : tT p P k Wx ca σ H Q) (bl : ∀ (ρ : Env) v (ρ1 : Env), evE (fcOf P) (callF P k) ca ρ = .ok v ρ1 → ∃ b, v = .sh (.bl b)) : tTest t σ H Q := by
  obtain ⟨W, ρ, g, h⟩ := h
  refine i _ ⟨W, ρ, g, (h.bind.eq).mono (fun v ρ1 ⟨e, hf⟩ u H1 q => ?_) fun _ _ e => e⟩
  obtain ⟨b, rfl⟩ := bl ρ v ρ1 e
  have r : Rep p H1 _ (.bl b) u := q.vr
  cases r
  exact ⟨b, rfl, hf H1 q.e⟩
theorem ofO_bl {o : Option Bool} {v : Vl} (h : ofO (o.map fun k => Vl.sh (.bl k)) ρ = .ok v ρ1) : ∃ b, v = .sh (.bl b) := by
  cases o with
  | none => cases h
  | some b => cases h; exact ⟨b, rfl⟩
theorem cmp_bl {o : Cop} {ca cb : CE} {v : Vl} (h : evE (fcOf P) (callF P k) (.cmp o ca cb) ρ = .ok v ρ1) : ∃ b, v = .sh (.bl b) := by
  unfold evE at h
  obtain ⟨v1, ρ2, _, h⟩ := R.bind_ok h
  obtain ⟨v2, ρ3, _, h⟩ := R.bind_ok h
  split at h
  · exact ofO_bl h
  · cases h
theorem so_cmpT (ok : Okc p P cx k X) (o : Cop) (ha : PE X a (tE p P k Wx ca)) (hb : PE X b (tE p P k Wx cb)) (hm : behindInMarks (cmpOf o) b = false) : PT X (.Compare a [cmpOf o] [b] pos) (tT p P k Wx (.cmp o ca cb)) := by
  refine (pt_cmpR (opR_cmp ok.K (room_u ok.room) o) ha hb hm).imp fun σ H Q h => tT_of (fun Q' ⟨W, ρ, g, h⟩ => ?_) h fun _ _ _ e => cmp_bl e
  unfold evE at h
  refine tE.first g h fun v ρ1 u H1 q1 h => ?_
  refine tE.then q1.e q1.good Wv.base h fun w ρ2 u2 H2 q2 h => ?_
  split at h
  case h_1 x y hx hy =>
    obtain ⟨r, er, hq⟩ := h.ofO
    obtain ⟨d, ed, rfl⟩ := Option.map_eq_some_iff.mp er
    obtain ⟨e, r1, r2⟩ := two q1 q2 hx hy
    exact ⟨_, x, y, d, r1, r2, ed, hq _ _ (.sh e (.bl d))⟩
  case h_2 => exact h.elim
theorem so_andT (ha : PT X a (tT p P k Wx ca)) (hb : PW X (.BoolOp .And (b :: rest) pos) (tT p P k Wx cb)) : PW X (.BoolOp .And (a :: b :: rest) pos) (tT p P k Wx (.and ca cb)) := by
  refine (pw_and ha hb).imp fun σ H Q ⟨W, ρ, g, h⟩ => ?_
  have h' : RFin ((evE (fcOf P) (callF P k) ca ρ).bind fun v ρ1 => (rTruth v ρ1).bind fun kk ρ2 => if kk then (evE (fcOf P) (callF P k) cb ρ2).bind rTruth else rTruth v ρ2) (fun b ρ' => ∀ H', PostE p H W σ ρ ρ' H' → Q b H') (exP p Wx H W σ ρ) := by
    unfold evE at h
    cases hr : evE (fcOf P) (callF P k) ca ρ with
    | bad => rw [hr] at h; exact h
    | ex n ρ1 => rw [hr] at h; exact h
    | ok v ρ1 =>
      rw [hr] at h
      have h2 : RFin (((rTruth v ρ1).bind fun kk ρ1 => if kk = true then evE (fcOf P) (callF P k) cb ρ1 else R.ok v ρ1).bind rTruth) _ _ := h
      show RFin ((rTruth v ρ1).bind _) _ _
      cases hb : rTruth v ρ1 with
      | bad => rw [hb] at h2; exact h2
      | ex n ρ2 => rw [hb] at h2; exact h2
      | ok b ρ2 =>
        rw [hb] at h2
        cases b <;> exact h2
  refine tT.first (F := fun v kk ρ2 => if kk then (evE (fcOf P) (callF P k) cb ρ2).bind rTruth else rTruth v ρ2) g h' fun v b ρ1 H1 q1 h ⟨d, hv, ht⟩ => ?_
  cases b with
  | true => exact ⟨W, ρ1, q1.good, h.mono (fun v2 ρ2 hf H2 q2 => hf H2 (q1.trans q2 fun _ w => w)) fun n ρ' e => e.step q1 fun _ w => w⟩
  | false =>
    have h2 : RFin (rTruth v ρ1) _ _ := h
    unfold rTruth at h2
    simp only [hv, ht] at h2
    exact h2 H1 q1
theorem so_orT (ha : PT X a (tT p P k Wx ca)) (hb : PW X (.BoolOp .Or (b :: rest) pos) (tT p P k Wx cb)) : PW X (.BoolOp .Or (a :: b :: rest) pos) (tT p P k Wx (.or ca cb)) := by
  refine (pw_or ha hb).imp fun σ H Q ⟨W, ρ, g, h⟩ => ?_
  have h' : RFin ((evE (fcOf P) (callF P k) ca ρ).bind fun v ρ1 => (rTruth v ρ1).bind fun kk ρ2 => if kk then rTruth v ρ2 else (evE (fcOf P) (callF P k) cb ρ2).bind rTruth) (fun b ρ' => ∀ H', PostE p H W σ ρ ρ' H' → Q b H') (exP p Wx H W σ ρ) := by
    unfold evE at h
    cases hr : evE (fcOf P) (callF P k) ca ρ with
    | bad => rw [hr] at h; exact h
    | ex n ρ1 => rw [hr] at h; exact h
    | ok v ρ1 =>
      rw [hr] at h
      have h2 : RFin (((rTruth v ρ1).bind fun kk ρ1 => if kk = true then R.ok v ρ1 else evE (fcOf P) (callF P k) cb ρ1).bind rTruth) _ _ := h
      show RFin ((rTruth v ρ1).bind _) _ _
      cases hb : rTruth v ρ1 with
      | bad => rw [hb] at h2; exact h2
      | ex n ρ2 => rw [hb] at h2; exact h2
      | ok b ρ2 =>
        rw [hb] at h2
        cases b <;> exact h2
  refine tT.first (F := fun v kk ρ2 => if kk then rTruth v ρ2 else (evE (fcOf P) (callF P k) cb ρ2).bind rTruth) g h' fun v b ρ1 H1 q1 h ⟨d, hv, ht⟩ => ?_
  cases b with
  | false => exact ⟨W, ρ1, q1.good, h.mono (fun v2 ρ2 hf H2 q2 => hf H2 (q1.trans q2 fun _ w => w)) fun n ρ' e => e.step q1 fun _ w => w⟩
  | true =>
    have h2 : RFin (rTruth v ρ1) _ _ := h
    unfold rTruth at h2
    simp only [hv, ht] at h2
    exact h2 H1 q1
theorem chn_tE (hK : p.K = X.K) {o o' : Cop} {Q : VK} (h : tE p P k Wx (.chn o o' ca cb cc) σ H Q) : tChain (rC p (cmp o)) (rC p (cmp o')) (tE p P k Wx ca) (tE p P k Wx cb) (tE p P k Wx cc) σ H Q := by
  obtain ⟨W, ρ, g, h⟩ := h
  unfold evE at h
  refine tE.first g h fun v ρ1 u H1 q1 h => ?_
  refine tE.then q1.e q1.good Wv.base h fun w ρ2 u2 H2 q2 h => ?_
  split at h
  case h_1 x y hx =>
    obtain ⟨e, r1, r2⟩ := two (w := .sh y) q1 q2 hx rfl
    split at h
    case h_1 hc =>
      refine ⟨_, x, y, true, r1, r2, hc, true, rfl, ?_⟩
      refine tE.then e e.good (fun _ w => w) h fun t ρ3 u3 H3 q3 h => ?_
      split at h
      case h_1 z hz =>
        obtain ⟨r, er, hq⟩ := h.ofO
        obtain ⟨d, ed, rfl⟩ := Option.map_eq_some_iff.mp er
        have e3 : PostE p H W σ ρ ρ3 H3 := e.trans q3.e fun _ w => w
        have r2' : Rep p H2 (Av W σ ρ2) y u2 := q2.vr.keep (.mono (Av.less Wv.base fun _ o => o))
        have r3 : Rep p H3 (Av W σ ρ3) y u2 := r2'.keep (e.good.keeps q3.ext (fun b h => h.2) (Av.less (fun _ w => w) q3.sub))
        exact ⟨_, y, z, d, .inl r3, q3.vr.read e3.good hz, ed, hq _ _ (.sh e3 (.bl d))⟩
      case h_2 => exact h.elim
    case h_2 hc =>
      exact ⟨_, x, y, false, r1, r2, hc, false, rfl, h _ _ (.sh e (.bl false))⟩
    case h_3 => exact h.elim
  case h_2 => exact h.elim
theorem so_chn (ok : Okc p P cx k X) (o o' : Cop) (ha : PE X a (tE p P k Wx ca)) (hb : PE X b (tE p P k Wx cb)) (hc : PE X c (tE p P k Wx cc)) (hm : lastMarks [cmpOf o, cmpOf o'] [b, c] = false) : PE X (.Compare a [cmpOf o, cmpOf o'] [b, c] pos) (tE p P k Wx (.chn o o' ca cb cc)) :=
  (pe_chain (opR_cmp ok.K (room_u ok.room) o) (opR_cmp ok.K (room_u ok.room) o') ha hb hc hm).imp fun _ _ _ h => chn_tE ok.K h
theorem chn_bl {o o' : Cop} {v : Vl} (h : evE (fcOf P) (callF P k) (.chn o o' ca cb cc) ρ = .ok v ρ1) : ∃ b, v = .sh (.bl b) := by
  unfold evE at h
  obtain ⟨v1, ρ2, _, h⟩ := R.bind_ok h
  obtain ⟨v2, ρ3, _, h⟩ := R.bind_ok h
  split at h
  · split at h
    · obtain ⟨v3, ρ4, _, h⟩ := R.bind_ok h
      split at h
      · exact ofO_bl h
      · cases h
    · cases h; exact ⟨false, rfl⟩
    · cases h
  · cases h
theorem so_chnT (ok : Okc p P cx k X) (o o' : Cop) (ha : PE X a (tE p P k Wx ca)) (hb : PE X b (tE p P k Wx cb)) (hc : PE X c (tE p P k Wx cc)) (hm : lastMarks [cmpOf o, cmpOf o'] [b, c] = false) : PT X (.Compare a [cmpOf o, cmpOf o'] [b, c] pos) (tT p P k Wx (.chn o o' ca cb cc)) :=
  (pt_chain (opR_cmp ok.K (room_u ok.room) o) (opR_cmp ok.K (room_u ok.room) o') ha hb hc hm).imp fun _ _ _ h => tT_of (fun _ h => chn_tE ok.K h) h fun _ _ _ e => chn_bl e
end
end Lv
namespace Lv
open PySem PySem.Spec PyProof.Rows L2
section
variable {p : Pm} {P : List Fn} {cx : Cenv} {k : Nat} {X : L2.Cx} {Wx : WX} {H H' H1 H2 H₀ : Hp} {A W W1 : Addr → Prop} {σ : L2.St} {ρ ρ' ρ1 ρ2 : Env} {pos : Pos} {d : D} {u : V} {v : Vl}
inductive Lent (p : Pm) (H : Hp) (W : Addr → Prop) (σ : L2.St) (ρ : Env) : List Vl → Env → List V → Prop
  | nil : Lent p H W σ ρ [] [] []
  | sh {v : Vl} {vs : List Vl} {d : D} {as : Env} {u : V} {us : List V} : Rep p H (Av W σ ρ) d u → Lent p H W σ ρ vs as us → Lent p H W σ ρ (v :: vs) (.sh d :: as) (u :: us)
  | ow {j : Nat} {vs : List Vl} {d : D} {as : Env} {u : V} {us : List V} : slot ρ j = .ow d → σ[j]? = some (some u) → sole j vs = true → Lent p H W σ ρ vs as us → Lent p H W σ ρ (.sl j :: vs) (.ow d :: as) (u :: us)
theorem lend_sole : ∀ {vs : List Vl} {as : List Bool} {ρ ρ' args : Env} {j : Nat}, lend ρ as vs = some (args, ρ') → sole j vs = true → slot ρ' j = slot ρ j
  | [], as, ρ, ρ', args, j, h, _ => by
    unfold lend at h
    cases h
    rfl
  | v :: vs, as, ρ, ρ', args, j, h, hs => by
    have rec_ : ∀ {ρ1 : Env} {as'} {f : Env → Env}, (match lend ρ1 as' vs with | some (r, ρ') => some (f r, ρ') | none => none) = some (args, ρ') → sole j vs = true → slot ρ' j = slot ρ1 j := by
      intro ρ1 as' f h hs
      cases q : lend ρ1 as' vs with
      | none => rw [q] at h; cases h
      | some z => rw [q] at h; cases h; exact lend_sole q hs
    cases v with
    | sh d => exact rec_ (f := fun r => .sh d :: r) h hs
    | ow d => exact rec_ (f := fun r => .sh d :: r) h hs
    | sl i =>
      have hs' : (decide (j ≠ i) && sole j vs) = true := hs
      obtain ⟨n, hs2⟩ := Bool.and_eq_true_iff.mp hs'
      have n := of_decide_eq_true n
      unfold lend at h
      cases q : slot ρ i with
      | un => simp only [q] at h; cases h
      | sh d => simp only [q] at h; exact rec_ (f := fun r => .sh d :: r) h hs2
      | ow d =>
        simp only [q] at h
        split at h
        · rw [rec_ (f := fun r => .sh d :: r) h hs2, slot_set_ne (Ne.symm n)]
        · exact rec_ (f := fun r => .ow d :: r) h hs2
theorem lend_ok : ∀ {vs : List Vl} {as : List Bool} {ρ ρ' args : Env} {us : List V}, lend ρ as vs = some (args, ρ') → Good p H W σ ρ → VRs p H₀ W σ ρ H vs us →
    Good p H W σ ρ' ∧ (∀ b, Own σ ρ' b → Own σ ρ b) ∧ Lent p H W σ ρ' vs args us
  | [], as, ρ, ρ', args, us, h, g, x => by
    unfold lend at h
    cases h
    cases x
    exact ⟨g, fun _ o => o, .nil⟩
  | v :: vs, as, ρ, ρ', args, us, h, g, x => by
    cases x with
    | @cons _ u _ us hv hn hs =>
      cases v with
      | ow d => exact absurd rfl (hn d)
      | sh d =>
        unfold lend at h
        simp only at h
        cases q : lend ρ as.tail vs with
        | none => simp only [q] at h; cases h
        | some z =>
          obtain ⟨r, ρ2⟩ := z
          simp only [q] at h
          cases h
          obtain ⟨g2, sub, l⟩ := lend_ok q g hs
          exact ⟨g2, sub, .sh (Rep.keep (.mono (Av.less (fun _ w => w) sub)) hv) l⟩
      | sl i =>
        have es : σ[i]? = some (some u) := hv
        unfold lend at h
        simp only at h
        cases qs : slot ρ i with
        | un => simp only [qs] at h; cases h
        | sh d =>
          simp only [qs] at h
          cases q : lend ρ as.tail vs with
          | none => simp only [q] at h; cases h
          | some z =>
            obtain ⟨r, ρ2⟩ := z
            simp only [q] at h
            cases h
            obtain ⟨g2, sub, l⟩ := lend_ok q g hs
            obtain ⟨z, ez, rz⟩ := g.sh i d qs
            rw [es] at ez
            cases ez
            exact ⟨g2, sub, .sh (rz.keep (.mono (Av.less (fun _ w => w) sub))) l⟩
        | ow d =>
          simp only [qs] at h
          split at h
          · cases q : lend (ρ.set i (.sh d)) as.tail vs with
            | none => simp only [q] at h; cases h
            | some z =>
              obtain ⟨r, ρ2⟩ := z
              simp only [q] at h
              cases h
              obtain ⟨g1, ⟨a, ea, ra⟩, sub1⟩ := g.give qs
              rw [es] at ea
              cases ea
              have e0 : PostE p H W σ ρ (ρ.set i (.sh d)) H := ⟨fun _ _ e _ => e, fun _ e => e, sub1, g1⟩
              obtain ⟨g2, sub, l⟩ := lend_ok q g1 (hs.step g e0)
              exact ⟨g2, fun b o => sub1 b (sub b o), .sh (ra.keep (.mono (Av.less (fun _ w => w) sub))) l⟩
          · rename_i hc
            cases q : lend ρ as.tail vs with
            | none => simp only [q] at h; cases h
            | some z =>
              obtain ⟨r, ρ2⟩ := z
              simp only [q] at h
              cases h
              obtain ⟨g2, sub, l⟩ := lend_ok q g hs
              have so : sole i vs = true := by
                cases hso : sole i vs with
                | true => rfl
                | false => rw [hso] at hc; exact absurd (by simp) hc
              exact ⟨g2, sub, .ow ((lend_sole q so).trans qs) es so l⟩
def bk : List Vl → Env → Env → Nat → Option Sl
  | .sl j :: vs, .ow _ :: as, o :: os, i => if j = i then some o else bk vs as os i
  | _ :: vs, _ :: as, _ :: os, i => bk vs as os i
  | _, _, _, _ => none
theorem bk_sole {j : Nat} : ∀ {vs : List Vl} {as os : Env}, sole j vs = true → bk vs as os j = none
  | [], _, _, _ => by unfold bk; rfl
  | v :: vs, [], _, _ => by cases v <;> rfl
  | v :: vs, a :: as, [], _ => by cases v <;> cases a <;> rfl
  | v :: vs, a :: as, o :: os, h => by
    cases v with
    | sh d => exact bk_sole (vs := vs) h
    | ow d => exact bk_sole (vs := vs) h
    | sl i =>
      have h' : (decide (j ≠ i) && sole j vs) = true := h
      obtain ⟨n, h2⟩ := Bool.and_eq_true_iff.mp h'
      have n := of_decide_eq_true n
      cases a with
      | ow d =>
        show (if i = j then some o else bk vs as os j) = none
        rw [if_neg (Ne.symm n)]
        exact bk_sole h2
      | un => exact bk_sole (vs := vs) h2
      | sh d => exact bk_sole (vs := vs) h2
theorem slot_back {i : Nat} {H : Hp} : ∀ {vs : List Vl} {as os : Env} {us : List V} {ρ ρ0 : Env}, Lent p H W σ ρ0 vs as us → os.length = us.length → ρ.length = ρ0.length → slot (back ρ vs as os) i = (bk vs as os i).getD (slot ρ i)
  | _, _, os, _, ρ, ρ0, .nil, _, _ => by
    unfold back bk
    rfl
  | _, _, [], _, ρ, ρ0, .sh _ _, h, _ => by cases h
  | _, _, [], _, ρ, ρ0, .ow _ _ _ _, h, _ => by cases h
  | _, _, o :: os, _, ρ, ρ0, .sh (v := v) (vs := vs) (as := as) (d := d) (us := us) _ l, h, hl => by
    have e1 : back ρ (v :: vs) (.sh d :: as) (o :: os) = back ρ vs as os := by cases v <;> rfl
    have e2 : bk (v :: vs) (.sh d :: as) (o :: os) i = bk vs as os i := by cases v <;> rfl
    rw [e1, e2]
    exact slot_back l (by simpa using h) hl
  | _, _, o :: os, _, ρ, ρ0, .ow (j := j) (vs := vs) (as := as) (d := d) (us := us) hs es so l, h, hl => by
    have e1 : back ρ (.sl j :: vs) (.ow d :: as) (o :: os) = back (ρ.set j o) vs as os := rfl
    have e2 : bk (.sl j :: vs) (.ow d :: as) (o :: os) i = if j = i then some o else bk vs as os i := rfl
    rw [e1, e2, slot_back (ρ := ρ.set j o) l (by simpa using h) (by rw [List.length_set]; exact hl)]
    by_cases q : j = i
    · subst q
      rw [if_pos rfl, bk_sole so]
      exact slot_set_same (by rw [hl]; exact slot_lt (by rw [hs]; exact fun z => nomatch z))
    · rw [if_neg q, slot_set_ne q]
theorem slot_zero {s : Sl} {r : Env} : slot (s :: r) 0 = s := rfl
theorem slot_succ {s : Sl} {r : Env} {i : Nat} : slot (s :: r) (i + 1) = slot r i := rfl
theorem bk_some {i : Nat} {o : Sl} : ∀ {vs : List Vl} {as os : Env} {us : List V}, Lent p H W σ ρ vs as us → bk vs as os i = some o → ∃ m d u, slot as m = .ow d ∧ slot os m = o ∧ slot ρ i = .ow d ∧ us[m]? = some u ∧ σ[i]? = some (some u)
  | _, _, os, _, .nil, h => by
    unfold bk at h
    cases h
  | _, _, [], _, .sh (v := v) _ _, h => by cases v <;> cases h
  | _, _, [], _, .ow _ _ _ _, h => by cases h
  | _, _, o' :: os, _, .sh (v := v) (vs := vs) (as := as) (d := d) (us := us) _ l, h => by
    have e2 : bk (v :: vs) (.sh d :: as) (o' :: os) i = bk vs as os i := by cases v <;> rfl
    rw [e2] at h
    obtain ⟨m, d', u, h1, h2, h3, h4, h5⟩ := bk_some l h
    exact ⟨m + 1, d', u, h1, h2, h3, by simpa using h4, h5⟩
  | _, _, o' :: os, _, .ow (j := j) (vs := vs) (as := as) (d := d) (us := us) hs es so l, h => by
    have e2 : bk (.sl j :: vs) (.ow d :: as) (o' :: os) i = if j = i then some o' else bk vs as os i := rfl
    rw [e2] at h
    by_cases q : j = i
    · subst q
      rw [if_pos rfl] at h
      cases h
      exact ⟨0, d, _, rfl, rfl, hs, rfl, es⟩
    · rw [if_neg q] at h
      obtain ⟨m, d', u, h1, h2, h3, h4, h5⟩ := bk_some l h
      exact ⟨m + 1, d', u, h1, h2, h3, by simpa using h4, h5⟩
theorem lent_at {m : Nat} {d : D} : ∀ {vs : List Vl} {as os : Env} {us : List V}, Lent p H W σ ρ vs as us → os.length = us.length → slot as m = .ow d → ∃ i u, bk vs as os i = some (slot os m) ∧ slot ρ i = .ow d ∧ us[m]? = some u ∧ σ[i]? = some (some u) ∧ ∀ j, sole j vs = true → j ≠ i
  | _, _, os, _, .nil, _, h => by
    have : slot ([] : Env) m = .un := by unfold slot; simp
    rw [this] at h
    cases h
  | _, _, [], _, .sh (v := v) _ _, h, _ => by cases h
  | _, _, [], _, .ow _ _ _ _, h, _ => by cases h
  | _, _, o' :: os, _, .sh (v := v) (vs := vs) (as := as) (d := d') (us := us) _ l, hl, h => by
    cases m with
    | zero => rw [slot_zero] at h; cases h
    | succ m =>
      rw [slot_succ] at h
      obtain ⟨i, u, h1, h2, h3, h4, h5⟩ := lent_at (m := m) (os := os) l (by simpa using hl) h
      have e2 : bk (v :: vs) (.sh d' :: as) (o' :: os) i = bk vs as os i := by cases v <;> rfl
      refine ⟨i, u, by rw [e2, slot_succ]; exact h1, h2, by simpa using h3, h4, fun j hj => h5 j ?_⟩
      cases v with
      | sh _ => exact hj
      | ow _ => exact hj
      | sl _ => exact (Bool.and_eq_true_iff.mp (show (_ && sole j vs) = true from hj)).2
  | _, _, o' :: os, _, .ow (j := j) (vs := vs) (as := as) (d := d') (us := us) hs es so l, hl, h => by
    cases m with
    | zero =>
      rw [slot_zero] at h
      cases h
      refine ⟨j, _, ?_, hs, rfl, es, fun j' hj' => of_decide_eq_true (Bool.and_eq_true_iff.mp (show (decide (j' ≠ j) && sole j' vs) = true from hj')).1⟩
      show (if j = j then some o' else _) = _
      rw [if_pos rfl]
      rfl
    | succ m =>
      rw [slot_succ] at h
      obtain ⟨i, u, h1, h2, h3, h4, h5⟩ := lent_at (m := m) (os := os) l (by simpa using hl) h
      have e2 : bk (.sl j :: vs) (.ow d' :: as) (o' :: os) i = if j = i then some o' else bk vs as os i := rfl
      refine ⟨i, u, by rw [e2, slot_succ, if_neg (h5 j so)]; exact h1, h2, by simpa using h3, h4, fun j' hj' => h5 j' (Bool.and_eq_true_iff.mp (show (decide (j' ≠ j) && sole j' vs) = true from hj')).2⟩
theorem lent_len : ∀ {vs : List Vl} {as : Env} {us : List V}, Lent p H W σ ρ vs as us → as.length = us.length
  | _, _, _, .nil => rfl
  | _, _, _, .sh _ l => congrArg (· + 1) (lent_len l)
  | _, _, _, .ow _ _ _ l => congrArg (· + 1) (lent_len l)
theorem lent_sh {m : Nat} {d : D} : ∀ {vs : List Vl} {as : Env} {us : List V}, Lent p H W σ ρ vs as us → slot as m = .sh d → ∃ u, us[m]? = some u ∧ Rep p H (Av W σ ρ) d u
  | _, _, _, .nil, h => by
    have : slot ([] : Env) m = .un := by unfold slot; simp
    rw [this] at h
    cases h
  | _, _, _, .sh r l, h => by
    cases m with
    | zero => rw [slot_zero] at h; cases h; exact ⟨_, rfl, r⟩
    | succ m =>
      obtain ⟨u, e, r⟩ := lent_sh (m := m) l h
      exact ⟨u, by simpa using e, r⟩
  | _, _, _, .ow _ _ _ l, h => by
    cases m with
    | zero => rw [slot_zero] at h; cases h
    | succ m =>
      obtain ⟨u, e, r⟩ := lent_sh (m := m) l h
      exact ⟨u, by simpa using e, r⟩
theorem getM {us : List V} {m : Nat} {u : V} (h : us[m]? = some u) : (us.map some)[m]? = some (some u) := by rw [List.getElem?_map, h]; rfl
def Wc (W : Addr → Prop) (σ : L2.St) (ρ : Env) (us : List V) (as : Env) : Addr → Prop := fun b => W b ∨ (Own σ ρ b ∧ ¬ Own (us.map some) as b)
theorem lent_own {vs : List Vl} {as : Env} {us : List V} (l : Lent p H W σ ρ vs as us) : ∀ b, Own (us.map some) as b → Own σ ρ b := fun b ⟨m, d, h, e⟩ => by
  obtain ⟨i, u, _, h2, h3, h4, _⟩ := lent_at (os := as) l (lent_len l) h
  rw [getM h3] at e
  cases e
  exact ⟨i, d, h2, h4⟩
theorem lent_good {vs : List Vl} {as : Env} {us : List V} (g : Good p H W σ ρ) (l : Lent p H W σ ρ vs as us) : Good p H (Wc W σ ρ us as) (us.map some) as := by
  have av : ∀ b, Av W σ ρ b → Av (Wc W σ ρ us as) (us.map some) as b := fun b ⟨x, y⟩ => ⟨fun w => w.elim x fun o => y o.1, fun o => y (lent_own l b o)⟩
  refine ⟨by rw [List.length_map]; exact lent_len l, fun b w => w.elim (g.wt b) fun o => g.own_there o.1, fun m d h => ?_, fun m d h => ?_, fun m n d e b hm hn em en => ?_⟩
  · obtain ⟨u, e, r⟩ := lent_sh l h
    exact ⟨u, getM e, r.keep (.mono av)⟩
  · obtain ⟨i, u, _, h2, h3, h4, _⟩ := lent_at (os := as) l (lent_len l) h
    obtain ⟨a, ea, nw, t⟩ := g.ow i d h2
    rw [h4] at ea
    cases ea
    exact ⟨a, getM h3, fun w => w.elim nw fun o => o.2 ⟨m, d, h, getM h3⟩, t.mono av⟩
  · obtain ⟨i, u, b1, h2, h3, h4, _⟩ := lent_at (os := as) l (lent_len l) hm
    obtain ⟨j, u', b2, k2, k3, k4, _⟩ := lent_at (os := as) l (lent_len l) hn
    rw [getM h3] at em
    cases em
    rw [getM k3] at en
    cases en
    have ij := g.inj i j d e b h2 k2 h4 k4
    subst ij
    exact lent_inj l hm hn h3 k3 g h2 k2 h4 k4
where
  lent_inj {vs : List Vl} {as : Env} {us : List V} {m n i : Nat} {d e : D} {b : Addr} (l : Lent p H W σ ρ vs as us) (hm : slot as m = .ow d) (hn : slot as n = .ow e) (h3 : us[m]? = some (.ref b)) (k3 : us[n]? = some (.ref b)) (g : Good p H W σ ρ)
      (_ : slot ρ i = .ow d) (_ : slot ρ i = .ow e) (_ : σ[i]? = some (some (.ref b))) (_ : σ[i]? = some (some (.ref b))) : m = n := by
    induction l generalizing m n with
    | nil =>
      have : slot ([] : Env) m = .un := by unfold slot; simp
      rw [this] at hm
      cases hm
    | sh r l ih =>
      cases m with
      | zero => rw [slot_zero] at hm; cases hm
      | succ m =>
        cases n with
        | zero => rw [slot_zero] at hn; cases hn
        | succ n => rw [ih hm hn (by simpa using h3) (by simpa using k3)]
    | @ow j vs d' as u us hs es so l ih =>
      cases m with
      | zero =>
        cases n with
        | zero => rfl
        | succ n =>
          obtain ⟨i2, u2, _, a2, a3, a4, a5⟩ := lent_at (os := as) l (lent_len l) hn
          have e1 : u = .ref b := Option.some.inj h3
          have e2 : u2 = .ref b := Option.some.inj (a3.symm.trans (by simpa using k3))
          subst e1 e2
          exact absurd (g.inj j i2 d' e b hs a2 es a4) (a5 j so)
      | succ m =>
        cases n with
        | zero =>
          obtain ⟨i2, u2, _, a2, a3, a4, a5⟩ := lent_at (os := as) l (lent_len l) hm
          have e1 : u = .ref b := Option.some.inj k3
          have e2 : u2 = .ref b := Option.some.inj (a3.symm.trans (by simpa using h3))
          subst e1 e2
          exact absurd (g.inj j i2 d' d b hs a2 es a4) (a5 j so)
        | succ n => rw [ih hm hn (by simpa using h3) (by simpa using k3)]
end
end Lv
namespace Lv
open PySem PySem.Spec PyProof.Rows L2
section
variable {p : Pm} {P : List Fn} {cx : Cenv} {k : Nat} {X : L2.Cx} {Wx : WX} {H H' H1 H2 H₀ : Hp} {A W W1 : Addr → Prop} {σ : L2.St} {ρ ρ' ρ1 ρ2 : Env} {pos : Pos} {d : D} {u : V} {v : Vl}
section
variable {vs : List Vl} {as outs : Env} {us : List V} {Wn : Addr → Prop}
theorem back_len : ∀ {vs : List Vl} {as os : Env} {ρ : Env}, (back ρ vs as os).length = ρ.length
  | [], _, _, _ => by unfold back; rfl
  | v :: vs, [], _, _ => by cases v <;> rfl
  | v :: vs, a :: as, [], _ => by cases v <;> cases a <;> rfl
  | v :: vs, a :: as, o :: os, ρ => by
    cases v <;> cases a <;> first
      | exact back_len (vs := vs)
      | exact (back_len (vs := vs) (ρ := _)).trans (List.length_set ..)
theorem back_own (l : Lent p H1 W σ ρ2 vs as us) (hl : outs.length = us.length) {b : Addr} (o : Own σ (back ρ2 vs as outs) b) : Own (us.map some) outs b ∨ (Own σ ρ2 b ∧ ¬ Own (us.map some) as b ∨ False) ∨ Own (us.map some) as b := by
  obtain ⟨i, d, h, e⟩ := o
  rw [slot_back l hl rfl] at h
  cases q : bk vs as outs i with
  | none =>
    rw [q] at h
    by_cases hb : Own (us.map some) as b
    · exact .inr (.inr hb)
    · exact .inr (.inl (.inl ⟨⟨i, d, h, e⟩, hb⟩))
  | some s =>
    rw [q] at h
    obtain ⟨m, d', u', h1, h2, h3, h4, h5⟩ := bk_some l q
    have h' : s = .ow d := h
    subst h'
    rw [h5] at e
    cases e
    exact .inl ⟨m, d, h2, getM h4⟩
theorem back_own2 (g : Good p H1 W σ ρ2) (l : Lent p H1 W σ ρ2 vs as us) (hl : outs.length = us.length) {b : Addr} (o : Own σ (back ρ2 vs as outs) b) : Own (us.map some) outs b ∨ (Own σ ρ2 b ∧ ¬ Own (us.map some) as b) := by
  obtain ⟨i, d, h, e⟩ := o
  rw [slot_back l hl rfl] at h
  cases q : bk vs as outs i with
  | none =>
    rw [q] at h
    have h : slot ρ2 i = .ow d := h
    refine .inr ⟨⟨i, d, h, e⟩, fun ⟨m, d', hm, em⟩ => ?_⟩
    obtain ⟨j, u', k1, k2, k3, k4, _⟩ := lent_at (os := outs) l hl hm
    rw [getM k3] at em
    cases em
    have := g.inj i j d d' b h k2 e k4
    subst this
    rw [q] at k1
    cases k1
  | some s =>
    rw [q] at h
    obtain ⟨m, d', u', h1, h2, h3, h4, h5⟩ := bk_some l q
    have h' : s = .ow d := h
    subst h'
    rw [h5] at e
    cases e
    exact .inl ⟨m, d, h2, getM h4⟩
theorem back_av (g : Good p H1 W σ ρ2) (l : Lent p H1 W σ ρ2 vs as us) (hl : outs.length = us.length) (hW : ∀ b, W b → W1 b) : ∀ b, Av (fun b => W1 b ∨ Wc W σ ρ2 us as b) (us.map some) outs b → Av W1 σ (back ρ2 vs as outs) b := fun b ⟨x, y⟩ =>
  ⟨fun w => x (.inl w), fun o => (back_own2 g l hl o).elim y fun o => x (.inr (.inr o))⟩
theorem call_good (g : Good p H1 W σ ρ2) (l : Lent p H1 W σ ρ2 vs as us) (hl : outs.length = us.length) (hW : ∀ b, W b → W1 b) (hn : ∀ b, W1 b → W b ∨ H1 b = none) (ext : ∀ b o, H1 b = some o → ¬ Own (us.map some) as b → H2 b = some o)
    (g2 : Good p H2 (fun b => W1 b ∨ Wc W σ ρ2 us as b) (us.map some) outs) (sub : ∀ a, Own (us.map some) outs a → Own (us.map some) as a) : Good p H2 W1 σ (back ρ2 vs as outs) := by
  have subB : ∀ b, Own σ (back ρ2 vs as outs) b → Own σ ρ2 b := fun b o => (back_own2 g l hl o).elim (fun o => lent_own l b (sub b o)) fun o => o.1
  have kp : Keeps p H1 H2 (fun b => Av W σ ρ2 b ∧ H1 b ≠ none) (Av W1 σ (back ρ2 vs as outs)) :=
    { rd := fun b u hb r _ => by
        have n : ¬ Own (us.map some) as b := fun o => hb.1.2 (lent_own l b o)
        refine ⟨?_, fun w => (hn b w).elim hb.1.1 hb.2, fun o => hb.1.2 (subB b o)⟩
        rcases r with r | ⟨o, r⟩
        · exact .inl (ext b _ r n)
        · exact .inr ⟨o, ext b _ r n⟩
      tp := fun b xs h => by
        have nt : ∀ {b : Addr} {xs : List V}, Rd H1 b (.tup xs) → ¬ Own (us.map some) as b := fun r o => g.tup r (lent_own l _ o)
        rcases h with h | h
        · have n := nt h
          rcases h with h | ⟨o, h⟩
          · exact .inl (.inl (ext _ _ h n))
          · exact .inl (.inr ⟨o, ext _ _ h n⟩)
        · exact .inr h
      ls := fun b xs hb h => ⟨ext _ _ h fun o => hb.1.2 (lent_own l b o), fun w => (hn b w).elim hb.1.1 hb.2, fun o => hb.1.2 (subB b o)⟩
      sc := fun b xs h => by
        rcases h with ⟨o, h⟩ | h
        · refine .inl ⟨o, ext _ _ h fun z => ?_⟩
          obtain ⟨_, d, t⟩ := g.own (lent_own l b z)
          obtain ⟨o', e, _, nf, _⟩ := t.there
          rw [e] at h
          exact nf _ _ (Option.some.inj h)
        · exact .inr h }
  have thr : Keeps p H1 H1 (Av W σ ρ2) (fun b => Av W σ ρ2 b ∧ H1 b ≠ none) :=
    ⟨fun _ _ a r _ => ⟨r, a, Rd.there r⟩, fun _ _ t => t, fun _ _ a r => ⟨r, a, by rw [r]; exact fun z => nomatch z⟩, fun _ _ h => h⟩
  have av := back_av (W1 := W1) g l hl hW
  refine ⟨by rw [back_len]; exact g.len, fun b w => g2.wt b (.inl w), fun i d h => ?_, fun i d h => ?_, fun i j d e b hi hj ei ej => ?_⟩
  · rw [slot_back l hl rfl] at h
    cases q : bk vs as outs i with
    | none =>
      rw [q] at h
      obtain ⟨z, ez, r⟩ := g.sh i d h
      exact ⟨z, ez, (r.keep thr).keep kp⟩
    | some s =>
      rw [q] at h
      obtain ⟨m, d', u', h1, h2, h3, h4, h5⟩ := bk_some l q
      have h' : s = .sh d := h
      subst h'
      obtain ⟨z, ez, r⟩ := g2.sh m d h2
      rw [getM h4] at ez
      cases ez
      exact ⟨u', h5, r.keep (.mono av)⟩
  · rw [slot_back l hl rfl] at h
    cases q : bk vs as outs i with
    | none =>
      rw [q] at h
      have h : slot ρ2 i = .ow d := h
      obtain ⟨a, ea, nw, t⟩ := g.ow i d h
      have hthere : H1 a ≠ none := by
        obtain ⟨o, e, _⟩ := t.there
        rw [e]; exact fun z => nomatch z
      have na : ¬ Own (us.map some) as a := fun ⟨m, d', hm, em⟩ => by
        obtain ⟨j, u', k1, k2, k3, k4, _⟩ := lent_at (os := outs) l hl hm
        rw [getM k3] at em
        cases em
        have := g.inj i j d d' a h k2 ea k4
        subst this
        rw [q] at k1
        cases k1
      exact ⟨a, ea, fun w => (hn a w).elim nw hthere, (t.keep thr fun _ e => e).keep kp fun o e => ext a o e na⟩
    | some s =>
      rw [q] at h
      obtain ⟨m, d', u', h1, h2, h3, h4, h5⟩ := bk_some l q
      have h' : s = .ow d := h
      subst h'
      obtain ⟨a, ea, nw, t⟩ := g2.ow m d h2
      rw [getM h4] at ea
      cases ea
      exact ⟨a, h5, fun w => nw (.inl w), t.mono av⟩
  · -- one owner alone
    have key : ∀ {i : Nat} {d : D}, slot (back ρ2 vs as outs) i = .ow d → σ[i]? = some (some (.ref b)) → ∃ e, slot ρ2 i = .ow e := fun {i d} h e => by
      rw [slot_back l hl rfl] at h
      cases q : bk vs as outs i with
      | none => rw [q] at h; exact ⟨d, h⟩
      | some s =>
        obtain ⟨m, d', u', h1, h2, h3, h4, h5⟩ := bk_some l q
        exact ⟨d', h3⟩
    obtain ⟨d1, k1⟩ := key hi ei
    obtain ⟨d2, k2⟩ := key hj ej
    exact g.inj i j d1 d2 b k1 k2 ei ej
theorem call_post (q0 : PostE p H W σ ρ ρ2 H1) (l : Lent p H1 W σ ρ2 vs as us) (nsl : ∀ i, v ≠ .sl i) (q : Post p H1 (Wc W σ ρ2 us as) (us.map some) as v outs u H2) : Post p H W σ ρ v (back ρ2 vs as outs) u H2 := by
  have hl : outs.length = us.length := by have := q.good.len; rw [List.length_map] at this; exact this
  have hn : ∀ b, Wv W v u b → W b ∨ H1 b = none := fun b w => w.elim .inl fun ⟨⟨d, e⟩, eu⟩ => by
    subst e
    obtain ⟨a, ea, n, _⟩ := q.vr
    rw [ea] at eu
    cases eu
    exact .inr n
  have eW : Wv (Wc W σ ρ2 us as) v u = fun b => Wv W v u b ∨ Wc W σ ρ2 us as b := by
    funext b
    refine propext ⟨fun h => h.elim (fun w => .inr w) fun w => .inl (.inr w), fun h => h.elim (fun w => w.elim (fun w => .inl (.inl w)) .inr) .inl⟩
  have g2 := q.good
  rw [eW] at g2
  have gd := call_good (W1 := Wv W v u) q0.good l hl Wv.base hn q.ext g2 q.sub
  have subB : ∀ b, Own σ (back ρ2 vs as outs) b → Own σ ρ2 b := fun b o => (back_own2 q0.good l hl o).elim (fun o => lent_own l b (q.sub b o)) fun o => o.1
  have av := back_av (W1 := W) q0.good l hl (fun _ w => w)
  have avs : ∀ b, Av (Wc W σ ρ2 us as) (us.map some) outs b → Av W σ (back ρ2 vs as outs) b := fun b ⟨x, y⟩ => av b ⟨fun w => w.elim (fun w => x (.inl w)) x, y⟩
  refine ⟨fun b o e n => q.ext b o (q0.ext b o e n) fun z => n (q0.sub b (lent_own l b z)), fun b e => q0.trk b (q.trk b e), fun b o => q0.sub b (subB b o), gd, ?_⟩
  cases v with
  | sh d => exact Rep.keep (.mono avs) q.vr
  | ow d =>
    obtain ⟨a, ea, n, t⟩ := q.vr
    exact ⟨a, ea, q0.trk a n, t.mono fun b h => ⟨avs b h.1, h.2⟩⟩
  | sl i => exact absurd rfl (nsl i)
theorem call_postE (q0 : PostE p H W σ ρ ρ2 H1) (l : Lent p H1 W σ ρ2 vs as us) (q : PostE p H1 (Wc W σ ρ2 us as) (us.map some) as outs H2) : PostE p H W σ ρ (back ρ2 vs as outs) H2 := by
  have hl : outs.length = us.length := by have := q.good.len; rw [List.length_map] at this; exact this
  have g2 : Good p H2 (fun b => W b ∨ Wc W σ ρ2 us as b) (us.map some) outs := q.good.less fun b w => w.elim .inl id
  have gd := call_good (W1 := W) q0.good l hl (fun _ w => w) (fun _ w => .inl w) q.ext g2 q.sub
  have subB : ∀ b, Own σ (back ρ2 vs as outs) b → Own σ ρ2 b := fun b o => (back_own2 q0.good l hl o).elim (fun o => lent_own l b (q.sub b o)) fun o => o.1
  exact ⟨fun b o e n => q.ext b o (q0.ext b o e n) fun z => n (q0.sub b (lent_own l b z)), fun b e => q0.trk b (q.trk b e), fun b o => q0.sub b (subB b o), gd⟩
end
def cstsC : List D → CEs
  | [] => .nil
  | d :: ds => .cons (.cst d) (cstsC ds)
def appC : CEs → List D → CEs
  | .nil, ds => cstsC ds
  | .cons e es, ds => .cons e (appC es ds)
theorem R.bind_assoc {α β γ : Type} (r : R α) (f : α → Env → R β) (g : β → Env → R γ) : (r.bind f).bind g = r.bind fun a ρ => (f a ρ).bind g := by
  cases r <;> rfl
theorem evVs_csts {fc : Nat → List Bool} {call : Nat → Env → FR} : ∀ (ds : List D) (ρ : Env), evVs fc call (appC .nil ds) ρ = .ok (ds.map Vl.sh) ρ
  | [], ρ => by
    unfold appC cstsC evVs
    rfl
  | d :: ds, ρ => by
    unfold appC cstsC evVs evE
    show (evVs fc call (appC .nil ds) ρ).bind _ = _
    rw [evVs_csts ds ρ]
    rfl
theorem evVs_app {fc : Nat → List Bool} {call : Nat → Env → FR} (ds : List D) : ∀ (ces : CEs) (ρ : Env), evVs fc call (appC ces ds) ρ = (evVs fc call ces ρ).bind fun vs ρ' => .ok (vs ++ ds.map Vl.sh) ρ'
  | .nil, ρ => by
    rw [evVs_csts]
    unfold evVs
    rfl
  | .cons e es, ρ => by
    unfold appC
    rw [evVs.eq_2, evVs.eq_2, R.bind_assoc]
    congr 1
    funext v ρ1
    rw [evVs_app ds es, R.bind_assoc, R.bind_assoc]
    rfl
theorem VRs.app {vs : List Vl} {us : List V} (x : VRs p H₀ W σ ρ H vs us) : ∀ {ds : List D} {dvs : List V}, ds.mapM cstV = some dvs → VRs p H₀ W σ ρ H (vs ++ ds.map Vl.sh) (us ++ dvs) := by
  induction x with
  | nil =>
    intro ds
    induction ds with
    | nil => intro dvs e; cases e; exact .nil
    | cons d ds ih =>
      intro dvs e
      rw [List.mapM_cons] at e
      cases hd : cstV d with
      | none => rw [hd] at e; cases e
      | some z =>
        cases hds : ds.mapM cstV with
        | none => rw [hd, hds] at e; cases e
        | some zs =>
          rw [hd, hds] at e
          cases e
          exact .cons (cstV_rep hd) (fun _ z => nomatch z) (ih hds)
  | cons h n _ ih => exact fun e => .cons h n (ih e)
theorem so_call (ok : Okc p P cx k X) (tk : Takes X Wx) {i : Nat} {x : Str} {ps : List Str} {ds : List D} {dvs : List V} {m : Nat} {e : Expr} {es : List Expr} {ces : CEs} {pp : Pos} (hn : cx.names.lookup x = some .globalImplicit) (hi : cx.fns[i]? = some (x, ps, ds)) (hm : m ≤ ds.length) (hc : (ds.drop m).mapM cstV = some dvs)
    (hlen : lenCEs ces + (ds.drop m).length = ps.length)
    (hs : PA X (e :: es) (tVs p P k Wx ces)) (hdb : (x == ("__debug__" : Str)) = false) (he : starEach (e :: es) X.env = (false, eval e X.env) :: starEach es X.env) (hpl : (backTo pos (starEach es X.env)).any (·.1) = false) :
    PE X (.Call (.Name x pp) (e :: es) [] pos) (tE p P k Wx (.call i (appC ces (ds.drop m)))) := by
  obtain ⟨hmg, hk, fd, hb, F⟩ := ok.glo.fns i x ps ds hi
  obtain ⟨us0, hv, hb⟩ := hb m dvs hm hc
  refine (pe_callSD F ok.room (gl_of ok hn) hmg hk hb hv (fun σ => passAt tk σ) hs hdb he hpl).imp fun σ H Q ⟨W, ρ, g, h⟩ => ?_
  unfold evE at h
  rw [evVs_app, R.bind_assoc] at h
  refine ⟨W, ρ, g, (h.bind.eq).mono (fun vs ρ1 ⟨ev, hf⟩ us H1 q1 x => ?_) fun _ _ e => e⟩
  have hf : RFin (match lend ρ1 (fcOf P i) (vs ++ (ds.drop m).map Vl.sh) with
    | some (args, ρ2) => (match callF P k i args with
      | .ret (.sl _) _ => .bad
      | .ret v outs => .ok v (back ρ2 (vs ++ (ds.drop m).map Vl.sh) args outs)
      | .ex c outs => .ex c (back ρ2 (vs ++ (ds.drop m).map Vl.sh) args outs)
      | .bad => .bad)
    | none => .bad) _ _ := hf
  cases hl : lend ρ1 (fcOf P i) (vs ++ (ds.drop m).map Vl.sh) with
  | none => rw [hl] at hf; exact hf.elim
  | some z =>
    obtain ⟨args, ρ2⟩ := z
    rw [hl] at hf
    simp only at hf
    obtain ⟨g2, sub, l⟩ := lend_ok hl q1.good (x.app hc)
    have q2 : PostE p H W σ ρ ρ2 H1 := ⟨q1.ext, q1.trk, fun b o => q1.sub b (sub b o), g2⟩
    refine ⟨?_, Wc W σ ρ2 (us ++ dvs) args, args, lent_good g2 l, ?_⟩
    · rw [← hlen, ← lent_len l]
      have e1 := evVs_len ces ρ ρ1 vs ev
      have := lend_len hl
      rw [this, List.length_append, List.length_map, e1]
    · cases hcf : callF P k i args with
      | bad => rw [hcf] at hf; exact hf.elim
      | ex c outs =>
        rw [hcf] at hf
        exact fun H' q => hf H' (call_postE q2 l q)
      | ret v outs =>
        rw [hcf] at hf
        cases v with
        | sl j => exact hf.elim
        | sh d => exact fun u H' q => hf u H' (call_post q2 l (fun _ z => nomatch z) q)
        | ow d => exact fun u H' q => hf u H' (call_post q2 l (fun _ z => nomatch z) q)
where
  evVs_len {fc : Nat → List Bool} {call : Nat → Env → FR} : ∀ (ces : CEs) (ρ ρ' : Env) (vs : List Vl), evVs fc call ces ρ = .ok vs ρ' → vs.length = lenCEs ces
    | .nil, ρ, ρ', vs, h => by
      unfold evVs at h
      cases h
      rfl
    | .cons e es, ρ, ρ', vs, h => by
      unfold evVs at h
      obtain ⟨v, ρ1, _, h⟩ := R.bind_ok h
      obtain ⟨r, ρ3, h1, h2⟩ := R.bind_ok h
      cases h2
      rw [List.length_cons, evVs_len es _ _ _ h1]
      rfl
  lend_len : ∀ {vs : List Vl} {as : List Bool} {ρ ρ' args : Env}, lend ρ as vs = some (args, ρ') → args.length = vs.length
    | [], as, ρ, ρ', args, h => by
      unfold lend at h
      cases h
      rfl
    | v :: vs, as, ρ, ρ', args, h => by
      have rec_ : ∀ {ρ1 : Env} {as'} {s : Sl}, (match lend ρ1 as' vs with | some (r, ρ') => some (s :: r, ρ') | none => none) = some (args, ρ') → args.length = vs.length + 1 := by
        intro ρ1 as' f h
        cases q : lend ρ1 as' vs with
        | none => rw [q] at h; cases h
        | some z => rw [q] at h; cases h; exact congrArg (· + 1) (lend_len q)
      cases v with
      | sh d => exact rec_ h
      | ow d => exact rec_ h
      | sl i =>
        unfold lend at h
        cases q : slot ρ i with
        | un => simp only [q] at h; cases h
        | sh d => simp only [q] at h; exact rec_ h
        | ow d =>
          simp only [q] at h
          split at h
          · exact rec_ h
          · exact rec_ h
theorem pe_callSD0 {CX : CXT} {k : Nat} {f : Addr} {fd : FuncData} {ps : List Str} {sp : Sp} {dvs : List V} {ds : List Value} {E : L2.St → XK} {x : Str} {pp : Pos} (F : FnOk X.prog X.w X.K X.mg X.base CX k f fd ps sp) (hr : Room k X.A) (hg : Gl X x) (hm : X.mg x = some (.ref f)) (hk : PySem.W.keepIn X.K (.ref f) = true) (hb : Binds X.K fd ps ds) (hd : Vals dvs ds) (hx : ∀ σ, PassesAt CX X σ (E σ))
    (hdb : (x == ("__debug__" : Str)) = false := by decide) : PE X (.Call (.Name x pp) [] [] pos) (tCallSD sp dvs E tNil) := by
  refine ⟨fun pins s σ H Q I h => ?_⟩
  refine wpAny_Call_Name_kw (ld_glob I hg hm ?_ hdb)
  exact PySem.W.callWith_K0 I.kIn hk (run_fnSD (us := []) F hr hb hd (hx σ) I .nil h)
theorem so_call0 (ok : Okc p P cx k X) (tk : Takes X Wx) {i : Nat} {x : Str} {ps : List Str} {ds : List D} {dvs : List V} {m : Nat} {pp : Pos} (hn : cx.names.lookup x = some .globalImplicit) (hi : cx.fns[i]? = some (x, ps, ds)) (hm : m ≤ ds.length) (hc : (ds.drop m).mapM cstV = some dvs)
    (hlen : (ds.drop m).length = ps.length) (hdb : (x == ("__debug__" : Str)) = false) : PE X (.Call (.Name x pp) [] [] pos) (tE p P k Wx (.call i (appC .nil (ds.drop m)))) := by
  obtain ⟨hmg, hk, fd, hb, F⟩ := ok.glo.fns i x ps ds hi
  obtain ⟨us0, hv, hb⟩ := hb m dvs hm hc
  refine (pe_callSD0 F ok.room (gl_of ok hn) hmg hk hb hv (fun σ => passAt tk σ) hdb).imp fun σ H Q ⟨W, ρ, g, h⟩ => ?_
  unfold evE at h
  rw [evVs_csts] at h
  have hf : RFin (match lend ρ (fcOf P i) ((ds.drop m).map Vl.sh) with
    | some (args, ρ2) => (match callF P k i args with
      | .ret (.sl _) _ => .bad
      | .ret v outs => .ok v (back ρ2 ((ds.drop m).map Vl.sh) args outs)
      | .ex c outs => .ex c (back ρ2 ((ds.drop m).map Vl.sh) args outs)
      | .bad => .bad)
    | none => .bad) _ _ := h
  show spF p P k i ps.length ([] ++ dvs) H Q _
  cases hl : lend ρ (fcOf P i) ((ds.drop m).map Vl.sh) with
  | none => rw [hl] at hf; exact hf.elim
  | some z =>
    obtain ⟨args, ρ2⟩ := z
    rw [hl] at hf
    simp only at hf
    have x0 : VRs p H W σ ρ H ([] ++ (ds.drop m).map Vl.sh) ([] ++ dvs) := VRs.app .nil hc
    obtain ⟨g2, sub, l⟩ := lend_ok hl g x0
    have q2 : PostE p H W σ ρ ρ2 H := ⟨fun _ _ e _ => e, fun _ e => e, sub, g2⟩
    refine ⟨?_, Wc W σ ρ2 ([] ++ dvs) args, args, lent_good g2 l, ?_⟩
    · rw [← hlen, ← lent_len l]
      have := so_call.lend_len hl
      rw [this, List.length_map]
    · cases hcf : callF P k i args with
      | bad => rw [hcf] at hf; exact hf.elim
      | ex c outs =>
        rw [hcf] at hf
        exact fun H' q => hf H' (call_postE q2 l q)
      | ret v outs =>
        rw [hcf] at hf
        cases v with
        | sl j => exact hf.elim
        | sh d => exact fun u H' q => hf u H' (call_post q2 l (fun _ z => nomatch z) q)
        | ow d => exact fun u H' q => hf u H' (call_post q2 l (fun _ z => nomatch z) q)
end
end Lv
namespace Lv
open PySem PySem.Spec PyProof.Rows L2
def Yld (p : Pm) (H : Hp) (A : Addr → Prop) (d : D) (x : V) (H2 : Hp) : Prop := (H2 = H ∧ Rep p H A d x) ∨ ∃ q ds us, d = .tup ds ∧ x = .ref q ∧ H q = none ∧ H2 = upd H q (.tup us) ∧ Reps p H A ds us
def Iters (p : Pm) (H : Hp) (A : Addr → Prop) (J : It) (xs : List D) : Prop := ∃ G Y, Walk J xs.length G Y ∧ ∀ H1 A1, Keeps p H H1 A A1 → G H1 ∧ ∀ i x H2, i < xs.length → Y i H1 x H2 → ∃ d, xs[i]? = some d ∧ Yld p H1 A1 d x H2
section
variable {p : Pm} {P : List Fn} {cx : Cenv} {k : Nat} {X : L2.Cx} {Wx : WX} {H H' H1 H2 H₀ : Hp} {A A' W W1 : Addr → Prop} {σ : L2.St} {ρ ρ' ρ1 ρ2 : Env} {a b c : Expr} {ca cb cc : CE} {pos : Pos} {d : D} {u : V} {v : Vl}
theorem Keeps.refl : Keeps p H H A A := .mono fun _ h => h
theorem Keeps.trans {H3 : Hp} {A3 : Addr → Prop} (x : Keeps p H H' A A') (y : Keeps p H' H3 A' A3) : Keeps p H H3 A A3 where
  rd := fun a u ha r n => let ⟨r1, a1⟩ := x.rd a u ha r n; y.rd a u a1 r1 n
  tp := fun a xs h => y.tp a xs (x.tp a xs h)
  ls := fun a xs ha h => let ⟨r1, a1⟩ := x.ls a xs ha h; y.ls a xs a1 r1
  sc := fun a xs h => y.sc a xs (x.sc a xs h)
theorem Iters.keep {J : It} {xs : List D} (h : Iters p H A J xs) (kp : Keeps p H H' A A') : Iters p H' A' J xs := by
  obtain ⟨G, Y, w, f⟩ := h
  exact ⟨G, Y, w, fun H1 A1 k1 => f H1 A1 (kp.trans k1)⟩
theorem Reps.getV : ∀ {ds : List D} {vs : List V} {i : Nat} {x : V}, Reps p H A ds vs → vs[i]? = some x → ∃ d, ds[i]? = some d ∧ Rep p H A d x
  | _, _, _, _, .nil, e => by simp at e
  | _, _, 0, _, .cons h _, e => ⟨_, rfl, (Option.some.inj e) ▸ h⟩
  | _, _, i + 1, x, .cons _ r, e => by
    obtain ⟨d, h1, h2⟩ := Reps.getV (i := i) (x := x) r (by simpa using e)
    exact ⟨d, by simpa using h1, h2⟩
theorem it_at {q : Addr} {xs : List V} {ds : List D} {J : It} {G : Hp → Prop} (w : Walk J xs.length G (YAt xs)) (r : Reps p H A ds xs) (hg : ∀ H1 A1, Keeps p H H1 A A1 → G H1) : Iters p H A J ds := by
  refine ⟨G, YAt xs, by rw [r.length]; exact w, fun H1 A1 k1 => ⟨hg H1 A1 k1, fun i x H2 hi y => ?_⟩⟩
  obtain ⟨d, h1, h2⟩ := (r.keep k1).getV y.2
  exact ⟨d, h1, .inl ⟨y.1, h2⟩⟩
theorem it_list {q : Addr} {xs : List V} {ds : List D} (h : H q = some (.lst xs)) (ha : A q) (r : Reps p H A ds xs) : Iters p H A (Itl p.K q) ds :=
  it_at (q := q) walk_list r fun H1 A1 k1 => .inl (.inl (k1.ls q xs ha h).1)
theorem it_tup {q : Addr} {xs : List V} {ds : List D} (h : SqT p.K H q xs) (r : Reps p H A ds xs) : Iters p H A (Itt p.K q) ds :=
  it_at (q := q) walk_tup r fun H1 A1 k1 => k1.tp q xs h
theorem it_scr {q : Addr} {ns : List Int} (h : ScrAt p.K H q (ns.map .int)) : Iters p H A (Itl p.K q) (ns.map D.int) := by
  refine it_at (q := q) (xs := ns.map .int) walk_list ?_ fun H1 A1 k1 => (k1.sc q _ h).seq
  induction ns with
  | nil => exact .nil
  | cons n ns ih => exact .cons (.int n) (go ns)
where go : ∀ ns : List Int, Reps p H A (ns.map D.int) (ns.map V.int)
  | [] => .nil
  | n :: ns => .cons (.int n) (go ns)
theorem it_pairs {J : It} {n : Nat} {xs ys : List V} {ds es : List D} {zs : List D} {G : Hp → Prop} {f g : Nat → Option V} (hn : zs.length = n) (w : Walk J n G (YPair f g)) (hg : ∀ H1 A1, Keeps p H H1 A A1 → G H1)
    (hz : ∀ H1 A1, Keeps p H H1 A A1 → ∀ i x y, i < n → f i = some x → g i = some y → ∃ d e, zs[i]? = some (.tup [d, e]) ∧ Rep p H1 A1 d x ∧ Rep p H1 A1 e y) : Iters p H A J zs := by
  subst hn
  refine ⟨G, YPair f g, w, fun H1 A1 k1 => ⟨hg H1 A1 k1, fun i v H2 hi ⟨T, x, y, e1, e2, e3, e4, e5⟩ => ?_⟩⟩
  obtain ⟨d, e, h1, h2, h3⟩ := hz H1 A1 k1 i x y hi e4 e5
  exact ⟨_, h1, .inr ⟨T, [d, e], [x, y], rfl, e1, e2, e3, .cons h2 (.cons h3 .nil)⟩⟩
theorem it_enumW {J : It} {xs : List V} {ds : List D} {G : Hp → Prop} (w : Walk J xs.length G (YPair (fun i => some (.int (i : Nat))) (fun i => xs[i]?))) (r : Reps p H A ds xs) (hg : ∀ H1 A1, Keeps p H H1 A A1 → G H1) :
    Iters p H A J (ds.mapIdx fun i d => .tup [.int i, d]) := by
  refine it_pairs (xs := xs) (ys := xs) (ds := ds) (es := ds) (by rw [List.length_mapIdx, r.length]) w hg fun H1 A1 k1 i x y hi e1 e2 => ?_
  obtain ⟨d, h1, h2⟩ := (r.keep k1).getV e2
  cases e1
  exact ⟨.int i, d, by rw [List.getElem?_mapIdx, h1]; rfl, .int _, h2⟩
theorem it_zipW {J : It} {n : Nat} {xs ys : List V} {ds es : List D} {G : Hp → Prop} (hn : n = min xs.length ys.length) (w : Walk J n G (YPair (fun i => xs[i]?) (fun i => ys[i]?))) (r : Reps p H A ds xs) (s : Reps p H A es ys) (hg : ∀ H1 A1, Keeps p H H1 A A1 → G H1) :
    Iters p H A J ((ds.zip es).map fun q => .tup [q.1, q.2]) := by
  refine it_pairs (xs := xs) (ys := ys) (ds := ds) (es := es) (by rw [List.length_map, List.length_zip, r.length, s.length, hn]) w hg fun H1 A1 k1 i x y hi e1 e2 => ?_
  obtain ⟨d, h1, h2⟩ := (r.keep k1).getV e1
  obtain ⟨e, h3, h4⟩ := (s.keep k1).getV e2
  exact ⟨d, e, by rw [List.getElem?_map, (List.getElem?_zip_eq_some (z := (d, e))).mpr ⟨h1, h3⟩]; rfl, h2, h4⟩
theorem it_rng {lo hi : Int} : Iters p H A (Itr lo (hi - lo).toNat) (rng lo hi 1) := by
  have e : rng lo hi 1 = (List.range (hi - lo).toNat).map fun (i : Nat) => D.int (lo + i * 1) := by
    unfold rng
    rw [if_pos (by decide), show (hi - lo + 1 - 1) / 1 = hi - lo by omega]
  have hl : (rng lo hi 1).length = (hi - lo).toNat := by rw [e]; simp
  refine ⟨fun _ => True, YFn fun i => .int (lo + i), by rw [hl]; exact walk_range, fun H1 A1 k1 => ⟨trivial, fun i x H2 hi' y => ?_⟩⟩
  obtain ⟨y1, y2⟩ := y
  subst y1 y2
  rw [e] at hi'
  refine ⟨.int (lo + i), ?_, .inl ⟨rfl, .int _⟩⟩
  rw [e, List.getElem?_map, List.getElem?_range (by simpa using hi')]
  simp
theorem it_rngC {lo hi c : Int} {n : Nat} (hc : 0 < c) (hn : n = ((hi - lo + c - 1) / c).toNat) : Iters p H A (Itc lo c n) (rng lo hi c) := by
  have e : rng lo hi c = (List.range n).map fun (i : Nat) => D.int (lo + i * c) := by
    unfold rng
    rw [if_pos hc, hn]
  have hl : (rng lo hi c).length = n := by rw [e]; simp
  refine ⟨fun _ => True, YFn fun i => .int (lo + (i : Nat) * c), by rw [hl]; exact walk_rangeC, fun H1 A1 k1 => ⟨trivial, fun i x H2 hi' y => ?_⟩⟩
  obtain ⟨y1, y2⟩ := y
  subst y1 y2
  rw [e] at hi'
  refine ⟨.int (lo + i * c), ?_, .inl ⟨rfl, .int _⟩⟩
  rw [e, List.getElem?_map, List.getElem?_range (by simpa using hi')]
  rfl
section
variable (p : Pm) (P : List Fn) (k : Nat) (Wx : WX)
def tI (c : CI) : TI := fun σ H R => ∃ W ρ, Good p H W σ ρ ∧ RFin (evI (fcOf P) (callF P k) c ρ) (fun xs ρ' => ∀ J H', PostE p H W σ ρ ρ' H' → Iters p H' (Av W σ ρ') J xs → R J H') (exP p Wx H W σ ρ)
end
theorem tE.firstE {α : Type} {F : Vl → Env → R α} {okP : α → Env → Prop} {Q : VK} (g : Good p H W σ ρ) (h : RFin ((evE (fcOf P) (callF P k) ca ρ).bind F) okP (exP p Wx H W σ ρ))
    (next : ∀ v ρ1 u H1, evE (fcOf P) (callF P k) ca ρ = .ok v ρ1 → Post p H W σ ρ v ρ1 u H1 → RFin (F v ρ1) okP (exP p Wx H W σ ρ) → Q u H1) : tE p P k Wx ca σ H Q :=
  ⟨W, ρ, g, h.bind.eq.mono (fun v ρ1 ⟨e, hf⟩ u H1 q => next v ρ1 u H1 e q hf) fun _ _ e => e⟩
theorem so_val {tg : Expr} (ok : Okc p P cx k X) (ha : PE X a (tE p P k Wx ca)) : PI X tg a (tI p P k Wx (.val ca)) := by
  refine ⟨fun pins s σ H R I ⟨W, ρ, g, h⟩ => ?_⟩
  unfold evI at h
  by_cases hl : ∃ v ρ1 d ρ2 ds, evE (fcOf P) (callF P k) ca ρ = .ok v ρ1 ∧ letgo ρ1 v = some (d, ρ2) ∧ d = .tup ds
  · obtain ⟨v, ρ1, d, ρ2, ds, e1, e2, e3⟩ := hl
    subst e3
    refine (pi_tup ha).run pins s σ H R I ⟨W, ρ, g, ?_⟩
    rw [e1] at h ⊢
    have h' : RFin (match letgo ρ1 v with | some (d, ρ2) => ofO (items d) ρ2 | none => .bad) (fun xs ρ' => ∀ J H', PostE p H W σ ρ ρ' H' → Iters p H' (Av W σ ρ') J xs → R J H') (exP p Wx H W σ ρ) := h
    rw [e2] at h'
    intro u H1 q1
    obtain ⟨q2, r⟩ := q1.letgo g e2
    cases r with
    | @tup q xs _ hs r =>
    exact ⟨q, rfl, ⟨xs, ok.K ▸ hs⟩, ok.K ▸ h' _ H1 q2 (it_tup hs r)⟩
  · refine (pi_list ha).run pins s σ H R I (tE.firstE g h fun v ρ1 u H1 e1 q1 h' => ?_)
    cases e2 : letgo ρ1 v with
    | none => simp only [e2] at h'; exact h'.elim
    | some z =>
      obtain ⟨d, ρ2⟩ := z
      simp only [e2] at h'
      obtain ⟨q2, r⟩ := q1.letgo g e2
      cases r with
      | @lst q xs ds hl ha r => exact ⟨q, rfl, ⟨xs, .inl (.inl hl)⟩, ok.K ▸ h' _ H1 q2 (it_list hl ha r)⟩
      | @scr q ns hs => exact ⟨q, rfl, ⟨_, ok.K ▸ hs.seq⟩, ok.K ▸ h' _ H1 q2 (it_scr hs)⟩
      | @tup q xs ds hs r => exact absurd ⟨v, ρ1, _, ρ2, ds, e1, e2, rfl⟩ hl
      | _ => exact h'.elim
theorem tVs.first {α : Type} {F : List Vl → Env → R α} {okP : α → Env → Prop} {ces : CEs} {Q : List V → Hp → Prop} (g : Good p H W σ ρ) (h : RFin ((evVs (fcOf P) (callF P k) ces ρ).bind F) okP (exP p Wx H W σ ρ))
    (next : ∀ vs ρ1 us H1, PostE p H W σ ρ ρ1 H1 → VRs p H W σ ρ1 H1 vs us → RFin (F vs ρ1) okP (exP p Wx H W σ ρ) → Q us H1) : tVs p P k Wx ces σ H Q :=
  ⟨W, ρ, g, h.bind.mono (fun vs ρ1 hf us H1 q r => next vs ρ1 us H1 q r hf) fun _ _ e => e⟩
theorem tDs.first {α : Type} {F : List D → Env → R α} {okP : α → Env → Prop} {ces : CEs} {Q : List V → Hp → Prop} (g : Good p H W σ ρ) (h : RFin ((evEs (fcOf P) (callF P k) ces ρ).bind F) okP (exP p Wx H W σ ρ))
    (next : ∀ ds ρ1 us H1, PostE p H W σ ρ ρ1 H1 → Reps p H1 (Av W σ ρ1) ds us → RFin (F ds ρ1) okP (exP p Wx H W σ ρ) → Q us H1) : tDs p P k Wx ces σ H Q :=
  ⟨W, ρ, g, h.bind.mono (fun vs ρ1 hf us H1 q r => next vs ρ1 us H1 q r hf) fun _ _ e => e⟩
theorem evVs_count {fc : Nat → List Bool} {call : Nat → Env → FR} {ces : CEs} {vs : List Vl} (h : evVs fc call ces ρ = .ok vs ρ1) : vs.length = lenCEs ces := so_call.evVs_len ces ρ ρ1 vs h
theorem small62_of {i : Int} (h : small62 i = true) : -(2 ^ 62) ≤ i ∧ i < 2 ^ 62 := by
  unfold small62 at h
  simpa using h
theorem VRs.int {us : List V} {i : Int} {vs : List Vl} (x : VRs p H₀ W σ ρ H (.sh (.int i) :: vs) us) : ∃ us', us = .int i :: us' ∧ VRs p H₀ W σ ρ H vs us' := by
  cases x with
  | cons h _ r =>
    have h' : Rep p H _ (.int i) _ := h
    cases h'
    exact ⟨_, rfl, r⟩
theorem VRs.no {us : List V} (x : VRs p H₀ W σ ρ H [] us) : us = [] := by cases x; rfl
theorem so_rng1 {tg : Expr} {ces : CEs} {pp : Pos} (ok : Okc p P cx k X) (hn : cx.names.lookup ("range" : Str) = some .globalImplicit) (hb : ("range" : Str) ∈ cx.blt) (ha : PA X [a] (tVs p P k Wx ces)) (hl : lenCEs ces = 1) (hs : starEach [a] X.env = [(false, eval a X.env)]) :
    PI X tg (.Call (.Name "range" pp) [a] [] pos) (tI p P k Wx (.rng ces)) := by
  refine ⟨fun pins s σ H R I ⟨W, ρ, g, h⟩ => (pi_range1 (gl_of ok hn) (ok.glo.blt _ hb) ha hs).run pins s σ H R I ?_⟩
  unfold evI at h
  refine ⟨W, ρ, g, h.bind.eq.mono (fun vs ρ1 ⟨ev, hf⟩ us H1 q1 r => ?_) fun _ _ e => e⟩
  have hlen := (evVs_count ev).trans hl
  split at hf
  · rename_i j _
    split at hf
    · rename_i hj
      obtain ⟨j1, j2⟩ := small62_of hj
      obtain ⟨us', e1, r⟩ := r.int
      cases r.no
      subst e1
      refine ⟨j, rfl, j1, j2, hf _ H1 q1 ?_⟩
      have := it_rng (p := p) (H := H1) (A := Av W σ ρ1) (lo := 0) (hi := j)
      rw [Int.sub_zero] at this
      exact this
    · exact hf.elim
  · simp at hlen
  · simp at hlen
  · exact hf.elim
theorem so_rng2 {tg : Expr} {ces : CEs} {pp : Pos} (ok : Okc p P cx k X) (hn : cx.names.lookup ("range" : Str) = some .globalImplicit) (hb : ("range" : Str) ∈ cx.blt) (ha : PA X [a, b] (tVs p P k Wx ces)) (hl : lenCEs ces = 2) (hs : starEach [a, b] X.env = [(false, eval a X.env), (false, eval b X.env)]) (hs2 : starEach [b] X.env = [(false, eval b X.env)]) :
    PI X tg (.Call (.Name "range" pp) [a, b] [] pos) (tI p P k Wx (.rng ces)) := by
  refine ⟨fun pins s σ H R I ⟨W, ρ, g, h⟩ => (pi_range2 (gl_of ok hn) (ok.glo.blt _ hb) ha hs hs2).run pins s σ H R I ?_⟩
  unfold evI at h
  refine ⟨W, ρ, g, h.bind.eq.mono (fun vs ρ1 ⟨ev, hf⟩ us H1 q1 r => ?_) fun _ _ e => e⟩
  have hlen := (evVs_count ev).trans hl
  split at hf
  · simp at hlen
  · rename_i i j _
    split at hf
    · rename_i hj
      rw [Bool.and_eq_true] at hj
      obtain ⟨i1, i2⟩ := small62_of hj.1
      obtain ⟨j1, j2⟩ := small62_of hj.2
      obtain ⟨us', e1, r⟩ := r.int
      obtain ⟨us2, e2, r⟩ := r.int
      cases r.no
      subst e1 e2
      exact ⟨i, j, rfl, ⟨i1, i2, j1, j2⟩, hf _ H1 q1 it_rng⟩
    · exact hf.elim
  · simp at hlen
  · exact hf.elim
theorem rgC_of {i j c : Int} (h : (decide (0 < c) && decide (c < 1073741824) && decide (-1073741824 < i) && decide (i < 1073741824) && decide (-1073741824 < j) && decide (j < 1073741824)) = true) : RgC i j c ((j - i + c - 1) / c).toNat := by
  simp only [Bool.and_eq_true, decide_eq_true_eq] at h
  obtain ⟨⟨⟨⟨⟨h1, h2⟩, h3⟩, h4⟩, h5⟩, h6⟩ := h
  have hsz : Builtin.Range.rangeSize i j c = (((j - i + c - 1) / c).toNat : Int) := by
    unfold Builtin.Range.rangeSize
    rw [if_pos h1]
    split
    · have e : j - i + c - 1 = (j - i - 1) + c := by omega
      rw [e, Int.add_ediv_of_dvd_right (Int.dvd_refl c), Int.ediv_self (by omega)]
      have : 0 ≤ (j - i - 1) / c := Int.ediv_nonneg (by omega) (by omega)
      omega
    · have : (j - i + c - 1) / c ≤ 0 := by
        have h7 : (j - i + c - 1) / c ≤ (c - 1) / c := Int.ediv_le_ediv h1 (by omega)
        have h8 : (c - 1) / c = 0 := Int.ediv_eq_zero_of_lt (by omega) (by omega)
        omega
      omega
  have hup : ((j - i + c - 1) / c).toNat ≤ 4294967296 := by
    have : (j - i + c - 1) / c ≤ 4294967296 := by
      by_cases h0 : 0 ≤ j - i + c - 1
      · exact Int.le_trans (Int.ediv_le_self _ h0) (by omega)
      · have : (j - i + c - 1) / c < 0 := Int.ediv_neg_of_neg_of_pos (by omega) h1
        omega
    omega
  refine ⟨by omega, by omega, ?_, hsz⟩
  unfold Builtin.Range.small
  rw [hsz]
  simp only [Builtin.Range.rangeFitsLong, Bool.and_eq_true, Bool.or_eq_true, decide_eq_true_eq, beq_iff_eq, h1, gt_iff_lt, if_true]
  omega
theorem so_rng3 {tg : Expr} {ces : CEs} {pp : Pos} (ok : Okc p P cx k X) (hn : cx.names.lookup ("range" : Str) = some .globalImplicit) (hb : ("range" : Str) ∈ cx.blt) (ha : PA X [a, b, c] (tVs p P k Wx ces)) (hl : lenCEs ces = 3) (hs : starEach [a, b, c] X.env = (false, eval a X.env) :: starEach [b, c] X.env) (hpl : (backTo pos (starEach [b, c] X.env)).any (·.1) = false) :
    PI X tg (.Call (.Name "range" pp) [a, b, c] [] pos) (tI p P k Wx (.rng ces)) := by
  refine ⟨fun pins s σ H R I ⟨W, ρ, g, h⟩ => (pi_range3 (gl_of ok hn) (ok.glo.blt _ hb) ha hs hpl).run pins s σ H R I ?_⟩
  unfold evI at h
  refine ⟨W, ρ, g, h.bind.eq.mono (fun vs ρ1 ⟨ev, hf⟩ us H1 q1 r => ?_) fun _ _ e => e⟩
  have hlen := (evVs_count ev).trans hl
  split at hf
  · simp at hlen
  · simp at hlen
  · rename_i i j c _
    split at hf
    · rename_i hj
      obtain ⟨us', e1, r⟩ := r.int
      obtain ⟨us2, e2, r⟩ := r.int
      obtain ⟨us3, e3, r⟩ := r.int
      cases r.no
      subst e1 e2 e3
      have rc := rgC_of hj
      simp only [Bool.and_eq_true, decide_eq_true_eq] at hj
      exact ⟨i, j, c, _, rfl, rc, hf _ H1 q1 (it_rngC hj.1.1.1.1.1 rfl)⟩
    · exact hf.elim
  · exact hf.elim
theorem walk_zipT {K : PySem.W.Frag} {a b : Addr} {xs ys : List V} {n : Nat} (hn : n = min xs.length ys.length) : Walk (RZ.ItzT K a b) n (fun H => SqT K H a xs ∧ SqT K H b ys) (YPair (fun i => xs[i]?) (fun i => ys[i]?)) := by
  subst hn
  refine ⟨fun i _ hi q => ?_, fun _ q => ⟨xs, ys, q.1, q.2, by omega⟩, fun i H v H' _ q y => ?_⟩
  · have l1 : i < xs.length := by omega
    have l2 : i < ys.length := by omega
    refine ⟨xs, ys, xs[i], ys[i], q.1, q.2, ?_, ?_⟩ <;> simp [l1, l2]
  · obtain ⟨T, x, z, e1, e2, e3, e4, e5⟩ := y
    exact ⟨T, x, z, e1, e2, e3, e4 _ q.1, e5 _ q.2⟩
theorem so_zip {elts : List Expr} {kk : Nat} {tpos : Pos} {ces : CEs} {pp : Pos} (ok : Okc p P cx k X) (hn : cx.names.lookup ("zip" : Str) = some .globalImplicit) (hb : ("zip" : Str) ∈ cx.blt) (ha : PA X [a, b] (tDs p P k Wx ces)) (hs : starEach [a, b] X.env = (false, eval a X.env) :: starEach [b] X.env) (hpl : (backTo pos (starEach [b] X.env)).any (·.1) = false) :
    PI X (.Tuple elts kk tpos) (.Call (.Name "zip" pp) [a, b] [] pos) (tI p P k Wx (.zip ces)) := by
  refine ⟨fun pins s σ H R I ⟨W, ρ, g, h⟩ => (RZ.pi_zipA (gl_of ok hn) (ok.glo.blt _ hb) ha hs hpl).run pins s σ H R I ?_⟩
  unfold evI at h
  refine tDs.first g h fun ds ρ1 us H1 q1 r hf => ?_
  rw [← ok.K]
  split at hf
  · cases r with
    | cons r1 r =>
      cases r with
      | cons r2 r =>
        cases r
        cases r1 with
        | @lst q1' xs _ l1 a1 s1 =>
          cases r2 with
          | @lst q2' ys _ l2 a2 s2 => exact ⟨q1', q2', xs, ys, rfl, .inl ⟨.inl (.inl l1), .inl (.inl l2), hf _ H1 q1 (it_zipW rfl (walk_zip rfl) s1 s2 fun H1 A1 k1 => ⟨.inl (.inl (k1.ls _ _ a1 l1).1), .inl (.inl (k1.ls _ _ a2 l2).1)⟩)⟩⟩
  · cases r with
    | cons r1 r =>
      cases r with
      | cons r2 r =>
        cases r
        cases r1 with
        | @tup q1' xs _ l1 s1 =>
          cases r2 with
          | @tup q2' ys _ l2 s2 => exact ⟨q1', q2', xs, ys, rfl, .inr ⟨l1, l2, hf _ H1 q1 (it_zipW rfl (walk_zipT rfl) s1 s2 fun H1 A1 k1 => ⟨k1.tp _ _ l1, k1.tp _ _ l2⟩)⟩⟩
  · exact hf.elim
end
end Lv
namespace Lv
open PySem PySem.Spec PyProof.Rows L2
theorem enum_new1 {v : Value} {o : Obj} {Hh : Heap → Prop} (B : Begins v o Hh) :
    Meets (Builtin.«enumerate.__new__» ⟨[.type "enumerate", v], []⟩) (fun _ R s => Hh s.heap ∧
      R (.ok (.ret (.ref (s.heap.push o).objs.size))) { s with heap := (s.heap.push o).push { cls := .type "enumerate", data := .fields #[.none, .bool false, .ref s.heap.objs.size, rawInt 0, .none, .none] } }) :=
  .of_wp fun prog w A R s h => by
    obtain ⟨hp, ge, dr, tk, ops⟩ := s
    obtain ⟨hh, h⟩ := h
    have hsub := sub_enumerate
    have step : ∀ {A' : Around} {E : Value → Shared → Prop} {Q : Value → Shared → Prop}, Q (.ref hp.objs.size) ⟨hp.push o, ge, dr, tk, ops⟩ → wpAny (model prog w) A' (pyIter v) Q E ⟨hp, ge, dr, tk, ops⟩ := fun q => B.iter prog w _ _ ⟨hp, ge, dr, tk, ops⟩ _ hh q
    wp_walk using step
    refine wpAny_stack_any fun _ => wpAny_pure ?_
    split
    · rename_i cc _ _ _ _ _
      cases (cc == Value.type "enumerate") <;>
      · wp_walk using step
        exact ⟨_, rfl, h⟩
    · wp_walk using step
      exact ⟨_, rfl, h⟩
theorem enum_call1 {prog : Program} {w : World} {A : Around} {E : Value → Shared → Prop} {s : Shared} {v : Value} {o : Obj} {Hh : Heap → Prop} {Q : Value → Shared → Prop} (B : Begins v o Hh) (hh : Hh s.heap)
    (h : ∀ h', IsEnum h' (s.heap.objs.size + 1) s.heap.objs.size 0 .none → h'.get? s.heap.objs.size = some o → (∀ b ob, s.heap.get? b = some ob → h'.get? b = some ob) → Q (.ref (s.heap.objs.size + 1)) { s with heap := h' }) :
    wpAny (model prog w) A (call (.type "enumerate") [v]) Q E s := by
  refine callType_new F.called_enumerate (by decide) (F.typeCall_enumerate_1 _) (F.newCall_enumerate_1 _) (fun obj => F.args_object_init_2 obj _) F.entry_enumerate_new (enum_new1 B) ⟨hh, ?_⟩
  have sz : (s.heap.push o).objs.size = s.heap.objs.size + 1 := Heap.size_push ..
  show _ ∧ _
  rw [sz]
  have at1 : IsEnum ((s.heap.push o).push { cls := .type "enumerate", data := .fields #[.none, .bool false, .ref s.heap.objs.size, rawInt 0, .none, .none] }) (s.heap.objs.size + 1) s.heap.objs.size 0 .none := by
    have z := Heap.get?_push_size (s.heap.push o) (o := { cls := .type "enumerate", data := .fields #[.none, .bool false, .ref s.heap.objs.size, rawInt 0, .none, .none] }) rfl
    rwa [sz] at z
  exact ⟨⟨_, at1, rfl⟩, h _ at1 (Heap.get?_push_of_some _ (Heap.get?_push_size _ B.free)) fun b ob x => Heap.get?_push_of_some _ (Heap.get?_push_of_some _ x)⟩
def ItN (K : PySem.W.Frag) (q : Addr) (n : Nat) : It :=
  ⟨fun i H => i < n ∧ ∃ (xs : List V) (x : V), SqT K H q xs ∧ xs[i]? = some x, fun i H v H' => ∃ T x, v = .ref T ∧ H T = none ∧ H' = upd H T (.tup [.int (i : Nat), x]) ∧ ∀ xs, SqT K H q xs → xs[i]? = some x, fun i H => n ≤ i ∧ ∃ xs : List V, SqT K H q xs ∧ xs.length = n⟩
theorem turn_enumN {PP : Program} {w : World} {K : PySem.W.Frag} {elts : List Expr} {kk : Nat} {tpos : Pos} (q e it : Addr) (n : Nat) :
    Turn PP w K (.Tuple elts kk tpos) (ItN K q n) [e, it] e (fun i h => i ≤ n ∧ (∃ old, IsEnum h e it ((i : Nat) : Int) old) ∧ h.IsTupleIter it q i ∧ e ≠ it ∧ e ≠ q ∧ it ≠ q) where
  mem := List.mem_cons_self
  obj := fun i h st b hb => by
    obtain ⟨_, ⟨old, he⟩, ⟨o, ho, _, hd⟩, _⟩ := st
    rcases (show b = e ∨ b = it by simpa using hb) with z | z <;> rw [z]
    · exact ⟨_, he, fun v q => nomatch q⟩
    · exact ⟨o, ho, fun v q => by rw [hd] at q; cases q⟩
  keep := fun i h h' st kp => let ⟨hn, ⟨old, he⟩, hi, r⟩ := st; ⟨hn, ⟨old, kp e (by simp) _ he⟩, hi.at fun o q => kp it (by simp) o q, r⟩
  item := by
    intro X hP hw hK hc i pins s σ H E I hf st hg
    subst hP hw hK
    obtain ⟨hn, ⟨old, he⟩, hit, n1, n2, n3⟩ := st
    obtain ⟨hlt, xs, x, hq, hx⟩ := hg
    obtain ⟨its, rv, pt, hz⟩ := I.tuple hq
    obtain ⟨u, hu, ru⟩ := rv.get hx
    have hel : e < s.heap.objs.size := Heap.lt_size he
    have hil : it < s.heap.objs.size := by obtain ⟨_, z, _⟩ := hit; exact Heap.lt_size z
    have hi : i < its.toArray.size := by
      have := (List.getElem?_eq_some_iff.mp hu).1
      simpa using this
    have D := PySem.Draws.tuple (prog := X.prog) (w := X.w) (A := X.A.in1) (I.ok.hd hc) it q (Ne.symm n3) its.toArray
    refine wpAny_pyNext_enum_itemD D he ⟨hit, pt⟩ hi n1 (by simp [n1, n2]) fun y h' tk hy ho hst hT hsz hk => ?_
    have ey : y = u := by
      have : its.toArray[i]? = some u := by simpa using hu
      rw [this] at hy
      exact (Option.some.inj hy).symm
    subst ey
    refine ⟨_, rfl, wpAny_letOwnedTupleGo_enum (s := { s with heap := h', toks := tk + 1 }) ho fun h'' he' sb => ?_⟩
    have hT2 : h''.get? s.heap.objs.size = some { cls := .type "tuple", data := .seq #[.int i tk, y] } := (sb.2 _ (Nat.ne_of_gt hel)).trans hT
    have new : ObjOk X.prog X.w (upd H s.heap.objs.size (.tup [.int (i : Nat), x])) h'' s.heap.objs.size (.tup [.int (i : Nat), x]) :=
      ⟨by show 2 ≤ sizeLine; decide, [.int i tk, y], .cons ⟨_, rfl⟩ (.cons ru .nil), ⟨_, hT2, rfl, _, rfl⟩⟩
    have I1 : Inv X pins σ (upd H s.heap.objs.size (.tup [.int (i : Nat), x])) { s with heap := h'', toks := tk + 1 } := by
      refine I.turnedNew (ch := [e, it]) (fun b ob hb z => ?_) hf (Nat.le_refl _) new
      have b1 : b ≠ e := fun z => hb (by simp [z])
      have b2 : b ≠ it := fun z => hb (by simp [z])
      exact (sb.2 b b1).trans (hk b ob b1 b2 z)
    refine ⟨.ref s.heap.objs.size, _, I1, rfl, ⟨_, x, rfl, I.hok.fresh (Nat.le_refl _), rfl, fun ys hy => ?_⟩, ⟨hlt, ⟨y, ?_⟩, hst.1.at fun o z => (sb.2 it (Ne.symm n1)).trans z, n1, n2, n3⟩, fun b hb => ?_⟩
    · rw [I.tuple_inj hy hq]; exact hx
    · rw [show ((i + 1 : Nat) : Int) = (i : Int) + 1 by omega]; exact he'
    · have : b < s.heap.objs.size := by
        rcases (show b = e ∨ b = it by simpa using hb) with z | z <;> rw [z] <;> assumption
      rw [upd_ne (Nat.ne_of_lt this)]
      exact (hf b hb).1
  done := by
    intro X hP hw hK hc i pins s σ H E I hf st hg
    subst hP hw hK
    obtain ⟨hn, ⟨old, he⟩, hit, n1, n2, n3⟩ := st
    obtain ⟨hge, xs, hq, hx⟩ := hg
    obtain ⟨its, rv, pt, hz⟩ := I.tuple hq
    obtain ⟨f0, f1, f2, f3, f4, f5⟩ := hf it (by simp)
    have hl := rv.length
    have es : its.toArray.size = i := by simp only [List.size_toArray]; omega
    have D := PySem.Draws.tuple (prog := X.prog) (w := X.w) (A := X.A.in1) (I.ok.hd hc) it q (Ne.symm n3) its.toArray
    rw [es] at D
    exact wpAny_pyNext_enum_endD D he ⟨hit, pt⟩ fun h' eb => ⟨rfl, I.turned (t' := s.toks) (fun b o hb z => eb b o hb z) f0 f1 f3 f4 f5⟩
  self := fun A i s Q E st h => let ⟨_, ⟨_, he⟩, _⟩ := st; wpAny_pyIter_enum he h
def iEnumA (K : PySem.W.Frag) (ta : TA) : TI := fun σ H R => ta σ H fun vs H1 => ∃ q xs, vs = [.ref q] ∧ ((SqL K H1 q xs ∧ R (Ite K q) H1) ∨ (SqT K H1 q xs ∧ R (ItN K q xs.length) H1))
theorem pi_enumA {X : L2.Cx} {e : Expr} {ta : TA} {pp pos tpos : Pos} {elts : List Expr} {kk : Nat} (hg : Gl X "enumerate") (hm : X.mg "enumerate" = none) (ha : PA X [e] ta) (hs : starEach [e] X.env = [(false, eval e X.env)]) :
    PI X (.Tuple elts kk tpos) (.Call (.Name "enumerate" pp) [e] [] pos) (iEnumA X.K ta) := by
  refine ⟨fun pins s σ H R I h => ?_⟩
  refine Call_ (ld_blt I hg hm boot_enumerate (PyProof.Rows.callWith_type1 (thn (ha.run pos pins s σ H _ I h) fun us s1 ⟨vs, H1, I1, r1, q1⟩ => ?_) hs rfl))
  obtain ⟨q, xs, ex, q1⟩ := q1
  subst ex
  cases r1 with
  | cons r rr =>
    cases rr
    cases r
    have fp2 : ∀ b ∈ [s1.heap.objs.size + 1, s1.heap.objs.size], FpOk X pins H1 b := fun b hb => by
      have hle : s1.heap.objs.size ≤ b := by
        rcases (show b = s1.heap.objs.size + 1 ∨ b = s1.heap.objs.size by simpa using hb) with z | z <;> rw [z]
        · exact Nat.le_succ _
        · exact Nat.le_refl _
      exact I1.fpOk hle (I1.hok.fresh hle)
    rcases q1 with ⟨hq, q1⟩ | ⟨hq, q1⟩
    · obtain ⟨its, rv, pl, hz⟩ := I1.list hq
      refine call_enumerate_list pl.isList fun h' he hit hsz hk => wpAny_pyIter_enum he ?_
      have I2 : Inv X pins σ H1 { s1 with heap := h' } := I1.kept (t' := s1.toks) hk
      exact ⟨s1.heap.objs.size + 1, [s1.heap.objs.size + 1, s1.heap.objs.size], _, _, H1, rfl, I2, turn_enum q _ s1.heap.objs.size, ⟨⟨.none, he⟩, hit, Nat.succ_ne_self _⟩, fp2, q1⟩
    · obtain ⟨its, rv, pt, hz⟩ := I1.tuple hq
      have hql : q < s1.heap.objs.size := by obtain ⟨o, e, _⟩ := id pt; exact Heap.lt_size e
      refine enum_call1 (begins_tuple q its.toArray) (show s1.heap.IsTuple q its.toArray from pt) fun h' he hit hk => wpAny_pyIter_enum he ?_
      have I2 : Inv X pins σ H1 { s1 with heap := h' } := I1.kept (t' := s1.toks) hk
      exact ⟨s1.heap.objs.size + 1, [s1.heap.objs.size + 1, s1.heap.objs.size], _, _, H1, rfl, I2, turn_enumN q _ s1.heap.objs.size xs.length, ⟨Nat.zero_le _, ⟨.none, he⟩, ⟨_, hit, rfl, rfl⟩, Nat.succ_ne_self _, Nat.ne_of_gt (Nat.lt_succ_of_lt hql), Nat.ne_of_gt hql⟩, fp2, q1⟩
theorem walk_enumN {K : PySem.W.Frag} {q : Addr} {xs : List V} : Walk (ItN K q xs.length) xs.length (fun H => SqT K H q xs) (YPair (fun i => some (.int (i : Nat))) (fun i => xs[i]?)) := by
  refine ⟨fun i _ hi z => ⟨hi, xs, xs[i], z, by simp [hi]⟩, fun _ z => ⟨Nat.le_refl _, xs, z, rfl⟩, fun i H v H' _ z y => ?_⟩
  obtain ⟨T, x, e1, e2, e3, e4⟩ := y
  exact ⟨T, .int (i : Nat), x, e1, e2, e3, rfl, e4 xs z⟩
section
variable {p : Pm} {P : List Fn} {cx : Cenv} {k : Nat} {X : L2.Cx} {Wx : WX} {a : Expr} {pos : Pos}
theorem so_enum {elts : List Expr} {kk : Nat} {tpos : Pos} {ces : CEs} {pp : Pos} (ok : Okc p P cx k X) (hn : cx.names.lookup ("enumerate" : Str) = some .globalImplicit) (hb : ("enumerate" : Str) ∈ cx.blt) (ha : PA X [a] (tDs p P k Wx ces)) (hs : starEach [a] X.env = [(false, eval a X.env)]) :
    PI X (.Tuple elts kk tpos) (.Call (.Name "enumerate" pp) [a] [] pos) (tI p P k Wx (.enum ces)) := by
  refine ⟨fun pins s σ H R I ⟨W, ρ, g, h⟩ => (pi_enumA (gl_of ok hn) (ok.glo.blt _ hb) ha hs).run pins s σ H R I ?_⟩
  unfold evI at h
  refine tDs.first g h fun ds ρ1 us H1 q1 r hf => ?_
  rw [← ok.K]
  split at hf
  · cases r with
    | cons r1 r =>
      cases r
      cases r1 with
      | @lst q' xs _ l1 a1 s1 => exact ⟨q', xs, rfl, .inl ⟨.inl (.inl l1), hf _ H1 q1 (it_enumW walk_enum s1 fun H1 A1 k1 => .inl (.inl (k1.ls _ _ a1 l1).1))⟩⟩
  · cases r with
    | cons r1 r =>
      cases r
      cases r1 with
      | @tup q' xs _ l1 s1 => exact ⟨q', xs, rfl, .inr ⟨l1, hf _ H1 q1 (it_enumW walk_enumN s1 fun H1 A1 k1 => k1.tp _ _ l1)⟩⟩
  · exact hf.elim
end
end Lv
namespace Lv
open PySem PySem.Spec PyProof.Rows L2
section
variable {p : Pm} {P : List Fn} {cx : Cenv} {k : Nat} {X : L2.Cx} {Wx : WX} {H H' H1 H2 H₀ : Hp} {A A' W W1 : Addr → Prop} {σ σ' : L2.St} {ρ ρ' ρ1 ρ2 : Env} {a b c : Expr} {ca cb cc : CE} {pos : Pos} {d : D} {u : V} {v : Vl}
theorem set_out {α : Type} {l : List α} {i : Nat} {x : α} (h : ¬ i < l.length) : l.set i x = l := List.set_eq_of_length_le (by omega)
theorem Good.set_sh {i : Nat} (g : Good p H W σ ρ) (r : Rep p H (Av W σ ρ) d u) : Good p H W (σ.set i (some u)) (ρ.set i (.sh d)) ∧ ∀ b, Own (σ.set i (some u)) (ρ.set i (.sh d)) b → Own σ ρ b := by
  by_cases hi : i < ρ.length
  case neg =>
    rw [set_out hi, set_out (by rw [← g.len]; exact hi)]
    exact ⟨g, fun _ o => o⟩
  have hi' : i < σ.length := g.len ▸ hi
  have sub : ∀ b, Own (σ.set i (some u)) (ρ.set i (.sh d)) b → Own σ ρ b := fun b ⟨j, e, hj, ej⟩ => by
    by_cases q : i = j
    · subst q; rw [slot_set_same hi] at hj; cases hj
    · rw [slot_set_ne q] at hj; rw [List.getElem?_set_ne q] at ej; exact ⟨j, e, hj, ej⟩
  have av : ∀ b, Av W σ ρ b → Av W (σ.set i (some u)) (ρ.set i (.sh d)) b := fun b ⟨x, y⟩ => ⟨x, fun o => y (sub b o)⟩
  refine ⟨⟨by rw [List.length_set, List.length_set]; exact g.len, g.wt, fun j e hj => ?_, fun j e hj => ?_, fun j l e f b hj hl ej el => ?_⟩, sub⟩
  · by_cases q : i = j
    · subst q
      rw [slot_set_same hi] at hj
      cases hj
      exact ⟨u, by rw [List.getElem?_set_self hi'], r.keep (.mono av)⟩
    · rw [slot_set_ne q] at hj
      obtain ⟨z, ez, r⟩ := g.sh j e hj
      exact ⟨z, by rw [List.getElem?_set_ne q]; exact ez, r.keep (.mono av)⟩
  · by_cases q : i = j
    · subst q; rw [slot_set_same hi] at hj; cases hj
    · rw [slot_set_ne q] at hj
      obtain ⟨z, ez, nz, t⟩ := g.ow j e hj
      exact ⟨z, by rw [List.getElem?_set_ne q]; exact ez, nz, t.mono av⟩
  · have q1 : i ≠ j := fun q => by subst q; rw [slot_set_same hi] at hj; cases hj
    have q2 : i ≠ l := fun q => by subst q; rw [slot_set_same hi] at hl; cases hl
    rw [slot_set_ne q1] at hj
    rw [slot_set_ne q2] at hl
    rw [List.getElem?_set_ne q1] at ej
    rw [List.getElem?_set_ne q2] at el
    exact g.inj j l e f b hj hl ej el
mutual
def tgN : Tg → List Nat
  | .nm i => [i]
  | .tup ts => tgNs ts
def tgNs : List Tg → List Nat
  | [] => []
  | t :: ts => tgN t ++ tgNs ts
end
structure PostT (p : Pm) (H : Hp) (W : Addr → Prop) (ns : List Nat) (σ : L2.St) (ρ : Env) (σ' : L2.St) (ρ' : Env) : Prop where
  good : Good p H W σ' ρ'
  sub : ∀ b, Own σ' ρ' b → Own σ ρ b
  len : σ'.length = σ.length
  out : ∀ i, i ∉ ns → σ'[i]? = σ[i]? ∧ slot ρ' i = slot ρ i
def tG (p : Pm) (t : Tg) : TG := fun v σ H Q => ∃ W ρ d ρ', Good p H W σ ρ ∧ Rep p H (Av W σ ρ) d v ∧ asgD ρ t d = some ρ' ∧ ∀ σ', PostT p H W (tgN t) σ ρ σ' ρ' → Q σ' H
def tGs (p : Pm) (ts : List Tg) : TGs := fun vs σ H Q => ∃ W ρ ds ρ', Good p H W σ ρ ∧ Reps p H (Av W σ ρ) ds vs ∧ asgDs ρ ts ds = some ρ' ∧ ∀ σ', PostT p H W (tgNs ts) σ ρ σ' ρ' → Q σ' H
theorem _root_.L2.PG.imp {e : Expr} {t t' : TG} (h : PG X e t) (i : ∀ v σ H Q, t' v σ H Q → t v σ H Q) : PG X e t' := ⟨fun pins s σ H v u Q I r q => h.run pins s σ H v u Q I r (i v σ H Q q)⟩
theorem _root_.L2.PGs.imp {e : List Expr} {t t' : TGs} (h : PGs X e t) (i : ∀ v σ H Q, t' v σ H Q → t v σ H Q) : PGs X e t' := ⟨fun pins s σ H v u Q I r q => h.run pins s σ H v u Q I r (i v σ H Q q)⟩
theorem PostT.nm {i : Nat} (g : Good p H W σ ρ) (r : Rep p H (Av W σ ρ) d u) : PostT p H W [i] σ ρ (σ.set i (some u)) (ρ.set i (.sh d)) := by
  obtain ⟨g2, sub⟩ := g.set_sh (i := i) r
  refine ⟨g2, sub, List.length_set .., fun j hj => ?_⟩
  have q : i ≠ j := fun q => hj (by simp [q])
  exact ⟨List.getElem?_set_ne q, slot_set_ne q⟩
theorem PostT.trans {n1 n2 : List Nat} {σ2 : L2.St} (x : PostT p H W n1 σ ρ σ' ρ1) (y : PostT p H W n2 σ' ρ1 σ2 ρ2) : PostT p H W (n1 ++ n2) σ ρ σ2 ρ2 :=
  ⟨y.good, fun b o => x.sub b (y.sub b o), y.len.trans x.len, fun i hi => by
    have h1 := x.out i fun z => hi (List.mem_append_left _ z)
    have h2 := y.out i fun z => hi (List.mem_append_right _ z)
    exact ⟨h2.1.trans h1.1, h2.2.trans h1.2⟩⟩
theorem PostT.refl (g : Good p H W σ ρ) : PostT p H W [] σ ρ σ ρ := ⟨g, fun _ o => o, rfl, fun _ _ => ⟨rfl, rfl⟩⟩
theorem so_nm {x : Str} {i : Nat} (ok : Okc p P cx k X) (hN : cx.N[i]? = some x) (hs : i ∈ cx.sto) : PG X (.Name x pos) (tG p (.nm i)) := by
  obtain ⟨hl, hf⟩ := ok.sto i x hs hN
  refine (pg_name ok.nd (by rw [ok.N]; exact hN) hl hf).imp fun v σ H Q ⟨W, ρ, d, ρ', g, r, e, h⟩ => ?_
  unfold asgD at e
  cases e
  exact h _ (.nm g r)
theorem so_gnil : PGs X [] (tGs p []) := pgs_nil.imp fun vs σ H Q ⟨W, ρ, ds, ρ', g, r, e, h⟩ => by
  cases ds with
  | nil =>
    cases r
    unfold asgDs at e
    cases e
    exact ⟨rfl, h σ (.refl g)⟩
  | cons d ds => unfold asgDs at e; cases e
theorem so_gcons {e : Expr} {es : List Expr} {t : Tg} {ts : List Tg} (h1 : PG X e (tG p t)) (h2 : PGs X es (tGs p ts)) (hs : (assignEach (e :: es) X.env).map (·.2) = assign e X.env :: (assignEach es X.env).map (·.2)) : PGs X (e :: es) (tGs p (t :: ts)) := by
  refine (pgs_cons h1 h2 hs).imp fun vs σ H Q ⟨W, ρ, ds, ρ', g, r, e, h⟩ => ?_
  cases r with
  | nil => unfold asgDs at e; cases e
  | @cons d ds v vs r rs =>
    unfold asgDs at e
    cases e1 : asgD ρ t d with
    | none => simp only [e1] at e; cases e
    | some ρ1 =>
      simp only [e1] at e
      refine ⟨v, vs, rfl, W, ρ, d, ρ1, g, r, e1, fun σ1 q1 => ?_⟩
      exact ⟨W, ρ1, ds, ρ', q1.good, rs.keep (.mono fun b ⟨x, y⟩ => ⟨x, fun o => y (q1.sub b o)⟩), e, fun σ2 q2 => h σ2 (q1.trans q2)⟩
theorem asgDs_len : ∀ {ts : List Tg} {ds : List D} {ρ ρ' : Env}, asgDs ρ ts ds = some ρ' → ds.length = ts.length
  | [], [], _, _, _ => rfl
  | [], _ :: _, _, _, h => by unfold asgDs at h; cases h
  | _ :: _, [], _, _, h => by unfold asgDs at h; cases h
  | t :: ts, d :: ds, ρ, ρ', h => by
    unfold asgDs at h
    cases e1 : asgD ρ t d with
    | none => simp only [e1] at h; cases h
    | some ρ1 => simp only [e1] at h; exact congrArg (· + 1) (asgDs_len h)
theorem so_gtup {es : List Expr} {ts : List Tg} {kk : Nat} (ok : Okc p P cx k X) (hs : PGs X es (tGs p ts)) (hn : (assignEach es X.env).length = ts.length) (hst : (assignEach es X.env).findIdx? (·.1) = none) : PG X (.Tuple es kk pos) (tG p (.tup ts)) := by
  refine (pg_tup ok.calm hs hn hst).imp fun v σ H Q ⟨W, ρ, d, ρ', g, r, e, h⟩ => ?_
  cases d with
  | tup ds =>
    unfold asgD at e
    cases r with
    | @tup q xs _ hq r =>
    exact ⟨q, xs, rfl, ok.K ▸ hq, by rw [← r.length]; exact asgDs_len e, W, ρ, ds, ρ', g, r, e, h⟩
  | _ => unfold asgD at e; cases e
theorem wipeE_len : ∀ {own : List Nat} {ρ : Env}, (wipeE ρ own).length = ρ.length
  | [], _ => rfl
  | i :: r, ρ => (wipeE_len (own := r)).trans (List.length_set ..)
theorem slot_un {i : Nat} : slot (ρ.set i .un) i = .un := by
  by_cases h : i < ρ.length
  · exact slot_set_same h
  · rw [set_out h]
    unfold slot
    rw [List.getD_eq_getElem?_getD, List.getElem?_eq_none (by omega)]
    rfl
theorem slot_wipe_in : ∀ {own : List Nat} {ρ : Env} {i : Nat}, (i ∈ own ∨ slot ρ i = .un) → slot (wipeE ρ own) i = .un
  | [], ρ, i, h => h.elim (fun z => by cases z) id
  | j :: r, ρ, i, h => by
    refine slot_wipe_in (own := r) (ρ := ρ.set j .un) ?_
    by_cases q : j = i
    · subst q; exact .inr slot_un
    · rcases h with h | h
      · exact .inl ((List.mem_cons.mp h).resolve_left fun z => q z.symm)
      · exact .inr (by rw [slot_set_ne q]; exact h)
theorem slot_wipe_out : ∀ {own : List Nat} {ρ : Env} {i : Nat}, i ∉ own → slot (wipeE ρ own) i = slot ρ i
  | [], _, _, _ => rfl
  | j :: r, ρ, i, h => by
    have q : j ≠ i := fun q => h (by simp [q])
    exact (slot_wipe_out (own := r) (ρ := ρ.set j .un) fun z => h (List.mem_cons_of_mem _ z)).trans (slot_set_ne q)
theorem wipe_out : ∀ {vs : List Nat} {i : Nat}, i ∉ vs → (wipe σ vs)[i]? = σ[i]?
  | [], _, _ => rfl
  | v :: vs, i, h => by
    unfold wipe
    have q : v ≠ i := fun q => h (by simp [q])
    rw [List.getElem?_set_ne q]
    exact wipe_out fun z => h (List.mem_cons_of_mem _ z)
theorem wipe_in : ∀ {vs : List Nat} {i : Nat}, i ∈ vs → i < σ.length → (wipe σ vs)[i]? = some none
  | v :: vs, i, h, hl => by
    unfold wipe
    by_cases q : v = i
    · subst q
      exact List.getElem?_set_self (by rw [wipe_length]; exact hl)
    · rw [List.getElem?_set_ne q]
      exact wipe_in ((List.mem_cons.mp h).resolve_left fun z => q z.symm) hl
theorem wipe_eq {vs : List Nat} (hl : σ'.length = σ.length) (h : ∀ i, i ∉ vs → σ'[i]? = σ[i]?) : wipe σ' vs = wipe σ vs := by
  apply List.ext_getElem?
  intro i
  by_cases hi : i ∈ vs
  · by_cases hlt : i < σ.length
    · rw [wipe_in hi hlt, wipe_in hi (by rw [hl]; exact hlt)]
    · rw [List.getElem?_eq_none (by rw [wipe_length]; omega), List.getElem?_eq_none (by rw [wipe_length]; omega)]
  · rw [wipe_out hi, wipe_out hi, h i hi]
theorem Good.wiped {own : List Nat} (g : Good p H W σ ρ) (hl : σ'.length = σ.length) (h : ∀ i, i ∉ own → σ'[i]? = σ[i]?) : Good p H W σ' (wipeE ρ own) ∧ ∀ b, Own σ' (wipeE ρ own) b → Own σ ρ b := by
  have key : ∀ {i : Nat}, slot (wipeE ρ own) i ≠ .un → i ∉ own := fun hi z => hi (slot_wipe_in (.inl z))
  have sub : ∀ b, Own σ' (wipeE ρ own) b → Own σ ρ b := fun b ⟨j, e, hj, ej⟩ => by
    have n := key (i := j) (by rw [hj]; exact fun z => nomatch z)
    rw [slot_wipe_out n] at hj
    rw [h j n] at ej
    exact ⟨j, e, hj, ej⟩
  have av : ∀ b, Av W σ ρ b → Av W σ' (wipeE ρ own) b := fun b ⟨x, y⟩ => ⟨x, fun o => y (sub b o)⟩
  refine ⟨⟨by rw [wipeE_len, hl]; exact g.len, g.wt, fun j e hj => ?_, fun j e hj => ?_, fun j l e f b hj hl ej el => ?_⟩, sub⟩
  · have n := key (i := j) (by rw [hj]; exact fun z => nomatch z)
    rw [slot_wipe_out n] at hj
    obtain ⟨z, ez, r⟩ := g.sh j e hj
    exact ⟨z, by rw [h j n]; exact ez, r.keep (.mono av)⟩
  · have n := key (i := j) (by rw [hj]; exact fun z => nomatch z)
    rw [slot_wipe_out n] at hj
    obtain ⟨z, ez, nz, t⟩ := g.ow j e hj
    exact ⟨z, by rw [h j n]; exact ez, nz, t.mono av⟩
  · have n1 := key (i := j) (by rw [hj]; exact fun z => nomatch z)
    have n2 := key (i := l) (by rw [hl]; exact fun z => nomatch z)
    rw [slot_wipe_out n1] at hj
    rw [slot_wipe_out n2] at hl
    rw [h j n1] at ej
    rw [h l n2] at el
    exact g.inj j l e f b hj hl ej el
structure LcS (p : Pm) (H : Hp) (W : Addr → Prop) (σ : L2.St) (ρ : Env) (q : Addr) (done : List D) (σ' : L2.St) (ρ' : Env) (H' : Hp) : Prop where
  ext : ∀ b o, H b = some o → ¬ Own σ ρ b → b ≠ q → H' b = some o
  trk : ∀ b, H' b = none → H b = none
  sub : ∀ b, Own σ' ρ' b → Own σ ρ b
  good : Good p H' (fun b => W b ∨ b = q) σ' ρ'
  lst : ∃ vals, H' q = some (.lst vals) ∧ Reps p H' (Av (fun b => W b ∨ b = q) σ' ρ') done vals
section
variable {q : Addr} {done : List D} {σ2 : L2.St} {ρ0 ρ3 : Env} {H3 : Hp} {x : V}
def Here (H : Hp) (W : Addr → Prop) (q : Addr) : Prop := H q = none ∨ (W q ∧ ∃ xs, H q = some (.lst xs))
theorem LcS.keeps (s : LcS p H W σ ρ q done σ' ρ' H') (g : Good p H W σ ρ) (hw : Here H W q) : Keeps p H H' (Av W σ ρ) (Av (fun b => W b ∨ b = q) σ' ρ') := by
  have ne : ∀ {b : Addr}, H b ≠ none → ¬ W b → b ≠ q := fun r n z => by
    subst z
    exact hw.elim r fun h => n h.1
  have nq : ∀ {b : Addr} {o : HO}, H b = some o → (∀ xs, o ≠ .lst xs) → b ≠ q := fun e n z => by
    subst z
    rcases hw with h | ⟨_, xs, h⟩
    · rw [h] at e; cases e
    · rw [h] at e; cases e; exact n xs rfl
  have av : ∀ {b : Addr}, H b ≠ none → Av W σ ρ b → Av (fun b => W b ∨ b = q) σ' ρ' b := fun r ⟨a1, a2⟩ => ⟨fun z => z.elim a1 (ne r a1), fun o => a2 (s.sub _ o)⟩
  refine ⟨fun b u hb r nt => ⟨?_, av (Rd.there r) hb⟩, fun b xs h => ?_, fun b xs hb h => ?_, fun b xs h => ?_⟩
  · rcases r with r | ⟨o, r⟩
    · exact .inl (s.ext b _ r hb.2 (ne (by rw [r]; exact fun z => nomatch z) hb.1))
    · exact .inr ⟨o, s.ext b _ r hb.2 (ne (by rw [r]; exact fun z => nomatch z) hb.1)⟩
  · rcases h with h | h
    · have n := g.tup h
      rcases h with h | ⟨o, h⟩
      · exact .inl (.inl (s.ext _ _ h n (nq h fun _ z => nomatch z)))
      · exact .inl (.inr ⟨o, s.ext _ _ h n (nq h fun _ z => nomatch z)⟩)
    · exact .inr h
  · have e : H b ≠ none := by rw [h]; exact fun z => nomatch z
    exact ⟨s.ext b _ h hb.2 (ne e hb.1), av e hb⟩
  · rcases h with ⟨o, h⟩ | h
    · refine .inl ⟨o, s.ext _ _ h (fun z => ?_) (nq h fun _ z => nomatch z)⟩
      obtain ⟨_, d, t⟩ := g.own z
      obtain ⟨o', e, _, nf, _⟩ := t.there
      rw [e] at h
      exact nf _ _ (Option.some.inj h)
    · exact .inr h
theorem LcS.e (s : LcS p H W σ ρ q done σ' ρ' H') (x : PostE p H' (fun b => W b ∨ b = q) σ' ρ' ρ2 H2) : LcS p H W σ ρ q done σ' ρ2 H2 := by
  obtain ⟨vals, e, r⟩ := s.lst
  have nq : ¬ Own σ' ρ' q := fun o => (s.good.own o).1 (.inr rfl)
  refine ⟨fun b o e n1 n2 => x.ext b o (s.ext b o e n1 n2) fun z => n1 (s.sub b z), fun b e => s.trk b (x.trk b e), fun b o => s.sub b (x.sub b o), x.good, vals, x.ext q _ e nq, r.keep (s.good.keeps x.ext (fun b h => h.2) (Av.less (fun _ w => w) x.sub))⟩
theorem LcS.t {ns : List Nat} (s : LcS p H W σ ρ q done σ' ρ' H') (x : PostT p H' (fun b => W b ∨ b = q) ns σ' ρ' σ2 ρ2) : LcS p H W σ ρ q done σ2 ρ2 H' := by
  obtain ⟨vals, e, r⟩ := s.lst
  exact ⟨s.ext, s.trk, fun b o => s.sub b (x.sub b o), x.good, vals, e, r.keep (.mono fun b ⟨a1, a2⟩ => ⟨a1, fun o => a2 (x.sub b o)⟩)⟩
theorem LcS.w {own : List Nat} (s : LcS p H W σ ρ q done σ' ρ' H') (hl : σ2.length = σ'.length) (h : ∀ i, i ∉ own → σ2[i]? = σ'[i]?) : LcS p H W σ ρ q done σ2 (wipeE ρ' own) H' := by
  obtain ⟨vals, e, r⟩ := s.lst
  obtain ⟨g, sub⟩ := s.good.wiped hl h
  exact ⟨s.ext, s.trk, fun b o => s.sub b (sub b o), g, vals, e, r.keep (.mono fun b ⟨a1, a2⟩ => ⟨a1, fun o => a2 (sub b o)⟩)⟩
theorem Good.laid' {r : Addr} {o : HO} (g : Good p H W σ ρ) (n : H r = none) : Good p (upd H r o) W σ ρ := (g.laid n).less fun _ w => .inl w
theorem LcS.y (s : LcS p H W σ ρ q done σ' ρ' H') (y : Yld p H' (Av (fun b => W b ∨ b = q) σ' ρ') d x H2) : LcS p H W σ ρ q done σ' ρ' H2 ∧ Rep p H2 (Av (fun b => W b ∨ b = q) σ' ρ') d x := by
  rcases y with ⟨e, r⟩ | ⟨r, ds, us, e1, e2, n, e3, rr⟩
  · subst e; exact ⟨s, r⟩
  · subst e1 e2 e3
    have pe : PostE p H' (fun b => W b ∨ b = q) σ' ρ' ρ' (upd H' r (.tup us)) := (PostE.refl s.good).laid n
    exact ⟨s.e pe, .tup (.inl (.inl upd_same)) ((rr.keep (Keeps.laid n)).keep (.mono fun b h => h.1))⟩
theorem keeps_at {xs ys : List V} {A : Addr → Prop} (e : H q = some (.lst xs)) (hA : ∀ b, A b → b ≠ q) : Keeps p H (upd H q (.lst ys)) A A where
  rd := fun b u hb r _ => ⟨by
    rcases r with r | ⟨o, r⟩
    · exact .inl (by rw [upd_ne (hA b hb)]; exact r)
    · exact .inr ⟨o, by rw [upd_ne (hA b hb)]; exact r⟩, hb⟩
  tp := fun b zs h => by
    rcases h with h | h
    · rcases h with h | ⟨o, h⟩
      · exact .inl (.inl (by rw [upd_ne (fun z => by rw [z, e] at h; cases h)]; exact h))
      · exact .inl (.inr ⟨o, by rw [upd_ne (fun z => by rw [z, e] at h; cases h)]; exact h⟩)
    · exact .inr h
  ls := fun b zs hb h => ⟨by rw [upd_ne (hA b hb)]; exact h, hb⟩
  sc := fun b zs h => by
    rcases h with ⟨o, h⟩ | h
    · exact .inl ⟨o, by rw [upd_ne (fun z => by rw [z, e] at h; cases h)]; exact h⟩
    · exact .inr h
theorem Good.at {xs ys : List V} (g : Good p H W σ ρ) (e : H q = some (.lst xs)) (w : W q) : Good p (upd H q (.lst ys)) W σ ρ := by
  have kp : Keeps p H (upd H q (.lst ys)) (Av W σ ρ) (Av W σ ρ) := keeps_at e fun b h z => h.1 (z ▸ w)
  refine ⟨g.len, fun b wb z => ?_, fun i d h => ?_, fun i d h => ?_, g.inj⟩
  · by_cases hb : b = q
    · rw [hb, upd_same] at z; cases z
    · rw [upd_ne hb] at z; exact g.wt b wb z
  · obtain ⟨v, ev, r⟩ := g.sh i d h
    exact ⟨v, ev, r.keep kp⟩
  · obtain ⟨b, eb, nb, t⟩ := g.ow i d h
    exact ⟨b, eb, nb, t.keep kp fun o ho => by rw [upd_ne (fun z => nb (by rw [z]; exact w))]; exact ho⟩
theorem LcS.app (s : LcS p H W σ ρ q done σ' ρ' H') (r : Rep p H' (Av (fun b => W b ∨ b = q) σ' ρ') d x) : ∃ acc, H' q = some (.lst acc) ∧ acc.length = done.length ∧ LcS p H W σ ρ q (done ++ [d]) σ' ρ' (upd H' q (.lst (acc ++ [x]))) := by
  obtain ⟨vals, e, rr⟩ := s.lst
  have kp : Keeps p H' (upd H' q (.lst (vals ++ [x]))) (Av (fun b => W b ∨ b = q) σ' ρ') (Av (fun b => W b ∨ b = q) σ' ρ') := keeps_at e fun b h z => h.1 (.inr z)
  refine ⟨vals, e, rr.length.symm, fun b o h1 n1 n2 => by rw [upd_ne n2]; exact s.ext b o h1 n1 n2, fun b h => s.trk b ?_, s.sub, s.good.at e (.inr rfl), vals ++ [x], upd_same, (rr.keep kp).append (.cons (r.keep kp) .nil)⟩
  by_cases hb : b = q
  · rw [hb, upd_same] at h; cases h
  · rw [upd_ne hb] at h; exact h
theorem LcS.start (g : Good p H W σ ρ) (n : H q = none) : LcS p H W σ ρ q [] σ ρ (upd H q (.lst [])) :=
  ⟨fun b o e _ n2 => by rw [upd_ne n2]; exact e, fun b e => by
    by_cases hb : b = q
    · rw [hb, upd_same] at e; cases e
    · rw [upd_ne hb] at e; exact e, fun _ o => o, g.laid n, [], upd_same, .nil⟩
theorem LcS.trans {done2 : List D} (s : LcS p H W σ ρ q done σ' ρ' H') (t : LcS p H' (fun b => W b ∨ b = q) σ' ρ' q done2 σ2 ρ2 H2) : LcS p H W σ ρ q done2 σ2 ρ2 H2 := by
  have ew : (fun b => (W b ∨ b = q) ∨ b = q) = fun b => W b ∨ b = q := funext fun b => propext ⟨fun h => h.elim id .inr, .inl⟩
  have g := t.good
  have l := t.lst
  rw [ew] at g l
  exact ⟨fun b o e n1 n2 => t.ext b o (s.ext b o e n1 n2) (fun z => n1 (s.sub b z)) n2, fun b e => s.trk b (t.trk b e), fun b o => s.sub b (t.sub b o), g, l⟩
theorem LcS.again (s : LcS p H W σ ρ q done σ' ρ' H') : LcS p H' (fun b => W b ∨ b = q) σ' ρ' q done σ' ρ' H' := by
  have ew : (fun b => (W b ∨ b = q) ∨ b = q) = fun b => W b ∨ b = q := funext fun b => propext ⟨fun h => h.elim id .inr, .inl⟩
  refine ⟨fun _ _ e _ _ => e, fun _ e => e, fun _ o => o, ?_, ?_⟩
  · rw [ew]; exact s.good
  · rw [ew]; exact s.lst
end
theorem turns {J : It} {n : Nat} {G : Hp → Prop} {Y : Nat → Hp → V → Hp → Prop} (w : Walk J n G Y) {step : V → Hp → (Hp → Prop) → Prop} {H0 : Hp} {Qd : Hp → Prop} (Pv : Nat → Hp → Prop) (h0 : Pv 0 H0) (hG : ∀ i H, i ≤ n → Pv i H → G H)
    (hs : ∀ i x H H', i < n → Pv i H → Y i H x H' → step x H' (Pv (i + 1))) (hd : ∀ H, Pv n H → Qd H) :
    ∃ Wt : Nat → Nat → Hp → Prop, (∃ m, Wt 0 m H0) ∧ ∀ i m H, Wt i m H → (J.stop i H ∧ Qd H) ∨ (J.go i H ∧ ∃ Nx : Hp → Prop, (∀ H', Nx H' → ∃ m', m' < m ∧ Wt (i + 1) m' H') ∧ ∀ x H', J.yld i H x H' → step x H' Nx) := by
  refine ⟨fun i m H => m = n - i ∧ i ≤ n ∧ Pv i H, ⟨n - 0, rfl, Nat.zero_le _, h0⟩, fun i m H ⟨em, hi, pv⟩ => ?_⟩
  subst em
  have hg := hG i H hi pv
  rcases Nat.lt_or_ge i n with hlt | hge
  · exact .inr ⟨w.goes i H hlt hg, Pv (i + 1), fun H' pv' => ⟨n - (i + 1), by omega, rfl, hlt, pv'⟩, fun x H' y => hs i x H H' hlt pv (w.yields i H x H' hlt hg y)⟩
  · have e : i = n := by omega
    subst e
    exact .inl ⟨w.stops H hg, hd H pv⟩
theorem lcGo_cons {body : D → Env → R (List D)} {x : D} {xs ds : List D} (h : lcGo body (x :: xs) ρ = .ok ds ρ2) : ∃ ys ρ1 zs, body x ρ = .ok ys ρ1 ∧ lcGo body xs ρ1 = .ok zs ρ2 ∧ ds = ys ++ zs := by
  unfold lcGo at h
  cases h1 : body x ρ with
  | ok ys ρ1 =>
    rw [h1] at h
    simp only at h
    cases h2 : lcGo body xs ρ1 with
    | ok zs ρ3 => rw [h2] at h; cases h; exact ⟨ys, ρ1, zs, rfl, h2, rfl⟩
    | ex n ρ3 => rw [h2] at h; cases h
    | bad => rw [h2] at h; cases h
  | ex n ρ1 => rw [h1] at h; cases h
  | bad => rw [h1] at h; cases h
theorem lc_loop {J : It} {xs : List D} {Hb : Hp} {Ab : Addr → Prop} {body : D → Env → R (List D)} {step : V → Hp → (Hp → Prop) → Prop} {H0 : Hp} {Qd : Hp → Prop} {ρ0 ρ3 : Env} {ds done0 : List D} (it : Iters p Hb Ab J xs) (S : List D → Env → Hp → Prop) (Ao : Env → Addr → Prop)
    (hk : ∀ done ρ H, S done ρ H → Keeps p Hb H Ab (Ao ρ)) (hr : lcGo body xs ρ0 = .ok ds ρ3) (h0 : S done0 ρ0 H0)
    (hs : ∀ done ρ H d x H' ys ρ1, S done ρ H → Yld p H (Ao ρ) d x H' → body d ρ = .ok ys ρ1 → (done ++ ys).length ≤ (done0 ++ ds).length → ∀ Nx : Hp → Prop, (∀ H, S (done ++ ys) ρ1 H → Nx H) → step x H' Nx) (hd : ∀ H, S (done0 ++ ds) ρ3 H → Qd H) :
    ∃ Wt : Nat → Nat → Hp → Prop, (∃ m, Wt 0 m H0) ∧ ∀ i m H, Wt i m H → (J.stop i H ∧ Qd H) ∨ (J.go i H ∧ ∃ Nx : Hp → Prop, (∀ H', Nx H' → ∃ m', m' < m ∧ Wt (i + 1) m' H') ∧ ∀ x H', J.yld i H x H' → step x H' Nx) := by
  obtain ⟨G, Y, w, f⟩ := it
  refine turns w (fun i H => ∃ done rest ρ, S done ρ H ∧ lcGo body (xs.drop i) ρ = .ok rest ρ3 ∧ done ++ rest = done0 ++ ds) ⟨done0, ds, ρ0, h0, hr, rfl⟩ (fun i H _ ⟨done, rest, ρ, s, _⟩ => (f H _ (hk _ _ _ s)).1) (fun i x H H' hi ⟨done, rest, ρ, s, e1, e2⟩ y => ?_) fun H ⟨done, rest, ρ, s, e1, e2⟩ => ?_
  · obtain ⟨d, hd, yl⟩ := (f H _ (hk _ _ _ s)).2 i x H' hi y
    have ed : xs.drop i = d :: xs.drop (i + 1) := by
      obtain ⟨h1, h2⟩ := List.getElem?_eq_some_iff.mp hd
      rw [List.drop_eq_getElem_cons h1, h2]
    rw [ed] at e1
    obtain ⟨ys, ρ1, zs, b1, b2, b3⟩ := lcGo_cons e1
    subst b3
    exact hs done ρ H d x H' ys ρ1 s yl b1 (by rw [← e2]; simp only [List.length_append]; omega) _ fun H2 s2 => ⟨done ++ ys, zs, ρ1, s2, b2, by rw [List.append_assoc]; exact e2⟩
  · rw [List.drop_length] at e1
    unfold lcGo at e1
    cases e1
    rw [List.append_nil] at e2
    subst e2
    exact hd H s
section
variable (p : Pm) (P : List Fn) (k : Nat) (Wx : WX)
def tC (c : CEs) : TT := fun σ H Q => ∃ W ρ, Good p H W σ ρ ∧ RFin (evC (fcOf P) (callF P k) c ρ) (fun b ρ' => ∀ H', PostE p H W σ ρ ρ' H' → Q b H') (exP p Wx H W σ ρ)
def noW : WX := fun _ _ _ _ => False
end
theorem _root_.L2.PTs.imp {e : List Expr} {t t' : TT} (h : PTs X e t) (i : ∀ σ H Q, t' σ H Q → t σ H Q) : PTs X e t' := ⟨fun pins s σ H Q I q => h.run pins s σ H Q I (i σ H Q q)⟩
theorem so_c0 : PTs X [] (tC p P k Wx .nil) := pts_nil.imp fun σ H Q ⟨W, ρ, g, h⟩ => h H (.refl g)
theorem so_c1 {ces : CEs} (h : PT X c (tT p P k Wx cc)) : PTs X [c] (tC p P k Wx (.cons cc ces)) := (pts_one h).imp fun σ H Q h => h
theorem lc_elem {q : Addr} {done ys : List D} {ρ3 : Env} {cs : CEs} {ce : CE} {Nx : Hp → Prop} (s : LcS p H W σ ρ q done σ' ρ' H')
    (e : elemR (evC (fcOf P) (callF P k) cs) (evE (fcOf P) (callF P k) ce) ρ' = .ok ys ρ3)
    (hz : (done ++ ys).length ≤ 16777216) (hn : ∀ Hn, LcS p H W σ ρ q (done ++ ys) σ' ρ3 Hn → Nx Hn) :
    tC p P k noW cs σ' H' fun b H3 => if b = true then tE p P k noW ce σ' H3 fun y H4 => ∃ acc, H4 q = some (.lst acc) ∧ acc.length < sizeLine ∧ Nx (upd H4 q (.lst (acc ++ [y]))) else Nx H3 := by
  unfold elemR at e
  refine ⟨_, ρ', s.good, ?_⟩
  cases h1 : evC (fcOf P) (callF P k) cs ρ' with
  | bad => rw [h1] at e; cases e
  | ex n ρ1 => rw [h1] at e; cases e
  | ok kk ρ1 =>
    rw [h1] at e
    intro H3 q1
    have s1 := s.e q1
    cases kk with
    | false =>
      have e' : R.ok (α := List D) [] ρ1 = .ok ys ρ3 := e
      cases e'
      rw [List.append_nil] at hn
      exact hn H3 s1
    | true =>
      have e' : (evE (fcOf P) (callF P k) ce ρ1).bind letR = R.ok ys ρ3 := e
      refine ⟨_, ρ1, s1.good, ?_⟩
      cases h2 : evE (fcOf P) (callF P k) ce ρ1 with
      | bad => rw [h2] at e'; cases e'
      | ex n ρ2 => rw [h2] at e'; cases e'
      | ok v ρ2 =>
        rw [h2] at e'
        intro u H4 q2
        have e2 : letR v ρ2 = R.ok ys ρ3 := e'
        unfold letR at e2
        cases h3 : letgo ρ2 v with
        | none => rw [h3] at e2; cases e2
        | some z =>
          obtain ⟨d, ρ4⟩ := z
          rw [h3] at e2
          cases e2
          obtain ⟨q4, r⟩ := q2.letgo s1.good h3
          obtain ⟨acc, a1, a2, s4⟩ := (s1.e q4).app r
          refine ⟨acc, a1, ?_, hn _ s4⟩
          rw [a2]
          simp only [List.length_append, List.length_singleton] at hz
          show done.length < sizeLine
          have : sizeLine = 16777216 := rfl
          omega
theorem hide_ok : ∀ {own : List Nat} {ρ ρ2 : Env}, hide ρ own = some ρ2 → ρ2 = wipeE ρ own ∧ ∀ i ∈ own, ∀ d, slot ρ i ≠ .ow d
  | [], ρ, ρ2, h => by cases h; exact ⟨rfl, fun _ z => by cases z⟩
  | i :: r, ρ, ρ2, h => by
    unfold hide at h
    have key : hide (ρ.set i .un) r = some ρ2 ∧ ∀ d, slot ρ i ≠ .ow d := by
      cases hs : slot ρ i with
      | ow d => rw [hs] at h; cases h
      | un => rw [hs] at h; exact ⟨h, fun _ z => nomatch z⟩
      | sh d => rw [hs] at h; exact ⟨h, fun _ z => nomatch z⟩
    obtain ⟨h1, h2⟩ := hide_ok key.1
    refine ⟨h1, fun j hj d => ?_⟩
    by_cases q : i = j
    · exact q ▸ key.2 d
    · have := h2 j ((List.mem_cons.mp hj).resolve_left fun z => q z.symm) d
      rwa [slot_set_ne q] at this
theorem show_len : ∀ {own : List Nat} {ρ0 ρ : Env}, (show_ ρ0 ρ own).length = ρ.length
  | [], _, _ => rfl
  | i :: r, ρ0, ρ => (show_len (own := r)).trans (List.length_set ..)
theorem show_out : ∀ {own : List Nat} {ρ0 ρ : Env} {i : Nat}, i ∉ own → slot (show_ ρ0 ρ own) i = slot ρ i
  | [], _, _, _, _ => rfl
  | j :: r, ρ0, ρ, i, h => by
    have q : j ≠ i := fun q => h (by simp [q])
    exact (show_out (own := r) (ρ0 := ρ0) (ρ := ρ.set j (slot ρ0 j)) fun z => h (List.mem_cons_of_mem _ z)).trans (slot_set_ne q)
theorem show_in : ∀ {own : List Nat} {ρ0 ρ : Env} {i : Nat}, ρ.length = ρ0.length → (i ∈ own ∨ slot ρ i = slot ρ0 i) → slot (show_ ρ0 ρ own) i = slot ρ0 i
  | [], ρ0, ρ, i, hl, h => h.elim (fun z => by cases z) id
  | j :: r, ρ0, ρ, i, hl, h => by
    refine show_in (own := r) (ρ := ρ.set j (slot ρ0 j)) (by rw [List.length_set]; exact hl) ?_
    by_cases q : j = i
    · subst q
      right
      by_cases hi : j < ρ.length
      · exact slot_set_same hi
      · rw [set_out hi]
        unfold slot
        rw [List.getD_eq_getElem?_getD, List.getD_eq_getElem?_getD, List.getElem?_eq_none (by omega), List.getElem?_eq_none (by omega)]
    · rcases h with h | h
      · exact .inl ((List.mem_cons.mp h).resolve_left fun z => q z.symm)
      · exact .inr (by rw [slot_set_ne q]; exact h)
theorem lc_end {own : List Nat} {q : Addr} {ds : List D} {ρ3 : Env} (q0 : PostE p H W σ ρ ρ1 H1) (n : H1 q = none) (ho : ∀ i ∈ own, ∀ d, slot ρ1 i ≠ .ow d) (s : LcS p H1 W σ ρ1 q ds (wipe σ own) (wipeE ρ3 own) H') :
    Post p H W σ ρ (.ow (.lst ds)) (show_ ρ1 ρ3 own) (.ref q) H' := by
  have l3 : ρ3.length = ρ1.length := by
    have := s.good.len
    rw [wipeE_len, wipe_length, ← q0.good.len] at this
    exact this
  have sl : ∀ {i}, i ∉ own → slot (show_ ρ1 ρ3 own) i = slot (wipeE ρ3 own) i := fun h => (show_out h).trans (slot_wipe_out h).symm
  have si : ∀ {i}, i ∈ own → slot (show_ ρ1 ρ3 own) i = slot ρ1 i := fun h => show_in l3 (.inl h)
  have sub : ∀ b, Own σ (show_ ρ1 ρ3 own) b → Own (wipe σ own) (wipeE ρ3 own) b := fun b ⟨i, d, hi, ei⟩ => by
    by_cases q : i ∈ own
    · rw [si q] at hi; exact absurd hi (ho i q d)
    · rw [sl q] at hi; exact ⟨i, d, hi, by rw [wipe_out q]; exact ei⟩
  have kp := s.keeps q0.good (.inl n)
  have av : ∀ b, Av (fun b => W b ∨ b = q) (wipe σ own) (wipeE ρ3 own) b → Av (fun b => W b ∨ b = q) σ (show_ ρ1 ρ3 own) b := fun b ⟨x, y⟩ => ⟨x, fun o => y (sub b o)⟩
  have g : Good p H' (fun b => W b ∨ b = q) σ (show_ ρ1 ρ3 own) := by
    refine ⟨by rw [show_len, l3]; exact q0.good.len, s.good.wt, fun i d h => ?_, fun i d h => ?_, fun i j d e b hi hj ei ej => ?_⟩
    · by_cases hq : i ∈ own
      · rw [si hq] at h
        obtain ⟨v, ev, r⟩ := q0.good.sh i d h
        exact ⟨v, ev, (r.keep kp).keep (.mono av)⟩
      · rw [sl hq] at h
        obtain ⟨v, ev, r⟩ := s.good.sh i d h
        rw [wipe_out hq] at ev
        exact ⟨v, ev, r.keep (.mono av)⟩
    · by_cases hq : i ∈ own
      · rw [si hq] at h; exact absurd h (ho i hq d)
      · rw [sl hq] at h
        obtain ⟨v, ev, nv, t⟩ := s.good.ow i d h
        rw [wipe_out hq] at ev
        exact ⟨v, ev, nv, t.mono av⟩
    · have hi' : i ∉ own := fun z => by rw [si z] at hi; exact absurd hi (ho i z d)
      have hj' : j ∉ own := fun z => by rw [si z] at hj; exact absurd hj (ho j z e)
      rw [sl hi'] at hi
      rw [sl hj'] at hj
      exact s.good.inj i j d e b hi hj (by rw [wipe_out hi']; exact ei) (by rw [wipe_out hj']; exact ej)
  obtain ⟨vals, el, r⟩ := s.lst
  refine ⟨fun b o e0 n1 => s.ext b o (q0.ext b o e0 n1) (fun z => n1 (q0.sub b z)) (fun z => ?_), fun b e => q0.trk b (s.trk b e), fun b o => q0.sub b (s.sub b (sub b o)), ?_, q, rfl, q0.trk q n, vals, el, ?_⟩
  ·
    have := q0.ext b o e0 n1
    rw [z, n] at this; cases this
  · refine g.less fun b w => w.elim .inl fun ⟨_, e⟩ => .inr (by cases e; rfl)
  · refine r.keep (.mono fun b h => ?_)
    obtain ⟨x, y⟩ := av b h
    exact ⟨⟨fun w => x (.inl w), y⟩, fun z => x (.inr z)⟩
theorem wipeE_get : ∀ {own : List Nat} {ρ : Env} {i : Nat}, (wipeE ρ own)[i]? = if i ∈ own then (ρ[i]?).map fun _ => Sl.un else ρ[i]?
  | [], ρ, i => by simp [wipeE]
  | j :: r, ρ, i => by
    have ih := wipeE_get (own := r) (ρ := ρ.set j .un) (i := i)
    have e : wipeE ρ (j :: r) = wipeE (ρ.set j .un) r := rfl
    rw [e, ih]
    by_cases q : j = i
    · subst q
      by_cases hi : j < ρ.length
      · rw [List.getElem?_set_self hi, List.getElem?_eq_getElem hi]
        by_cases h2 : j ∈ r <;> simp [h2]
      · rw [set_out hi, List.getElem?_eq_none (by omega)]
        by_cases h2 : j ∈ r <;> simp [h2]
    · rw [List.getElem?_set_ne q]
      have : (i ∈ j :: r) = (i ∈ r) := by simp [Ne.symm q]
      simp only [this]
theorem wipeE_twice {own : List Nat} : wipeE (wipeE ρ own) own = wipeE ρ own := by
  apply List.ext_getElem?
  intro i
  rw [wipeE_get, wipeE_get]
  by_cases h : i ∈ own <;> simp [h, Function.comp_def]
theorem lcGo_no {body : D → Env → R (List D)} : ∀ {xs : List D} {ρ ρ1 : Env} {n : Nat}, lcGo body xs ρ ≠ .ex n ρ1
  | [], ρ, ρ1, n, h => by unfold lcGo at h; cases h
  | x :: xs, ρ, ρ1, n, h => by
    unfold lcGo at h
    cases h1 : body x ρ with
    | ok ys ρ2 =>
      rw [h1] at h
      simp only at h
      cases h2 : lcGo body xs ρ2 <;> rw [h2] at h <;> cases h
    | ex m ρ2 => rw [h1] at h; cases h
    | bad => rw [h1] at h; cases h
theorem asgThen_some {α : Type} {o : Option Env} {f : Env → R α} {r : α} (h : asgThen o f = .ok r ρ') : ∃ ρ, o = some ρ ∧ f ρ = .ok r ρ' := by
  cases o with
  | none => cases h
  | some ρ => exact ⟨ρ, rfl, h⟩
theorem lc_fin {own : List Nat} {body : D → Env → R (List D)} {xs : List D} {okP : Vl → Env → Prop} {xP : Nat → Env → Prop} (h : RFin (asgThen (hide ρ1 own) fun ρ2 => lcFin own ρ1 (lcGo body xs ρ2)) okP xP) :
    (∀ i ∈ own, ∀ d, slot ρ1 i ≠ .ow d) ∧ ∃ ds ρ3, lcGo body xs (wipeE ρ1 own) = .ok ds ρ3 ∧ ds.length ≤ 16777216 ∧ okP (.ow (.lst ds)) (show_ ρ1 ρ3 own) := by
  cases hh : hide ρ1 own with
  | none => rw [hh] at h; exact h.elim
  | some ρ2 =>
    rw [hh] at h
    obtain ⟨e2, ho⟩ := hide_ok hh
    subst e2
    have h : RFin (lcFin own ρ1 (lcGo body xs (wipeE ρ1 own))) okP xP := h
    unfold lcFin at h
    cases hl : lcGo body xs (wipeE ρ1 own) with
    | bad => rw [hl] at h; exact h.elim
    | ex n ρ3 => exact absurd hl lcGo_no
    | ok ds ρ3 =>
      rw [hl] at h
      have h : RFin (if fits ds.length = true then R.ok (Vl.ow (D.lst ds)) (show_ ρ1 ρ3 own) else .bad) okP xP := h
      split at h
      case isFalse => exact h.elim
      case isTrue hz => exact ⟨ho, ds, ρ3, rfl, fits_le hz, h⟩
theorem lc_imp {own : List Nat} {t : Tg} {ci : CI} {cs : CEs} {ce : CE} {Q : VK} (ht : ∀ i ∈ tgN t, i ∈ own) (h : tE p P k Wx (.lc own t ci cs ce) σ H Q) : tLc (tI p P k Wx ci) (tG p t) (tC p P k noW cs) (tE p P k noW ce) own σ H Q := by
  obtain ⟨W, ρ, g, h⟩ := h
  unfold evE at h
  refine ⟨W, ρ, g, h.bind.mono (fun xs ρ1 hf J H1 q0 it q n => ?_) fun _ _ e => e⟩
  obtain ⟨ho, ds, ρ3, hl, hz, hq⟩ := lc_fin hf
  have s0 := (LcS.start q0.good n).w (own := own) (σ2 := wipe σ own) (wipe_length σ own) fun i hi => wipe_out hi
  refine lc_loop (step := fun x H' Nx => tG p t x (wipe σ own) H' fun σ2 H2 => wipe σ2 own = wipe σ own ∧ tC p P k noW cs σ2 H2 fun b H3 => if b = true then tE p P k noW ce σ2 H3 fun y H4 => ∃ acc, H4 q = some (.lst acc) ∧ acc.length < sizeLine ∧ Nx (upd H4 q (.lst (acc ++ [y]))) else Nx H3)
    it (fun done ρ H => LcS p H1 W σ ρ1 q done (wipe σ own) (wipeE ρ own) H) (fun ρ => Av (fun b => W b ∨ b = q) (wipe σ own) (wipeE ρ own)) (fun done ρ H s => s.keeps q0.good (.inl n)) hl (done0 := []) ?_ ?_ ?_
  · show LcS p H1 W σ ρ1 q [] (wipe σ own) (wipeE (wipeE ρ1 own) own) _
    rw [wipeE_twice]; exact s0
  · intro done ρc Hc d x H' ys ρc1 s yl hb hlen Nx hn
    obtain ⟨s1, r⟩ := s.y yl
    obtain ⟨ρa, ha, hb⟩ := asgThen_some hb
    refine ⟨_, _, d, ρa, s1.good, r, ha, fun σ2 pt => ⟨?_, ?_⟩⟩
    · have := wipe_eq (vs := own) pt.len fun i hi => (pt.out i fun z => hi (ht i z)).1
      rw [this]
      exact wipe_eq (wipe_length σ own) fun i hi => wipe_out hi
    · refine lc_elem (s1.t pt) hb (Nat.le_trans hlen hz) fun Hn sn => hn Hn ?_
      refine sn.w (by rw [pt.len]) fun i hi => ((pt.out i fun z => hi (ht i z)).1).symm
  · exact fun Hc s => hq _ _ (lc_end q0 n ho s)
theorem lc2_imp {own own1 : List Nat} {t t1 : Tg} {ci ci1 : CI} {cs : CEs} {ce : CE} {Q : VK} (ht : ∀ i ∈ tgN t, i ∈ own) (ht1 : ∀ i ∈ tgN t1, i ∈ own1) (h1 : ∀ i ∈ own1, i ∈ own) (h : tE p P k Wx (.lc2 own own1 t ci t1 ci1 cs ce) σ H Q) :
    tLc2 (tI p P k Wx ci) (tG p t) tYes (tI p P k noW ci1) (tG p t1) (tC p P k noW cs) (tE p P k noW ce) own own1 σ H Q := by
  obtain ⟨W, ρ, g, h⟩ := h
  unfold evE at h
  refine ⟨W, ρ, g, h.bind.mono (fun xs ρ1 hf J H1 q0 it q n => ?_) fun _ _ e => e⟩
  obtain ⟨ho, ds, ρ3, hl, hz, hq⟩ := lc_fin hf
  have s0 := (LcS.start q0.good n).w (own := own) (σ2 := wipe σ own) (wipe_length σ own) fun i hi => wipe_out hi
  refine lc_loop (step := fun x H' Nx => tG p t x (wipe σ own) H' fun σ2 H2 => wipe σ2 own = wipe σ own ∧ tYes σ2 H2 fun b H3 => if b = true then tI p P k noW ci1 σ2 H3 fun J1 H4 => ∃ W1 : Nat → Nat → Hp → Prop, (∃ m, W1 0 m H4) ∧ ∀ j k' H, W1 j k' H →
      (J1.stop j H ∧ Nx H) ∨ (J1.go j H ∧ ∃ Nx1 : Hp → Prop, (∀ H', Nx1 H' → ∃ k'', k'' < k' ∧ W1 (j + 1) k'' H') ∧ ∀ x H', J1.yld j H x H' → tG p t1 x (wipe σ2 own1) H' fun σ3 H5 => wipe σ3 own1 = wipe σ2 own1 ∧ tC p P k noW cs σ3 H5 fun b H6 =>
        if b = true then tE p P k noW ce σ3 H6 fun y H7 => ∃ acc, H7 q = some (.lst acc) ∧ acc.length < sizeLine ∧ Nx1 (upd H7 q (.lst (acc ++ [y]))) else Nx1 H6) else Nx H3)
    it (fun done ρ H => LcS p H1 W σ ρ1 q done (wipe σ own) (wipeE ρ own) H) (fun ρ => Av (fun b => W b ∨ b = q) (wipe σ own) (wipeE ρ own)) (fun done ρ H s => s.keeps q0.good (.inl n)) hl (done0 := []) ?_ ?_ ?_
  · show LcS p H1 W σ ρ1 q [] (wipe σ own) (wipeE (wipeE ρ1 own) own) _
    rw [wipeE_twice]; exact s0
  · intro done ρc Hc d x H' ys ρc1 s yl hb hlen Nx hn
    obtain ⟨s1, r⟩ := s.y yl
    obtain ⟨ρa, ha, hb⟩ := asgThen_some hb
    refine ⟨_, _, d, ρa, s1.good, r, ha, fun σ2 pt => ⟨?_, ?_⟩⟩
    · have := wipe_eq (vs := own) pt.len fun i hi => (pt.out i fun z => hi (ht i z)).1
      rw [this]
      exact wipe_eq (wipe_length σ own) fun i hi => wipe_out hi
    · have s2 := s1.t pt
      have agree : ∀ i, i ∉ own → (wipe σ own)[i]? = σ2[i]? := fun i hi => ((pt.out i fun z => hi (ht i z)).1).symm
      show tI p P k noW ci1 σ2 H' _
      refine ⟨_, ρa, s2.good, ?_⟩
      cases h2 : evI (fcOf P) (callF P k) ci1 ρa with
      | bad => rw [h2] at hb; cases hb
      | ex m ρ4 => rw [h2] at hb; cases hb
      | ok es ρ4 =>
        rw [h2] at hb
        have hb : lcGo (fun y ρ => asgThen (asgD (wipeE ρ own1) t1 y) (elemR (evC (fcOf P) (callF P k) cs) (evE (fcOf P) (callF P k) ce))) es ρ4 = .ok ys ρc1 := hb
        intro J1 H4 q4 it1
        have s4 := s2.e q4
        have b4 := s4.again
        have w4 : Here H4 (fun b => W b ∨ b = q) q := by
          obtain ⟨vals, e, _⟩ := s4.lst
          exact .inr ⟨.inr rfl, vals, e⟩
        have ew : (fun b => (W b ∨ b = q) ∨ b = q) = fun b => W b ∨ b = q := funext fun b => propext ⟨fun h => h.elim id .inr, .inl⟩
        refine lc_loop (step := fun x H' Nx1 => tG p t1 x (wipe σ2 own1) H' fun σ3 H5 => wipe σ3 own1 = wipe σ2 own1 ∧ tC p P k noW cs σ3 H5 fun b H6 =>
            if b = true then tE p P k noW ce σ3 H6 fun y H7 => ∃ acc, H7 q = some (.lst acc) ∧ acc.length < sizeLine ∧ Nx1 (upd H7 q (.lst (acc ++ [y]))) else Nx1 H6)
          it1 (fun done ρ H => LcS p H4 (fun b => W b ∨ b = q) σ2 ρ4 q done (wipe σ2 own1) (wipeE ρ own1) H) (fun ρ => Av (fun b => (W b ∨ b = q) ∨ b = q) (wipe σ2 own1) (wipeE ρ own1)) (fun done ρ H s => s.keeps s4.good w4) hb (done0 := done) ?_ ?_ ?_
        · exact b4.w (wipe_length σ2 own1) fun i hi => wipe_out hi
        · intro done' ρe He d' x' H'' ys' ρe1 s' yl' hb' hlen' Nx1 hn1
          obtain ⟨s5, r5⟩ := s'.y yl'
          obtain ⟨ρf, hf, hb'⟩ := asgThen_some hb'
          refine ⟨_, _, d', ρf, s5.good, r5, hf, fun σ3 pt3 => ⟨?_, ?_⟩⟩
          · have := wipe_eq (vs := own1) pt3.len fun i hi => (pt3.out i fun z => hi (ht1 i z)).1
            rw [this]
            exact wipe_eq (wipe_length σ2 own1) fun i hi => wipe_out hi
          · refine lc_elem (s5.t pt3) hb' (Nat.le_trans hlen' (Nat.le_trans hlen hz)) fun Hn sn => hn1 Hn ?_
            exact sn.w (by rw [pt3.len]) fun i hi => ((pt3.out i fun z => hi (ht1 i z)).1).symm
        · intro Hd sd
          refine hn Hd ?_
          have s6 := (s4.trans sd).w (own := own) (σ2 := wipe σ own) (by rw [wipe_length, wipe_length, pt.len, wipe_length]) fun i hi => by
            rw [wipe_out fun z => hi (h1 i z)]; exact agree i hi
          have e6 : wipeE (wipeE ρc1 own1) own = wipeE ρc1 own := by
            apply List.ext_getElem?
            intro i
            rw [wipeE_get, wipeE_get, wipeE_get]
            by_cases hi : i ∈ own
            · by_cases hi1 : i ∈ own1 <;> simp [hi, hi1, Function.comp_def]
            · have hi1 : i ∉ own1 := fun z => hi (h1 i z)
              simp [hi, hi1]
          rw [e6] at s6
          exact s6
  · exact fun Hc s => hq _ _ (lc_end q0 n ho s)
end
end Lv
namespace Lv
open PySem PySem.Spec PyProof.Rows L2
section
variable {p : Pm} {P : List Fn} {cx : Cenv} {k : Nat} {X : L2.Cx} {Wx : WX} {H H' H1 H2 H₀ : Hp} {A A' W W1 : Addr → Prop} {σ σ' : L2.St} {ρ ρ' ρ1 ρ2 : Env} {a b c e : Expr} {ca cb cc ce : CE} {pos : Pos} {d d' : D} {u : V} {v : Vl} {q : Addr} {o o' : HO}
theorem keeps_upd (e : H q = some o) (nt : ∀ xs, o ≠ .tup xs) (nf : ∀ ob u, o ≠ .frz ob u) (hA : ∀ b, A b → b ≠ q) : Keeps p H (upd H q o') A A where
  rd := fun b u hb r _ => ⟨by
    rcases r with r | ⟨ob, r⟩
    · exact .inl (by rw [upd_ne (hA b hb)]; exact r)
    · exact .inr ⟨ob, by rw [upd_ne (hA b hb)]; exact r⟩, hb⟩
  tp := fun b zs h => by
    rcases h with h | h
    · rcases h with h | ⟨ob, h⟩
      · exact .inl (.inl (by rw [upd_ne (fun z => by rw [z, e] at h; exact nt _ (Option.some.inj h))]; exact h))
      · exact .inl (.inr ⟨ob, by rw [upd_ne (fun z => by rw [z, e] at h; exact nf _ _ (Option.some.inj h))]; exact h⟩)
    · exact .inr h
  ls := fun b zs hb h => ⟨by rw [upd_ne (hA b hb)]; exact h, hb⟩
  sc := fun b zs h => by
    rcases h with ⟨ob, h⟩ | h
    · exact .inl ⟨ob, by rw [upd_ne (fun z => by rw [z, e] at h; exact nf _ _ (Option.some.inj h))]; exact h⟩
    · exact .inr h
theorem Good.mut {i : Nat} (g : Good p H W σ ρ) (hs : slot ρ i = .ow d) (es : σ[i]? = some (some (.ref q))) (ht : Top p (upd H q o') (Av W σ ρ) d' q) : PostE p H W σ ρ (ρ.set i (.ow d')) (upd H q o') ∧ Av W σ (ρ.set i (.ow d')) = Av W σ ρ := by
  have hi : i < ρ.length := slot_lt (by rw [hs]; exact fun z => nomatch z)
  obtain ⟨a, ea, nw, t⟩ := g.ow i d hs
  rw [es] at ea
  cases ea
  obtain ⟨o, e, nt, nf, _⟩ := t.there
  have own : ∀ b, Own σ (ρ.set i (.ow d')) b ↔ Own σ ρ b := fun b => by
    constructor
    · rintro ⟨j, f, hj, ej⟩
      by_cases z : i = j
      · subst z; exact ⟨i, d, hs, ej⟩
      · rw [slot_set_ne z] at hj; exact ⟨j, f, hj, ej⟩
    · rintro ⟨j, f, hj, ej⟩
      by_cases z : i = j
      · subst z; exact ⟨i, d', slot_set_same hi, ej⟩
      · exact ⟨j, f, by rw [slot_set_ne z]; exact hj, ej⟩
  have av : Av W σ (ρ.set i (.ow d')) = Av W σ ρ := funext fun b => propext ⟨fun h => ⟨h.1, fun z => h.2 ((own b).mpr z)⟩, fun h => ⟨h.1, fun z => h.2 ((own b).mp z)⟩⟩
  have kp : Keeps p H (upd H q o') (Av W σ ρ) (Av W σ ρ) := keeps_upd e nt nf fun b h z => h.2 ⟨i, d, hs, z ▸ es⟩
  refine ⟨⟨fun b u h n => by rw [upd_ne (fun z => n ⟨i, d, hs, by rw [z]; exact es⟩)]; exact h, fun b h => ?_, fun b z => (own b).mp z, ?_⟩, av⟩
  · by_cases hb : b = q
    · rw [hb, upd_same] at h; cases h
    · rw [upd_ne hb] at h; exact h
  · refine ⟨by rw [List.length_set]; exact g.len, fun b w z => ?_, fun j f hj => ?_, fun j f hj => ?_, fun j l f f' b hj hl ej el => ?_⟩
    · by_cases hb : b = q
      · rw [hb, upd_same] at z; cases z
      · rw [upd_ne hb] at z; exact g.wt b w z
    · have z : i ≠ j := fun z => by subst z; rw [slot_set_same hi] at hj; cases hj
      rw [slot_set_ne z] at hj
      obtain ⟨x, ex, r⟩ := g.sh j f hj
      exact ⟨x, ex, by rw [av]; exact r.keep kp⟩
    · rw [av]
      by_cases z : i = j
      · subst z
        rw [slot_set_same hi] at hj
        cases hj
        exact ⟨q, es, nw, ht⟩
      · rw [slot_set_ne z] at hj
        obtain ⟨x, ex, nx, tx⟩ := g.ow j f hj
        have ne : x ≠ q := fun zz => z (g.inj i j d f q hs hj es (zz ▸ ex))
        exact ⟨x, ex, nx, tx.keep kp fun o h => by rw [upd_ne ne]; exact h⟩
    · have key : ∀ {m f}, slot (ρ.set i (.ow d')) m = .ow f → ∃ f', slot ρ m = .ow f' := fun {m f} h => by
        by_cases z : i = m
        · subst z; exact ⟨d, hs⟩
        · rw [slot_set_ne z] at h; exact ⟨f, h⟩
      obtain ⟨f1, h1⟩ := key hj
      obtain ⟨f2, h2⟩ := key hl
      exact g.inj j l f1 f2 b h1 h2 ej el
theorem nowAv {i : Nat} (hs : slot ρ i = .ow d) (es : σ[i]? = some (some (.ref q))) : ∀ b, Av W σ ρ b → b ≠ q := fun b h z => h.2 ⟨i, d, hs, z ▸ es⟩
theorem so_app {x : Str} {i : Nat} {px apos cpos : Pos} (ok : Okc p P cx k X) (hx : PE X (.Name x px) (tE p P k Wx (.var i))) (ha : PA X [e] (tDs p P k Wx (.cons ce .nil)))
    (hbase : attributeBase (.Name x px) ("append" : Str) X.env (eval (.Name x px) X.env) = eval (.Name x px) X.env)
    (hfew : ((backTo cpos (starEach [e] X.env)).all (fun x => !x.1) && (backToKw cpos (keywordEach [] X.env)).all (fun x => x.1.isSome)
      && decide ([e].length + ([] : List Keyword).length + (if ([] : List Keyword).isEmpty then 0 else 1) < 30)) = true)
    (hline : (apos.endLine == cpos.line) = true) (hs : starEach [e] X.env = (false, eval e X.env) :: starEach [] X.env) (hplain : (backTo cpos (starEach [] X.env)).any (·.1) = false) :
    PE X (.Call (.Attribute (.Name x px) ("append" : Str) apos) [e] [] cpos) (tE p P k Wx (.app i ce)) := by
  refine (pe_bm PySem.F.plainAttrs_list PySem.F.slot_list_append PySem.F.type_list_append mt_append hx ha hbase hfew hline hs hplain).imp fun σ H Q ⟨W, ρ, g, h⟩ => ?_
  unfold evE at h
  split at h
  case h_2 => exact h.elim
  case h_1 xs0 hs0 =>
    refine ⟨W, ρ, g, ?_⟩
    unfold evE
    rw [hs0]
    intro u H1 q1
    obtain ⟨a, ea, nw, t⟩ := g.ow i _ hs0
    have eu : σ[i]? = some (some u) := q1.vr
    rw [ea] at eu
    cases eu
    obtain ⟨a', ea', nw', zs, ez, rz⟩ := q1.e.good.ow i _ hs0
    rw [ea] at ea'
    cases ea'
    refine ⟨.inl ⟨rfl, zs, .inl (.inl ez)⟩, ?_⟩
    refine ⟨W, ρ, q1.e.good, ?_⟩
    unfold evEs
    cases hr : evE (fcOf P) (callF P k) ce ρ with
    | bad => rw [hr] at h; exact h.elim
    | ex n ρ1 => rw [hr] at h; exact exP.step q1.e (fun _ w => w) h
    | ok v ρ1 =>
      rw [hr] at h
      have h : RFin (match letgo ρ1 v with
        | some (d, ρ2) => (match slot ρ2 i with
          | .ow (.lst xs) => if decide (xs.length < 16777216) then R.ok (Vl.sh .non) (ρ2.set i (.ow (.lst (xs ++ [d])))) else .bad
          | _ => .bad)
        | none => .bad) _ _ := h
      show RFin (match letgo ρ1 v with
        | some (d, ρ2) => (evEs (fcOf P) (callF P k) .nil ρ2).bind fun ds ρ3 => .ok (d :: ds) ρ3
        | none => R.bad) _ _
      cases hl : letgo ρ1 v with
      | none => simp only [hl] at h; exact h.elim
      | some z =>
        obtain ⟨d, ρ2⟩ := z
        simp only [hl] at h ⊢
        unfold evEs
        intro us H2 q2 rs
        split at h
        case h_2 => exact h.elim
        case h_1 xs hs2 =>
          split at h
          case isFalse => exact h.elim
          case isTrue hz =>
            obtain ⟨a2, ea2, nw2, t2⟩ := q2.good.ow i _ hs2
            rw [ea] at ea2
            cases ea2
            obtain ⟨vals, ev, rv⟩ := t2
            cases rs with
            | @cons _ _ y _ ry rs =>
              cases rs
              have kp : Keeps p H2 (upd H2 a (.lst (vals ++ [y]))) (Av W σ ρ2) (Av W σ ρ2) := keeps_upd ev (fun _ z => nomatch z) (fun _ _ z => nomatch z) (nowAv hs2 ea)
              obtain ⟨q3, eav⟩ := q2.good.mut (d' := .lst (xs ++ [d])) (o' := .lst (vals ++ [y])) hs2 ea ⟨_, upd_same, (rv.append (.cons ry .nil)).keep kp⟩
              refine ⟨a, vals, y, rfl, rfl, ev, ?_, h _ _ (.sh ((q1.e.trans q2 fun _ w => w).trans q3 fun _ w => w) .non)⟩
              have := rv.length
              simp only [decide_eq_true_eq] at hz
              have e1 : sizeLine = 16777216 := rfl
              omega
theorem last_get {α : Type} {l : List α} {x : α} (h : l.getLast? = some x) : l[l.length - 1]? = some x := by rw [← List.getLast?_eq_getElem?]; exact h
theorem so_pop {x : Str} {i : Nat} {px apos cpos : Pos} (ok : Okc p P cx k X) (hx : PE X (.Name x px) (tE p P k Wx (.var i)))
    (hbase : attributeBase (.Name x px) ("pop" : Str) X.env (eval (.Name x px) X.env) = eval (.Name x px) X.env) (hline : (apos.endLine == cpos.line) = true) :
    PE X (.Call (.Attribute (.Name x px) ("pop" : Str) apos) [] [] cpos) (tE p P k Wx (.pop i)) := by
  refine (pe_bm0 PySem.F.plainAttrs_list PySem.F.slot_list_pop PySem.F.type_list_pop mt_pop hx hbase hline).imp fun σ H Q ⟨W, ρ, g, h⟩ => ?_
  unfold evE at h
  split at h
  case h_2 => exact h.elim
  case h_1 xs hs0 =>
    split at h
    case h_2 => exact h.elim
    case h_1 d hd =>
      refine ⟨W, ρ, g, ?_⟩
      unfold evE
      rw [hs0]
      intro u H1 q1
      have g1 := q1.e.good
      obtain ⟨a, ea, nw, zs, ez, rz⟩ := g1.ow i _ hs0
      have eu : σ[i]? = some (some u) := q1.vr
      rw [ea] at eu
      cases eu
      obtain ⟨y, hy, ry⟩ := rz.get (last_get hd)
      have kp : Keeps p H1 (upd H1 a (.lst zs.dropLast)) (Av W σ ρ) (Av W σ ρ) := keeps_upd ez (fun _ z => nomatch z) (fun _ _ z => nomatch z) (nowAv hs0 ea)
      have rd : Reps p H1 (Av W σ ρ) xs.dropLast zs.dropLast := by
        rw [List.dropLast_eq_take, List.dropLast_eq_take, rz.length]
        exact rz.take _
      obtain ⟨q3, eav⟩ := g1.mut (d' := .lst xs.dropLast) (o' := .lst zs.dropLast) hs0 ea ⟨_, upd_same, rd.keep kp⟩
      refine ⟨.inl ⟨rfl, zs, .inl (.inl ez)⟩, a, zs, y, rfl, rfl, ez, by rw [← rz.length]; exact hy, h _ _ (.sh (q1.e.trans q3 fun _ w => w) ?_)⟩
      rw [eav]
      exact ry.keep kp
end
end Lv
namespace Lv
open PySem PySem.Spec PyProof.Rows L2
structure PostS (p : Pm) (H : Hp) (W : Addr → Prop) (N : List Nat) (σ : L2.St) (ρ : Env) (σ' : L2.St) (ρ' : Env) (H' : Hp) : Prop where
  ext : ∀ b o, H b = some o → ¬ Own σ ρ b → H' b = some o
  trk : ∀ b, H' b = none → H b = none
  sub : ∀ a, Own σ' ρ' a → Own σ ρ a ∨ H a = none
  good : Good p H' W σ' ρ'
  lk : ∀ i, i ∉ N → σ'[i]? = σ[i]?
structure PostR (p : Pm) (H : Hp) (W : Addr → Prop) (N : List Nat) (σ : L2.St) (ρ : Env) (σ' : L2.St) (v : Vl) (ρ' : Env) (u : V) (H' : Hp) : Prop where
  ext : ∀ b o, H b = some o → ¬ Own σ ρ b → H' b = some o
  trk : ∀ b, H' b = none → H b = none
  sub : ∀ a, Own σ' ρ' a → Own σ ρ a ∨ H a = none
  good : Good p H' (Wv W v u) σ' ρ'
  lk : ∀ i, i ∉ N → σ'[i]? = σ[i]?
  vr : VR p H W σ' ρ' H' v u
section
variable {p : Pm} {P : List Fn} {cx : Cenv} {k : Nat} {X : L2.Cx} {Wx : WX} {H H' H1 H2 H₀ : Hp} {A A' W W1 : Addr → Prop} {σ σ' σ1 σ2 : L2.St} {ρ ρ' ρ1 ρ2 : Env} {a b c e : Expr} {ca cb cc ce : CE} {pos : Pos} {d d' : D} {u : V} {v : Vl} {q : Addr} {N : List Nat}
theorem PostS.refl (g : Good p H W σ ρ) : PostS p H W N σ ρ σ ρ H := ⟨fun _ _ e _ => e, fun _ e => e, fun _ o => .inl o, g, fun _ _ => rfl⟩
theorem PostE.s (x : PostE p H W σ ρ ρ1 H1) : PostS p H W N σ ρ σ ρ1 H1 := ⟨x.ext, x.trk, fun b o => .inl (x.sub b o), x.good, fun _ _ => rfl⟩
theorem PostS.trans (x : PostS p H W N σ ρ σ1 ρ1 H1) (y : PostS p H1 W1 N σ1 ρ1 σ2 ρ2 H2) (h : ∀ b, W b → W1 b) : PostS p H W N σ ρ σ2 ρ2 H2 :=
  ⟨fun b o e n => y.ext b o (x.ext b o e n) fun z => (x.sub b z).elim n fun z => by { rw [z] at e; cases e }, fun b e => x.trk b (y.trk b e), fun b z => (y.sub b z).elim (x.sub b) fun z => .inr (x.trk b z), y.good.less h, fun i hi => (y.lk i hi).trans (x.lk i hi)⟩
theorem PostS.transR (x : PostS p H W N σ ρ σ1 ρ1 H1) (y : PostR p H1 W N σ1 ρ1 σ2 v ρ2 u H2) : PostR p H W N σ ρ σ2 v ρ2 u H2 :=
  ⟨fun b o e n => y.ext b o (x.ext b o e n) fun z => (x.sub b z).elim n fun z => by { rw [z] at e; cases e }, fun b e => x.trk b (y.trk b e), fun b z => (y.sub b z).elim (x.sub b) fun z => .inr (x.trk b z), y.good, fun i hi => (y.lk i hi).trans (x.lk i hi), by
    cases v with
    | sh d => exact y.vr
    | ow d => obtain ⟨a, e, n, t⟩ := y.vr; exact ⟨a, e, x.trk a n, t⟩
    | sl i => exact y.vr⟩
theorem PostS.keeps (x : PostS p H W N σ ρ σ1 ρ1 H1) (g : Good p H W σ ρ) : Keeps p H H1 (Av W σ ρ) (Av W σ1 ρ1) := by
  have av : ∀ {b}, H b ≠ none → Av W σ ρ b → Av W σ1 ρ1 b := fun n ⟨a1, a2⟩ => ⟨a1, fun o => (x.sub _ o).elim a2 n⟩
  refine ⟨fun b u hb r _ => ⟨?_, av (Rd.there r) hb⟩, fun b xs h => ?_, fun b xs hb h => ?_, fun b xs h => ?_⟩
  · rcases r with r | ⟨o, r⟩
    · exact .inl (x.ext _ _ r hb.2)
    · exact .inr ⟨o, x.ext _ _ r hb.2⟩
  · rcases h with h | h
    · have n := g.tup h
      rcases h with h | ⟨o, h⟩
      · exact .inl (.inl (x.ext _ _ h n))
      · exact .inl (.inr ⟨o, x.ext _ _ h n⟩)
    · exact .inr h
  · exact ⟨x.ext _ _ h hb.2, av (by rw [h]; exact fun z => nomatch z) hb⟩
  · rcases h with ⟨o, h⟩ | h
    · refine .inl ⟨o, x.ext _ _ h fun z => ?_⟩
      obtain ⟨_, d, t⟩ := g.own z
      obtain ⟨o', e, _, nf, _⟩ := t.there
      rw [e] at h
      exact nf _ _ (Option.some.inj h)
    · exact .inr h
section
variable (p : Pm) (P : List Fn) (k : Nat) (Wx : WX) (N : List Nat)
def okS (D : Ends) (H : Hp) (W : Addr → Prop) (σ : L2.St) (ρ : Env) : Fl → Env → Prop
  | .nx, ρ' => ∀ σ' H', PostS p H W N σ ρ σ' ρ' H' → D.nx σ' H'
  | .brk, ρ' => ∀ σ' H', PostS p H W N σ ρ σ' ρ' H' → D.bk σ' H'
  | .cnt, ρ' => ∀ σ' H', PostS p H W N σ ρ σ' ρ' H' → D.ct σ' H'
  | .ret v, ρ' => ∀ σ' u H', PostR p H W N σ ρ σ' v ρ' u H' → D.rt u H'
def exQ (H : Hp) (W : Addr → Prop) (σ : L2.St) (ρ : Env) (n : Nat) (ρ' : Env) : Prop := ∀ σ' H', PostS p H W N σ ρ σ' ρ' H' → Wx (.ref (p.ca n)) none σ' H'
def tS (s : CS) : TS := fun D σ H => ∃ W ρ, Good p H W σ ρ ∧ RFin (exS (fcOf P) (callF P k) s ρ) (okS p N D H W σ ρ) (exQ p Wx N H W σ ρ)
def tL (s : CSs) : TS := fun D σ H => ∃ W ρ, Good p H W σ ρ ∧ RFin (exL (fcOf P) (callF P k) s ρ) (okS p N D H W σ ρ) (exQ p Wx N H W σ ρ)
end
variable {De : Ends}
theorem okS.step {f : Fl} (x : PostS p H W N σ ρ σ1 ρ1 H1) (h : okS p N De H W σ ρ f ρ') : okS p N De H1 W σ1 ρ1 f ρ' := by
  cases f with
  | nx => exact fun s h2 y => h s h2 (x.trans y fun _ w => w)
  | brk => exact fun s h2 y => h s h2 (x.trans y fun _ w => w)
  | cnt => exact fun s h2 y => h s h2 (x.trans y fun _ w => w)
  | ret v => exact fun s u h2 y => h s u h2 (x.transR y)
theorem exQ.step {n : Nat} (x : PostS p H W N σ ρ σ1 ρ1 H1) (h : exQ p Wx N H W σ ρ n ρ') : exQ p Wx N H1 W σ1 ρ1 n ρ' := fun s h2 y => h s h2 (x.trans y fun _ w => w)
theorem exQ.pp {n : Nat} (h : exQ p Wx N H W σ ρ n ρ') : exP p Wx H W σ ρ n ρ' := fun h2 y => h σ h2 y.s
theorem fin_step {r : R Fl} (x : PostS p H W N σ ρ σ1 ρ1 H1) (h : RFin r (okS p N De H W σ ρ) (exQ p Wx N H W σ ρ)) : RFin r (okS p N De H1 W σ1 ρ1) (exQ p Wx N H1 W σ1 ρ1) := h.mono (fun _ _ h => h.step x) fun _ _ h => h.step x
theorem tE.st {α : Type} {F : Vl → Env → R α} {okP : α → Env → Prop} {Q : VK} (g : Good p H W σ ρ) (h : RFin ((evE (fcOf P) (callF P k) ca ρ).bind F) okP (exQ p Wx N H W σ ρ))
    (next : ∀ v ρ1 u H1, Post p H W σ ρ v ρ1 u H1 → RFin (F v ρ1) okP (exQ p Wx N H W σ ρ) → Q u H1) : tE p P k Wx ca σ H Q :=
  ⟨W, ρ, g, h.bind.mono (fun v ρ1 hf u H1 q => next v ρ1 u H1 q hf) fun _ _ e => exQ.pp e⟩
theorem _root_.L2.PS.imp {s : Stmt} {t t' : TS} (h : PS X s t) (i : ∀ D σ H, t' D σ H → t D σ H) : PS X s t' := ⟨fun pins s σ H D I q => h.run pins s σ H D I (i D σ H q)⟩
theorem _root_.L2.PSs.imp {s : List Stmt} {t t' : TS} (h : PSs X s t) (i : ∀ D σ H, t' D σ H → t D σ H) : PSs X s t' := ⟨fun pins s σ H D I q => h.run pins s σ H D I (i D σ H q)⟩
theorem so_snil : PSs X [] (tL p P k Wx N .nil) := pss_nil.imp fun De σ H ⟨W, ρ, g, h⟩ => by
  unfold exL at h
  exact h σ H (.refl g)
theorem so_scons {st : Stmt} {sts : List Stmt} {s : CS} {r : CSs} (h1 : PS X st (tS p P k Wx N s)) (h2 : PSs X sts (tL p P k Wx N r)) : PSs X (st :: sts) (tL p P k Wx N (.cons s r)) := by
  refine (pss_cons h1 h2).imp fun De σ H ⟨W, ρ, g, h⟩ => ?_
  unfold exL at h
  refine ⟨W, ρ, g, h.bind.mono (fun f ρ1 hf => ?_) fun _ _ e => e⟩
  cases f with
  | nx =>
    intro σ1 H1 x
    exact ⟨W, ρ1, x.good, fin_step x hf⟩
  | brk => exact hf
  | cnt => exact hf
  | ret v => exact hf
theorem so_pass : PS X (.Pass pos) (tS p P k Wx N .pass) := ps_pass.imp fun De σ H ⟨W, ρ, g, h⟩ => by
  unfold exS at h
  exact h σ H (.refl g)
theorem so_brk : PS X (.Break pos) (tS p P k Wx N .brk) := ps_break.imp fun De σ H ⟨W, ρ, g, h⟩ => by
  unfold exS at h
  exact h σ H (.refl g)
theorem so_cnt : PS X (.Continue pos) (tS p P k Wx N .cnt) := ps_continue.imp fun De σ H ⟨W, ρ, g, h⟩ => by
  unfold exS at h
  exact h σ H (.refl g)
theorem so_badS {st : Stmt} : PS X st (tS p P k Wx N (.exp .bad)) := ps_never.imp fun De σ H ⟨W, ρ, g, h⟩ => by
  unfold exS at h
  unfold evE at h
  exact h
theorem so_exp (he : PE X e (tE p P k Wx ce)) (hs : swapsWith e none pos.line X.env = pure false) : PS X (.Expr e pos) (tS p P k Wx N (.exp ce)) := by
  refine (ps_expr he hs).imp fun De σ H ⟨W, ρ, g, h⟩ => ?_
  unfold exS at h
  exact tE.st g h fun v ρ1 u H1 x h => h σ H1 x.e.s
theorem so_ret (he : PE X e (tE p P k Wx ce)) : PS X (.Return (some e) pos) (tS p P k Wx N (.ret ce)) := by
  refine (ps_ret he).imp fun De σ H ⟨W, ρ, g, h⟩ => ?_
  unfold exS at h
  exact tE.st g h fun v ρ1 u H1 x h => h σ u H1 ⟨x.ext, x.trk, fun b o => .inl (x.sub b o), x.good, fun _ _ => rfl, x.vr⟩
theorem so_ret0 : PS X (.Return none pos) (tS p P k Wx N .ret0) := ps_retN.imp fun De σ H ⟨W, ρ, g, h⟩ => by
  unfold exS at h
  exact h σ .non H ⟨fun _ _ e _ => e, fun _ e => e, fun _ o => .inl o, by rw [Wv.sh]; exact g, fun _ _ => rfl, .non⟩
theorem so_if {sa sb : List Stmt} {xa xb : CSs} (hc : PT X c (tT p P k Wx cc)) (ha : PSs X sa (tL p P k Wx N xa)) (hb : PSs X sb (tL p P k Wx N xb)) : PS X (.If c sa sb pos) (tS p P k Wx N (.ite cc xa xb)) := by
  refine (ps_if hc ha hb).imp fun De σ H ⟨W, ρ, g, h⟩ => ?_
  unfold exS at h
  have h' : RFin (((evE (fcOf P) (callF P k) cc ρ).bind rTruth).bind fun kk ρ1 => if kk then exL (fcOf P) (callF P k) xa ρ1 else exL (fcOf P) (callF P k) xb ρ1) (okS p N De H W σ ρ) (exQ p Wx N H W σ ρ) := by
    rw [R.bind_assoc]; exact h
  refine ⟨W, ρ, g, h'.bind.mono (fun kk ρ1 hf H1 x => ?_) fun _ _ e => exQ.pp e⟩
  cases kk with
  | true => exact ⟨W, ρ1, x.good, fin_step x.s hf⟩
  | false => exact ⟨W, ρ1, x.good, fin_step x.s hf⟩
theorem Good.set_ow {i : Nat} (hi : i < ρ.length) (g : Good p H (fun b => W b ∨ b = q) σ ρ) (nw : ¬ W q) (t : Top p H (fun b => Av W σ ρ b ∧ b ≠ q) d q) : Good p H W (σ.set i (some (.ref q))) (ρ.set i (.ow d)) ∧ ∀ b, Own (σ.set i (some (.ref q))) (ρ.set i (.ow d)) b → Own σ ρ b ∨ b = q := by
  have hi' : i < σ.length := g.len ▸ hi
  have nq : ¬ Own σ ρ q := fun o => (g.own o).1 (.inr rfl)
  have sub : ∀ b, Own (σ.set i (some (.ref q))) (ρ.set i (.ow d)) b → Own σ ρ b ∨ b = q := fun b ⟨j, e, hj, ej⟩ => by
    by_cases z : i = j
    · subst z
      rw [List.getElem?_set_self hi'] at ej
      cases ej
      exact .inr rfl
    · rw [slot_set_ne z] at hj
      rw [List.getElem?_set_ne z] at ej
      exact .inl ⟨j, e, hj, ej⟩
  have av : ∀ b, Av W σ ρ b ∧ b ≠ q → Av W (σ.set i (some (.ref q))) (ρ.set i (.ow d)) b := fun b ⟨x, y⟩ => ⟨x.1, fun o => (sub b o).elim x.2 y⟩
  have av2 : ∀ b, Av (fun b => W b ∨ b = q) σ ρ b → Av W (σ.set i (some (.ref q))) (ρ.set i (.ow d)) b := fun b ⟨x, y⟩ => av b ⟨⟨fun w => x (.inl w), y⟩, fun z => x (.inr z)⟩
  refine ⟨⟨by rw [List.length_set, List.length_set]; exact g.len, fun b w => g.wt b (.inl w), fun j e hj => ?_, fun j e hj => ?_, fun j l e f b hj hl ej el => ?_⟩, sub⟩
  · have z : i ≠ j := fun z => by subst z; rw [slot_set_same hi] at hj; cases hj
    rw [slot_set_ne z] at hj
    obtain ⟨x, ex, r⟩ := g.sh j e hj
    exact ⟨x, by rw [List.getElem?_set_ne z]; exact ex, r.keep (.mono av2)⟩
  · by_cases z : i = j
    · subst z
      rw [slot_set_same hi] at hj
      cases hj
      exact ⟨q, List.getElem?_set_self hi', nw, t.mono av⟩
    · rw [slot_set_ne z] at hj
      obtain ⟨x, ex, nx, tx⟩ := g.ow j e hj
      exact ⟨x, by rw [List.getElem?_set_ne z]; exact ex, fun w => nx (.inl w), tx.mono av2⟩
  · have key : ∀ {m f}, slot (ρ.set i (.ow d)) m = .ow f → (σ.set i (some (.ref q)))[m]? = some (some (.ref b)) → (m = i ∧ b = q) ∨ (m ≠ i ∧ slot ρ m = .ow f ∧ σ[m]? = some (some (.ref b)) ∧ b ≠ q) := fun {m f} h1 h2 => by
      by_cases z : i = m
      · subst z
        rw [List.getElem?_set_self hi'] at h2
        cases h2
        exact .inl ⟨rfl, rfl⟩
      · rw [slot_set_ne z] at h1
        rw [List.getElem?_set_ne z] at h2
        exact .inr ⟨fun y => z y.symm, h1, h2, fun y => nq ⟨m, f, h1, y ▸ h2⟩⟩
    rcases key hj ej with ⟨r1, r2⟩ | ⟨r1, r2, r3, r4⟩ <;> rcases key hl el with ⟨s1, s2⟩ | ⟨s1, s2, s3, s4⟩
    · rw [r1, s1]
    · exact absurd r2 s4
    · exact absurd s2 r4
    · exact g.inj j l e f b r2 s2 r3 s3
theorem Wv.ow {d : D} {q : Addr} : Wv W (.ow d) (.ref q) = fun b => W b ∨ b = q := funext fun b => propext ⟨fun h => h.elim .inl fun ⟨_, e⟩ => .inr (by cases e; rfl), fun h => h.elim .inl fun e => .inr ⟨⟨d, rfl⟩, by rw [e]⟩⟩
theorem put1_ok {i : Nat} (hN : i ∈ N) (g : Good p H W σ ρ) (x : Post p H W σ ρ v ρ1 u H1) (h : put1 ρ1 i v = some ρ2) : PostS p H W N σ ρ (σ.set i (some u)) ρ2 H1 := by
  have lk : ∀ {σ' : L2.St} {w : V}, ∀ j, j ∉ N → (σ.set i (some w))[j]? = σ[j]? := fun {_ w} j hj => List.getElem?_set_ne fun z => hj (by rw [← z]; exact hN)
  have shd : ∀ {ρ3 : Env} {d : D}, PostE p H W σ ρ ρ3 H1 → Rep p H1 (Av W σ ρ3) d u → PostS p H W N σ ρ (σ.set i (some u)) (ρ3.set i (.sh d)) H1 := fun {ρ3 d} y r => by
    obtain ⟨g2, sub⟩ := y.good.set_sh (i := i) r
    exact ⟨y.ext, y.trk, fun b o => .inl (y.sub b (sub b o)), g2, lk (σ' := σ)⟩
  cases v with
  | sh d => cases h; exact shd x.e x.vr
  | ow d =>
    cases h
    obtain ⟨a, ea, n, t⟩ := x.vr
    subst ea
    have g1 := x.good
    rw [Wv.ow] at g1
    by_cases hi : i < ρ1.length
    · obtain ⟨g2, sub⟩ := Good.set_ow hi g1 (fun w => g.wt a w n) t
      exact ⟨x.ext, x.trk, fun b o => (sub b o).elim (fun o => .inl (x.sub b o)) fun z => .inr (z ▸ n), g2, lk (σ' := σ)⟩
    · rw [set_out hi, set_out (by rw [← g1.len]; exact hi)]
      exact ⟨x.ext, x.trk, fun b o => .inl (x.sub b o), x.e.good, fun _ _ => rfl⟩
  | sl j =>
    unfold put1 at h
    simp only at h
    cases hl : letgo ρ1 (.sl j) with
    | none => rw [hl] at h; cases h
    | some z =>
      obtain ⟨d, ρ3⟩ := z
      rw [hl] at h
      cases h
      obtain ⟨y, r⟩ := x.letgo g hl
      exact shd y r
theorem so_asg1 {x : Str} {i : Nat} {pos' : Pos} (ok : Okc p P cx k X) (hN : cx.N[i]? = some x) (hi : i ∈ cx.sto) (he : PE X e (tE p P k Wx ce)) (hs : swapsWith e (some (.Name x pos')) pos.line X.env = pure false) :
    PS X (.Assign [.Name x pos'] e pos) (tS p P k Wx cx.sto (.asg (.nm i) ce)) := by
  obtain ⟨hl, hf⟩ := ok.sto i x hi hN
  refine (ps_set ok.nd (by rw [ok.N]; exact hN) hl he hs hf).imp fun De σ H ⟨W, ρ, g, h⟩ => ?_
  unfold exS at h
  refine tE.st g h fun v ρ1 u H1 y h => ?_
  cases hp : put1 ρ1 i v with
  | none =>
    have h : RFin (asgThen (put1 ρ1 i v) _) _ _ := h
    rw [hp] at h; exact h.elim
  | some ρ2 =>
    have h : RFin (asgThen (put1 ρ1 i v) _) _ _ := h
    rw [hp] at h
    exact h _ H1 (put1_ok hi g y hp)
theorem asgThen_fin {α : Type} {o : Option Env} {f : Env → R α} {okP : α → Env → Prop} {xP : Nat → Env → Prop} (h : RFin (asgThen o f) okP xP) : ∃ ρ, o = some ρ ∧ RFin (f ρ) okP xP := by
  cases o with
  | none => exact h.elim
  | some ρ => exact ⟨ρ, rfl, h⟩
theorem so_asgLc {y : Str} {i : Nat} {py : Pos} {elt tg iter : Expr} {ifs : List Expr} {scope : Scope} {own : List (Str × Nat)} {lpos : Pos} {t : Tg} {ci : CI} {cs : CEs} (ok : Okc p P cx k X) (hN : cx.N[i]? = some y) (hi : i ∈ cx.sto) (hyl : cx.names.lookup y = some .local)
    (hsw : swapsWith (.ListComp elt [⟨tg, iter, ifs, 0⟩] scope lpos) (some (.Name y py)) pos.line X.env = pure true) (hit : PI X tg iter (tI p P k Wx ci)) (bo : BlkOk X.N X.env.scope scope own)
    (hg : ∀ (s : Shared) (H : Hp) (C : Addr) (cl : List (Str × Addr)) (fp : List Addr), PG (X.blk s H scope (compEnvC scope cl C X.env) fp) tg (tG p t))
    (ht : ∀ (s : Shared) (H : Hp) (C : Addr) (cl : List (Str × Addr)) (fp : List Addr), PTs (X.blk s H scope (compEnvC scope cl C X.env) fp) ifs (tC p P k noW cs))
    (he : ∀ (s : Shared) (H : Hp) (C : Addr) (cl : List (Str × Addr)) (fp : List Addr), PE (X.blk s H scope (compEnvC scope cl C X.env) fp) elt (tE p P k noW ce)) (hs : ∀ x, foldedSetIterable iter X.env x = pure x) (htn : ∀ i ∈ tgN t, i ∈ own.map (·.2)) :
    PS X (.Assign [.Name y py] (.ListComp elt [⟨tg, iter, ifs, 0⟩] scope lpos) pos) (tS p P k Wx cx.sto (.asg (.nm i) (.lc (own.map (·.2)) t ci cs ce))) := by
  refine (ps_setLc ok.calm ok.nd (by rw [ok.N]; exact hN) (by rw [ok.sc]; exact hyl) hsw hit bo hg ht he hs).imp fun De σ H ⟨W, ρ, g, h⟩ => ?_
  unfold exS at h
  refine lc_imp htn (tE.st g h fun v ρ1 u H1 y h => ?_)
  obtain ⟨ρ2, hp, h⟩ := asgThen_fin h
  exact h _ H1 (put1_ok hi g y hp)
theorem so_asgLc2 {y : Str} {i : Nat} {py : Pos} {elt tg iter tg1 iter1 : Expr} {ifs1 : List Expr} {scope : Scope} {own : List (Str × Nat)} {own1 : List Nat} {lpos : Pos} {t t1 : Tg} {ci ci1 : CI} {cs : CEs} (ok : Okc p P cx k X) (hN : cx.N[i]? = some y) (hi : i ∈ cx.sto) (hyl : cx.names.lookup y = some .local)
    (hsw : swapsWith (.ListComp elt [⟨tg, iter, [], 0⟩, ⟨tg1, iter1, ifs1, 0⟩] scope lpos) (some (.Name y py)) pos.line X.env = pure true) (hit : PI X tg iter (tI p P k Wx ci)) (bo : BlkOk X.N X.env.scope scope own) (hv : ∀ i ∈ own1, i ∈ own.map (·.2))
    (hg : ∀ (s : Shared) (H : Hp) (C : Addr) (cl : List (Str × Addr)) (fp : List Addr), PG (X.blk s H scope (compEnvC scope cl C X.env) fp) tg (tG p t))
    (hi1 : ∀ (s : Shared) (H : Hp) (C : Addr) (cl : List (Str × Addr)) (fp : List Addr), PI (X.blk s H scope (compEnvC scope cl C X.env) fp) tg1 iter1 (tI p P k noW ci1))
    (hg1 : ∀ (s : Shared) (H : Hp) (C : Addr) (cl : List (Str × Addr)) (fp : List Addr), PG (X.blk s H scope (compEnvC scope cl C X.env) fp) tg1 (tG p t1))
    (ht1 : ∀ (s : Shared) (H : Hp) (C : Addr) (cl : List (Str × Addr)) (fp : List Addr), PTs (X.blk s H scope (compEnvC scope cl C X.env) fp) ifs1 (tC p P k noW cs))
    (he : ∀ (s : Shared) (H : Hp) (C : Addr) (cl : List (Str × Addr)) (fp : List Addr), PE (X.blk s H scope (compEnvC scope cl C X.env) fp) elt (tE p P k noW ce)) (hs : ∀ x, foldedSetIterable iter X.env x = pure x) (hs1 : ∀ env x, foldedSetIterable iter1 env x = pure x)
    (htn : ∀ i ∈ tgN t, i ∈ own.map (·.2)) (htn1 : ∀ i ∈ tgN t1, i ∈ own1) :
    PS X (.Assign [.Name y py] (.ListComp elt [⟨tg, iter, [], 0⟩, ⟨tg1, iter1, ifs1, 0⟩] scope lpos) pos) (tS p P k Wx cx.sto (.asg (.nm i) (.lc2 (own.map (·.2)) own1 t ci t1 ci1 cs ce))) := by
  refine (ps_setLc2 ok.calm ok.nd (by rw [ok.N]; exact hN) (by rw [ok.sc]; exact hyl) hsw hit bo hv hg (fun _ _ _ _ _ => pts_nil) hi1 hg1 ht1 he hs hs1).imp fun De σ H ⟨W, ρ, g, h⟩ => ?_
  unfold exS at h
  refine lc2_imp htn htn1 hv (tE.st g h fun v ρ1 u H1 y h => ?_)
  obtain ⟨ρ2, hp, h⟩ := asgThen_fin h
  exact h _ H1 (put1_ok hi g y hp)
theorem so_asgT {tg : Expr} {ts : List Tg} (ok : Okc p P cx k X) (he : PE X e (tE p P k Wx ce)) (hg : PG X tg (tG p (.tup ts))) (htn : ∀ i ∈ tgN (.tup ts), i ∈ cx.sto) (hs : swapsWithSole [tg] e pos.line X.env = pure false) (hw : swappedStores [tg] e X.env = pure none) (h1 : (assignEach [tg] X.env).map (·.2) = [assign tg X.env]) :
    PS X (.Assign [tg] e pos) (tS p P k Wx cx.sto (.asg (.tup ts) ce)) := by
  refine (ps_asg he hg hs hw h1).imp fun De σ H ⟨W, ρ, g, h⟩ => ?_
  unfold exS at h
  refine tE.st g h fun v ρ1 u H1 y h => ?_
  obtain ⟨ρ2, hp, h⟩ := asgThen_fin h
  unfold asgV at hp
  cases hl : letgo ρ1 v with
  | none => rw [hl] at hp; cases hp
  | some z =>
    obtain ⟨d, ρ3⟩ := z
    rw [hl] at hp
    obtain ⟨y2, r⟩ := y.letgo g hl
    refine ⟨W, ρ3, d, ρ2, y2.good, r, hp, fun σ' pt => h σ' H1 ⟨y2.ext, y2.trk, fun b o => .inl (y2.sub b (pt.sub b o)), pt.good, fun i hi => (pt.out i fun z => hi (htn i z)).1⟩⟩
inductive PsR (p : Pm) (H : Hp) (A : Addr → Prop) (H₀ : Hp) : List Sl → List V → List Addr → Prop
  | nil : PsR p H A H₀ [] [] []
  | sh {d : D} {u : V} {vs : List Sl} {us : List V} {as : List Addr} : Rep p H A d u → PsR p H A H₀ vs us as → PsR p H A H₀ (.sh d :: vs) (u :: us) as
  | ow {d : D} {a : Addr} {vs : List Sl} {us : List V} {as : List Addr} : Top p H A d a → H₀ a = none → a ∉ as → PsR p H A H₀ vs us as → PsR p H A H₀ (.ow d :: vs) (.ref a :: us) (a :: as)
def Wn (W : Addr → Prop) (as : List Addr) : Addr → Prop := fun b => W b ∨ b ∈ as
theorem Wn_nil : Wn W [] = W := funext fun b => propext ⟨fun h => h.elim id (fun z => nomatch z), .inl⟩
theorem PsR.mono {vs : List Sl} {us : List V} {as : List Addr} {H0' : Hp} (h : PsR p H A H₀ vs us as) (k1 : ∀ b, A b → A' b) (k2 : ∀ b, H₀ b = none → H0' b = none) : PsR p H A' H0' vs us as := by
  induction h with
  | nil => exact .nil
  | sh r _ ih => exact .sh (r.keep (.mono k1)) ih
  | ow t n m _ ih => exact .ow (t.mono k1) (k2 _ n) m ih
theorem PsR.none {vs : List Sl} {us : List V} {as : List Addr} (h : PsR p H A H₀ vs us as) : ∀ b ∈ as, H₀ b = none := by
  induction h with
  | nil => exact fun _ z => by cases z
  | sh _ _ ih => exact ih
  | ow _ n _ _ ih => exact fun b z => (List.mem_cons.mp z).elim (fun e => e ▸ n) (ih b)
def tPs (p : Pm) (P : List Fn) (k : Nat) (Wx : WX) (c : CEs) : TA := fun σ H Q => ∃ W ρ, Good p H W σ ρ ∧ RFin (evPs (fcOf P) (callF P k) c ρ) (fun vs ρ' => ∀ us as H', PostE p H W σ ρ ρ' H' → Good p H' (Wn W as) σ ρ' → PsR p H' (Av (Wn W as) σ ρ') H vs us as → Q us H') (exP p Wx H W σ ρ)
theorem ps_nil0 : PA X [] (tPs p P k Wx .nil) := pa_nil.imp fun σ H Q ⟨W, ρ, g, h⟩ => h [] [] H (.refl g) (by rw [Wn_nil]; exact g) .nil
theorem ps_cons0 {es : List Expr} {ces : CEs} (he : PE X e (tE p P k Wx ce)) (hs : PA X es (tPs p P k Wx ces)) (hst : starEach (e :: es) X.env = (false, eval e X.env) :: starEach es X.env) : PA X (e :: es) (tPs p P k Wx (.cons ce ces)) := by
  refine (pa_cons he hs hst).imp fun σ H Q ⟨W, ρ, g, h⟩ => ?_
  unfold evPs at h
  refine tE.first g h fun v ρ1 u H1 q1 h => ?_
  have shd : ∀ {d : D} {ρ3 : Env}, PostE p H W σ ρ ρ3 H1 → Rep p H1 (Av W σ ρ3) d u → RFin ((evPs (fcOf P) (callF P k) ces ρ3).bind fun r ρ2 => R.ok (Sl.sh d :: r) ρ2) (fun vs ρ' => ∀ us as H', PostE p H W σ ρ ρ' H' → Good p H' (Wn W as) σ ρ' → PsR p H' (Av (Wn W as) σ ρ') H vs us as → Q us H') (exP p Wx H W σ ρ) →
      tPs p P k Wx ces σ H1 fun us H' => Q (u :: us) H' := fun {d ρ3} q3 r hf => by
    refine ⟨W, ρ3, q3.good, hf.bind.mono (fun vs ρ2 hg us as H2 q2 g2 ps => ?_) fun _ _ e => e.step q3 fun _ w => w⟩
    refine hg (u :: us) as H2 (q3.trans q2 fun _ w => w) g2 (.sh ?_ (ps.mono (fun _ h => h) fun b n => q3.trk b n))
    have r2 : Rep p H1 (fun b => Av W σ ρ3 b ∧ H1 b ≠ none) d u := r.keep ⟨fun _ _ a r _ => ⟨r, a, Rd.there r⟩, fun _ _ t => t, fun _ _ a r => ⟨r, a, by rw [r]; exact fun z => nomatch z⟩, fun _ _ h => h⟩
    refine r2.keep (q3.good.keeps q2.ext (fun b h => h.1.2) fun b h => ⟨fun w => w.elim h.1.1 fun z => h.2 (ps.none b z), fun o => h.1.2 (q2.sub b o)⟩)
  cases v with
  | sh d => exact shd q1.e q1.vr h
  | sl i =>
    have h : RFin (match letgo ρ1 (.sl i) with
      | some (d, ρ2) => (evPs (fcOf P) (callF P k) ces ρ2).bind fun r ρ3 => R.ok (Sl.sh d :: r) ρ3
      | none => .bad) _ _ := h
    cases hl : letgo ρ1 (.sl i) with
    | none => rw [hl] at h; exact h.elim
    | some z =>
      obtain ⟨d, ρ3⟩ := z
      rw [hl] at h
      obtain ⟨q3, r⟩ := q1.letgo g hl
      exact shd q3 r h
  | ow d =>
    have h : RFin ((evPs (fcOf P) (callF P k) ces ρ1).bind fun r ρ2 => R.ok (Sl.ow d :: r) ρ2) _ _ := h
    obtain ⟨a, ea, n, t⟩ := q1.vr
    subst ea
    have g1 := q1.good
    rw [Wv.ow] at g1
    refine ⟨_, ρ1, g1, h.bind.mono (fun vs ρ2 hf us as H2 q2 g2 ps => ?_) fun _ _ e => e.step q1.e fun _ w => .inl w⟩
    have en : H1 a ≠ none := by
      obtain ⟨o, e, _⟩ := t.there
      rw [e]; exact fun z => nomatch z
    have na : a ∉ as := fun z => en (ps.none a z)
    have ew : Wn (fun b => W b ∨ b = a) as = Wn W (a :: as) := funext fun b => propext ⟨fun h => h.elim (fun h => h.elim .inl fun z => .inr (by rw [z]; exact List.mem_cons_self)) fun z => .inr (List.mem_cons_of_mem _ z), fun h => h.elim (fun w => .inl (.inl w)) fun z => (List.mem_cons.mp z).elim (fun z => .inl (.inr z)) .inr⟩
    rw [ew] at g2 ps
    refine hf (.ref a :: us) (a :: as) H2 (q1.e.trans q2 fun _ w => .inl w) g2 (.ow ?_ n na (ps.mono (fun _ h => h) fun b n => q1.trk b n))
    have t2 : Top p H1 (fun b => (Av W σ ρ1 b ∧ b ≠ a) ∧ H1 b ≠ none) d a := t.keep ⟨fun _ _ a r _ => ⟨r, a, Rd.there r⟩, fun _ _ t => t, fun _ _ a r => ⟨r, a, by rw [r]; exact fun z => nomatch z⟩, fun _ _ h => h⟩ fun _ e => e
    have no : ¬ Own σ ρ1 a := fun o => (g1.own o).1 (.inr rfl)
    refine t2.keep (g1.keeps q2.ext (fun b h => h.1.1.2) fun b h => ⟨fun w => w.elim h.1.1.1 fun z => (List.mem_cons.mp z).elim h.1.2 fun z => h.2 (ps.none b z), fun o => h.1.1.2 (q2.sub b o)⟩) fun o e => q2.ext _ _ e no
def setAll (σ : L2.St) : List Nat → List V → L2.St
  | i :: is, u :: us => setAll (σ.set i (some u)) is us
  | _, _ => σ
theorem par_ok : ∀ {ts : List Nat} {vs : List Sl} {us : List V} {as : List Addr} {σ : L2.St} {ρ : Env}, Good p H (Wn W as) σ ρ → PsR p H A H₀ vs us as → (∀ b, A b → Av (Wn W as) σ ρ b) → (∀ b, W b → H₀ b ≠ none) →
    vs.length = ts.length → Good p H W (setAll σ ts us) (parE ρ ts vs) ∧ (∀ b, Own (setAll σ ts us) (parE ρ ts vs) b → Own σ ρ b ∨ b ∈ as) ∧ ∀ i, i ∉ ts → (setAll σ ts us)[i]? = σ[i]?
  | [], _, _, _, σ, ρ, g, .nil, _, _, _ => by
    rw [Wn_nil] at g
    exact ⟨g, fun _ o => .inl o, fun _ _ => rfl⟩
  | [], _, _, _, _, _, _, .sh _ _, _, _, hl => by simp at hl
  | [], _, _, _, _, _, _, .ow _ _ _ _, _, _, hl => by simp at hl
  | i :: ts, _, _, _, _, _, _, .nil, _, _, hl => by simp at hl
  | i :: ts, _, _, as, σ, ρ, g, .sh (d := d) (u := u) r ps, hA, hw, hl => by
    obtain ⟨g2, sub⟩ := g.set_sh (i := i) (r.keep (.mono hA))
    obtain ⟨g3, s3, o3⟩ := par_ok (ts := ts) g2 ps (fun b h => ⟨(hA b h).1, fun o => (hA b h).2 (sub b o)⟩) hw (by simpa using hl)
    refine ⟨g3, fun b o => (s3 b o).elim (fun o => .inl (sub b o)) .inr, fun j hj => ?_⟩
    have z : i ≠ j := fun z => hj (by simp [z])
    exact (o3 j fun z => hj (List.mem_cons_of_mem _ z)).trans (List.getElem?_set_ne z)
  | i :: ts, .ow d0 :: vs0, .ref _ :: us0, a0 :: as0, σ, ρ, g, .ow t n m ps, hA, hw, hl => by
    have ew : Wn W (a0 :: as0) = fun b => Wn W as0 b ∨ b = a0 := funext fun b => propext ⟨fun h => h.elim (fun w => .inl (.inl w)) fun z => (List.mem_cons.mp z).elim .inr fun z => .inl (.inr z), fun h => h.elim (fun h => h.elim .inl fun z => .inr (List.mem_cons_of_mem _ z)) fun z => .inr (by rw [z]; exact List.mem_cons_self)⟩
    rw [ew] at g hA
    have key : Good p H (Wn W as0) (σ.set i (some (.ref a0))) (ρ.set i (.ow d0)) ∧ ∀ b, Own (σ.set i (some (.ref a0))) (ρ.set i (.ow d0)) b → Own σ ρ b ∨ b = a0 := by
      by_cases hi : i < ρ.length
      · refine Good.set_ow hi g (fun w => w.elim (fun w => hw a0 w n) m) (t.mono fun b h => ?_)
        obtain ⟨x, y⟩ := hA b h
        exact ⟨⟨fun w => x (.inl w), y⟩, fun z => x (.inr z)⟩
      · rw [set_out hi, set_out (by rw [← g.len]; exact hi)]
        exact ⟨g.less fun b w => .inl w, fun b o => .inl o⟩
    obtain ⟨g2, sub⟩ := key
    obtain ⟨g3, s3, o3⟩ := par_ok (ts := ts) g2 ps (fun b h => ⟨fun w => (hA b h).1 (.inl w), fun o => (sub b o).elim (hA b h).2 fun z => (hA b h).1 (.inr z)⟩) hw (by simpa using hl)
    refine ⟨g3, fun b o => (s3 b o).elim (fun o => (sub b o).elim .inl fun z => .inr (by rw [z]; exact List.mem_cons_self)) fun z => .inr (List.mem_cons_of_mem _ z), fun j hj => ?_⟩
    have z : i ≠ j := fun z => hj (by simp [z])
    exact (o3 j fun z => hj (List.mem_cons_of_mem _ z)).trans (List.getElem?_set_ne z)
theorem par_s {ts : List Nat} {vs : List Sl} {us : List V} {as : List Addr} (g : Good p H W σ ρ) (q1 : PostE p H W σ ρ ρ1 H1) (g1 : Good p H1 (Wn W as) σ ρ1) (ps : PsR p H1 (Av (Wn W as) σ ρ1) H vs us as) (hl : vs.length = ts.length) (hts : ∀ i ∈ ts, i ∈ N) :
    PostS p H W N σ ρ (setAll σ ts us) (parE ρ1 ts vs) H1 := by
  obtain ⟨g2, sub, lk⟩ := par_ok g1 ps (fun _ h => h) g.wt hl
  exact ⟨q1.ext, q1.trk, fun b o => (sub b o).elim (fun o => .inl (q1.sub b o)) fun z => .inr (ps.none b z), g2, fun i hi => lk i fun z => hi (hts i z)⟩
theorem PsR.len {vs : List Sl} {us : List V} {as : List Addr} (h : PsR p H A H₀ vs us as) : vs.length = us.length := by
  induction h with
  | nil => rfl
  | sh _ _ ih => exact congrArg (· + 1) ih
  | ow _ _ _ _ ih => exact congrArg (· + 1) ih
theorem so_par2 {i j : Nat} {x y : Str} {px py pt : Pos} {kt k2 pt2} {ces : CEs} (ok : Okc p P cx k X) (hi : cx.N[i]? = some x) (hj : cx.N[j]? = some y) (hij : i ≠ j) (hx : cx.names.lookup x = some .local) (hy : cx.names.lookup y = some .local) (ha : PA X [a, b] (tPs p P k Wx ces)) (his : i ∈ cx.sto) (hjs : j ∈ cx.sto)
    (hw : swappedStores [.Tuple [.Name x px, .Name y py] kt pt] (.Tuple [a, b] k2 pt2) X.env = pure (some [x, y])) (hs : swapsWithSole [.Tuple [.Name x px, .Name y py] kt pt] (.Tuple [a, b] k2 pt2) pos.line X.env = pure false) :
    PS X (.Assign [.Tuple [.Name x px, .Name y py] kt pt] (.Tuple [a, b] k2 pt2) pos) (tS p P k Wx cx.sto (.par [i, j] ces)) := by
  refine (ps_par ok.calm ok.nd (by rw [ok.N]; exact hi) (by rw [ok.N]; exact hj) hij (by rw [ok.sc]; exact hx) (by rw [ok.sc]; exact hy) ha hw hs).imp fun De σ H ⟨W, ρ, g, h⟩ => ?_
  unfold exS at h
  refine ⟨W, ρ, g, h.bind.mono (fun vs ρ1 hf us as H1 q1 g1 ps => ?_) fun _ _ e => exQ.pp e⟩
  split at hf
  case isFalse => exact hf.elim
  case isTrue hl =>
    have hul := ps.len.symm.trans hl
    match us, hul with
    | [u, w], _ => exact ⟨u, w, rfl, hf _ H1 (par_s g q1 g1 ps hl fun m hm => by
        rcases (show m = i ∨ m = j by simpa using hm) with z | z <;> rw [z] <;> assumption)⟩
theorem so_par3 {i j l : Nat} {x y z : Str} {px py pz pt : Pos} {kt k2 pt2} {ces : CEs} (ok : Okc p P cx k X) (hi : cx.N[i]? = some x) (hj : cx.N[j]? = some y) (hl : cx.N[l]? = some z) (hij : i ≠ j) (hil : i ≠ l) (hjl : j ≠ l) (hx : cx.names.lookup x = some .local) (hy : cx.names.lookup y = some .local) (hz : cx.names.lookup z = some .local) (ha : PA X [a, b, c] (tPs p P k Wx ces)) (his : i ∈ cx.sto) (hjs : j ∈ cx.sto) (hls : l ∈ cx.sto)
    (hw : swappedStores [.Tuple [.Name x px, .Name y py, .Name z pz] kt pt] (.Tuple [a, b, c] k2 pt2) X.env = pure (some [x, y, z])) (hs : swapsWithSole [.Tuple [.Name x px, .Name y py, .Name z pz] kt pt] (.Tuple [a, b, c] k2 pt2) pos.line X.env = pure false) :
    PS X (.Assign [.Tuple [.Name x px, .Name y py, .Name z pz] kt pt] (.Tuple [a, b, c] k2 pt2) pos) (tS p P k Wx cx.sto (.par [i, j, l] ces)) := by
  refine (ps_par3 ok.calm ok.nd (by rw [ok.N]; exact hi) (by rw [ok.N]; exact hj) (by rw [ok.N]; exact hl) hij hil hjl (by rw [ok.sc]; exact hx) (by rw [ok.sc]; exact hy) (by rw [ok.sc]; exact hz) ha hw hs).imp fun De σ H ⟨W, ρ, g, h⟩ => ?_
  unfold exS at h
  refine ⟨W, ρ, g, h.bind.mono (fun vs ρ1 hf us as H1 q1 g1 ps => ?_) fun _ _ e => exQ.pp e⟩
  split at hf
  case isFalse => exact hf.elim
  case isTrue hlen =>
    have hul := ps.len.symm.trans hlen
    match us, hul with
    | [u, w, t], _ => exact ⟨u, w, t, rfl, hf _ H1 (par_s g q1 g1 ps hlen fun m hm => by
        rcases (show m = i ∨ m = j ∨ m = l by simpa using hm) with z | z | z <;> rw [z] <;> assumption)⟩
theorem so_for {tg iter : Expr} {body : List Stmt} {t : Tg} {ci : CI} {xb : CSs} (ok : Okc p P cx k X) (hp : PassesOwn (model X.prog X.w) X.A X.env X.xe) (hi : PI X tg iter (tI p P k Wx ci)) (hg : PG X tg (tG p t)) (hb : PSs X body (tL p P k Wx cx.sto xb)) (htn : ∀ i ∈ tgN t, i ∈ cx.sto)
    (hs : ∀ x, foldedSetIterable iter X.env x = pure x) : PS X (.For tg iter body [] pos) (tS p P k Wx cx.sto (.fr t ci xb)) := by
  refine (ps_for hp ok.calm hi hg hb hs).imp fun De σ H ⟨W, ρ, g, h⟩ => ?_
  unfold exS at h
  refine ⟨W, ρ, g, h.bind.mono (fun xs ρ1 hf J H1 q1 it => ?_) fun _ _ e => exQ.pp e⟩
  obtain ⟨G, Y, w, f⟩ := it
  refine for_it w (fun i σi Hi => ∃ ρi, PostS p H1 W cx.sto σ ρ1 σi ρi Hi ∧ RFin (frGo (fun x ρ => asgThen (asgD ρ t x) (fun ρ => exL (fcOf P) (callF P k) xb ρ)) (xs.drop i) ρi) (okS p cx.sto De H W σ ρ) (exQ p Wx cx.sto H W σ ρ))
    ⟨ρ1, .refl q1.good, hf⟩ (fun i σi Hi _ ⟨ρi, x, _⟩ => (f Hi _ (x.keeps q1.good)).1) (fun i x σi Hi H' hlt ⟨ρi, s, hr⟩ y => ?_) fun σn Hn ⟨ρn, s, hr⟩ => ?_
  · obtain ⟨d, hd, yl⟩ := (f Hi _ (s.keeps q1.good)).2 i x H' hlt y
    have ed : xs.drop i = d :: xs.drop (i + 1) := by
      obtain ⟨h1, h2⟩ := List.getElem?_eq_some_iff.mp hd
      rw [List.drop_eq_getElem_cons h1, h2]
    rw [ed] at hr
    unfold frGo at hr
    have yv : PostE p Hi W σi ρi ρi H' ∧ Rep p H' (Av W σi ρi) d x := by
      rcases yl with ⟨e, r⟩ | ⟨r, ds, us, e1, e2, n, e3, rr⟩
      · subst e; exact ⟨.refl s.good, r⟩
      · subst e1 e2 e3
        exact ⟨(PostE.refl s.good).laid n, .tup (.inl (.inl upd_same)) ((rr.keep (Keeps.laid n)).keep (.mono fun b h => h.1))⟩
    obtain ⟨y1, r1⟩ := yv
    cases ha : asgD ρi t d with
    | none => rw [ha] at hr; exact hr.elim
    | some ρa =>
      rw [ha] at hr
      refine ⟨W, ρi, d, ρa, y1.good, r1, ha, fun σ2 pt => ?_⟩
      have st : PostS p H1 W cx.sto σ ρ1 σ2 ρa H' := (s.trans y1.s fun _ w => w).trans (⟨fun _ _ e _ => e, fun _ e => e, fun b o => .inl (pt.sub b o), pt.good, fun i hi => (pt.out i fun z => hi (htn i z)).1⟩ : PostS p H' W cx.sto σi ρi σ2 ρa H') fun _ w => w
      have s0 : PostS p H W cx.sto σ ρ σ2 ρa H' := q1.s.trans st fun _ w => w
      have hr' : RFin ((exL (fcOf P) (callF P k) xb ρa).bind fun f ρ1 => match f with
        | .nx => frGo (fun x ρ => asgThen (asgD ρ t x) (fun ρ => exL (fcOf P) (callF P k) xb ρ)) (xs.drop (i + 1)) ρ1
        | .cnt => frGo (fun x ρ => asgThen (asgD ρ t x) (fun ρ => exL (fcOf P) (callF P k) xb ρ)) (xs.drop (i + 1)) ρ1
        | .brk => .ok .nx ρ1
        | .ret v => .ok (.ret v) ρ1) (okS p cx.sto De H W σ ρ) (exQ p Wx cx.sto H W σ ρ) := hr
      refine ⟨W, ρa, pt.good, hr'.bind.mono (fun f ρb hf => ?_) fun _ _ e => exQ.step s0 e⟩
      cases f with
      | nx => exact fun σ3 H3 z => ⟨ρb, st.trans z fun _ w => w, hf⟩
      | cnt => exact fun σ3 H3 z => ⟨ρb, st.trans z fun _ w => w, hf⟩
      | brk => exact fun σ3 H3 z => hf σ3 H3 (s0.trans z fun _ w => w)
      | ret v => exact fun σ3 u H3 z => hf σ3 u H3 (s0.transR z)
  · rw [List.drop_length] at hr
    exact hr σn Hn (q1.s.trans s fun _ w => w)
theorem so_while {body : List Stmt} {xb : CSs} (hp : PassesOwn (model X.prog X.w) X.A X.env X.xe) (hc : PT X c (tT p P k Wx cc)) (hb : PSs X body (tL p P k Wx N xb)) : PS X (.While c body [] pos) (tS p P k Wx N (.wh cc xb)) := by
  refine (ps_while hp hc hb).imp fun De σ H ⟨W, ρ, g, h⟩ => ?_
  unfold exS at h
  refine ⟨fun m σi Hi => ∃ ρi, PostS p H W N σ ρ σi ρi Hi ∧ RFin (whGo (fun ρ => (evE (fcOf P) (callF P k) cc ρ).bind rTruth) (exL (fcOf P) (callF P k) xb) m ρi) (okS p N De H W σ ρ) (exQ p Wx N H W σ ρ), ⟨wFuel, ρ, .refl g, h⟩, fun m σi Hi ⟨ρi, s, hr⟩ => ?_⟩
  cases m with
  | zero => exact hr.elim
  | succ m =>
    unfold whGo at hr
    refine ⟨W, ρi, s.good, hr.bind.mono (fun kk ρ1 hf H1 q1 => ?_) fun _ _ e => exQ.pp (exQ.step s e)⟩
    have s1 : PostS p H W N σ ρ σi ρ1 H1 := s.trans q1.s fun _ w => w
    cases kk with
    | false => exact hf σi H1 s1
    | true =>
      rw [if_pos rfl] at hf
      show ∃ N, _
      refine ⟨_, fun σ' H' hn => ⟨m, Nat.lt_succ_self m, hn⟩, W, ρ1, q1.good, hf.bind.mono (fun f ρb hf => ?_) fun _ _ e => exQ.step s1 e⟩
      cases f with
      | nx => exact fun σ3 H3 z => ⟨ρb, s1.trans z fun _ w => w, hf⟩
      | cnt => exact fun σ3 H3 z => ⟨ρb, s1.trans z fun _ w => w, hf⟩
      | brk => exact fun σ3 H3 z => hf σ3 H3 (s1.trans z fun _ w => w)
      | ret v => exact fun σ3 u H3 z => hf σ3 u H3 (s1.transR z)
end
end Lv
namespace Lv
open PySem PySem.Spec PyProof.Rows L2
section
variable {p : Pm} {P : List Fn} {cx : Cenv} {k : Nat} {X : L2.Cx} {Wx : WX} {H H' H1 H2 H₀ : Hp} {A A' W W1 : Addr → Prop} {σ σ' σ1 σ2 : L2.St} {ρ ρ' ρ1 ρ2 : Env} {a b c e : Expr} {ca cb cc ce ck : CE} {pos : Pos} {d d' : D} {u : V} {v : Vl} {q : Addr} {N : List Nat}
theorem own_var {i : Nat} {Q : VK} (g : Good p H W σ ρ) (hs : slot ρ i = .ow d) (h : ∀ a H1, PostE p H W σ ρ ρ H1 → σ[i]? = some (some (.ref a)) → Q (.ref a) H1) : tE p P k Wx (.var i) σ H Q := by
  refine ⟨W, ρ, g, ?_⟩
  unfold evE
  rw [hs]
  intro u H1 q1
  obtain ⟨a, ea, _⟩ := g.ow i _ hs
  have eu : σ[i]? = some (some u) := q1.vr
  rw [ea] at eu
  cases eu
  exact h a H1 q1.e ea
theorem putD_ok {i : Nat} {kd : D} {a : Addr} {y vv : V} (g : Good p H W σ ρ) (h : putD kd d ρ i = some ρ1) (ea : σ[i]? = some (some (.ref a))) (rk : Rep p H A kd y) (rv : Rep p H (Av W σ ρ) d vv) : ∃ H1, DPut H a y vv H1 ∧ PostE p H W σ ρ ρ1 H1 := by
  unfold putD at h
  split at h
  case h_2 => cases h
  case h_1 kvs hs =>
    split at h
    case h_2 => cases h
    case h_1 ky hk =>
      split at h
      case isFalse => cases h
      case isTrue hz =>
        cases h
        obtain ⟨a', ea', nw, ks, ek, rk2⟩ := g.ow i _ hs
        rw [ea] at ea'
        cases ea'
        have ey : y = kV ky := ky_v (.inl rk) hk
        have kp : Keeps p H (upd H a (.dK (putK ks ky vv))) (Av W σ ρ) (Av W σ ρ) := keeps_upd ek (fun _ z => nomatch z) (fun _ _ z => nomatch z) (nowAv hs ea)
        obtain ⟨q1, _⟩ := g.mut (d' := .dic (dput kd d ky kvs)) (o' := .dK (putK ks ky vv)) hs ea ⟨_, upd_same, (repk_put hk rv rk2).keep kp⟩
        refine ⟨_, .inl ⟨ks, ky, ek, ey, ?_, rfl⟩, q1⟩
        have := repk_length rk2
        simp only [decide_eq_true_eq] at hz
        have e1 : sizeLine = 16777216 := rfl
        omega
theorem putL_ok {i : Nat} {kd : D} {a : Addr} {y vv : V} (g : Good p H W σ ρ) (h : putL kd d ρ i = some ρ1) (ea : σ[i]? = some (some (.ref a))) (rk : Rep p H A kd y) (rv : Rep p H (Av W σ ρ) d vv) :
    ∃ xs j m, y = .int j ∧ H a = some (.lst xs) ∧ ixN xs.length j = some m ∧ PostE p H W σ ρ ρ1 (upd H a (.lst (xs.set m vv))) := by
  unfold putL at h
  split at h
  case h_2 => cases h
  case h_1 ds hs =>
    split at h
    case h_2 => cases h
    case h_1 j =>
      split at h
      case h_2 => cases h
      case h_1 m hm =>
        cases h
        obtain ⟨a', ea', nw, xs, ex, rx⟩ := g.ow i _ hs
        rw [ea] at ea'
        cases ea'
        cases rk
        have kp : Keeps p H (upd H a (.lst (xs.set m vv))) (Av W σ ρ) (Av W σ ρ) := keeps_upd ex (fun _ z => nomatch z) (fun _ _ z => nomatch z) (nowAv hs ea)
        obtain ⟨q1, _⟩ := g.mut (d' := .lst (ds.set m d)) (o' := .lst (xs.set m vv)) hs ea ⟨_, upd_same, (rx.set rv m).keep kp⟩
        exact ⟨xs, j, m, rfl, ex, by rw [← rx.length]; exact hm, q1⟩
theorem so_put {i : Nat} {o ix : Expr} {pos' : Pos} (ok : Okc p P cx k X) (ho : PE X o (tE p P k Wx (.var i))) (hk : PE X ix (tE p P k Wx ck)) (he : PE X e (tE p P k Wx ce)) (hs : swapsWith e (some (.Subscript o ix pos')) pos.line X.env = pure false)
    (ha : ∀ v, assign (.Subscript o ix pos') X.env v = (do
      let ov ← holding [v] (eval o X.env)
      let iv ← holding [v, ov] (eval ix X.env)
      standAt pos'
      holding [v, ov, iv] (setItem ov iv v)
      release [v, ov, iv] [])) (hw : swappedStores [.Subscript o ix pos'] e X.env = pure none) (h1 : (assignEach [.Subscript o ix pos'] X.env).map (·.2) = [assign (.Subscript o ix pos') X.env]) :
    PS X (.Assign [.Subscript o ix pos'] e pos) (tS p P k Wx N (.put i ck ce)) := by
  refine ⟨fun pins s σ H De I ⟨W, ρ, g, h⟩ => ?_⟩
  unfold exS at h
  by_cases hl : ∃ vv ρ1 d ρ2 xs, evE (fcOf P) (callF P k) ce ρ = .ok vv ρ1 ∧ letgo ρ1 vv = some (d, ρ2) ∧ slot ρ2 i = .ow (.lst xs)
  · obtain ⟨vv, ρ1, d, ρ2, xs, e1, e2, e3⟩ := hl
    refine (ps_asg he (pg_sub ho hk set_list ha) (by exact hs) hw h1).run pins s σ H De I ⟨W, ρ, g, ?_⟩
    rw [e1] at h ⊢
    have h : RFin (match letgo ρ1 vv with
      | some (d, ρ2) => (match slot ρ2 i with
        | .ow (.lst _) => (evE (fcOf P) (callF P k) ck ρ2).bind fun kv ρ3 => (match kv with
          | .sh kd => asgThen (putL kd d ρ3 i) (fun ρ4 => .ok .nx ρ4)
          | _ => .bad)
        | .ow (.dic _) => (evE (fcOf P) (callF P k) ck ρ2).bind fun kv ρ3 => (match kv with
          | .sh kd => asgThen (putD kd d ρ3 i) (fun ρ4 => R.ok Fl.nx ρ4)
          | _ => .bad)
        | _ => .bad)
      | none => .bad) (okS p N De H W σ ρ) (exQ p Wx N H W σ ρ) := h
    rw [e2] at h
    simp only [e3] at h
    intro u H1 q1
    obtain ⟨q2, r⟩ := q1.letgo g e2
    refine own_var q2.good e3 fun a H2 q3 ea => ?_
    have q13 := q2.trans q3 fun _ w => w
    have r3 := r.keep (q2.good.keeps q3.ext (fun b h => h.2) (Av.less (fun _ w => w) q3.sub))
    refine ⟨W, ρ2, q3.good, h.bind.mono (fun kv ρ3 hf y H3 q4 => ?_) fun _ _ e => exQ.pp (exQ.step q13.s e)⟩
    have q14 := q13.trans q4.e fun _ w => w
    have r4 := r3.keep (q3.good.keeps q4.ext (fun b h => h.2) (Av.less (fun _ w => w) q4.sub))
    split at hf
    case h_2 => exact hf.elim
    case h_1 kd =>
      obtain ⟨ρ4, hp, hf⟩ := asgThen_fin hf
      obtain ⟨zs, j, m, c1, c2, c3, c4⟩ := putL_ok q14.good hp ea q4.vr r4
      exact ⟨a, zs, j, m, rfl, c1, c2, c3, hf σ _ (q14.trans c4 fun _ w => w).s⟩
  · have key : tE p P k Wx ce σ H fun v H1 => tE p P k Wx (.var i) σ H1 fun x H2 => tE p P k Wx ck σ H2 fun y H3 => ∃ a H4, x = .ref a ∧ DPut H3 a y v H4 ∧ De.nx σ H4 := by
      refine ⟨W, ρ, g, h.bind.eq.mono (fun vv ρ1 ⟨e1, h⟩ u H1 q1 => ?_) fun _ _ e => exQ.pp e⟩
      cases e2 : letgo ρ1 vv with
      | none => simp only [e2] at h; exact h.elim
      | some z =>
        obtain ⟨d, ρ2⟩ := z
        simp only [e2] at h
        split at h
        case h_1 xs e3 => exact absurd ⟨vv, ρ1, d, ρ2, xs, e1, e2, e3⟩ hl
        case h_3 => exact h.elim
        case h_2 kvs e3 =>
          obtain ⟨q2, r⟩ := q1.letgo g e2
          refine own_var q2.good e3 fun a H2 q3 ea => ?_
          have q13 := q2.trans q3 fun _ w => w
          have r3 := r.keep (q2.good.keeps q3.ext (fun b h => h.2) (Av.less (fun _ w => w) q3.sub))
          refine ⟨W, ρ2, q3.good, h.bind.mono (fun kv ρ3 hf y H3 q4 => ?_) fun _ _ e => exQ.pp (exQ.step q13.s e)⟩
          have q14 := q13.trans q4.e fun _ w => w
          have r4 := r3.keep (q3.good.keeps q4.ext (fun b h => h.2) (Av.less (fun _ w => w) q4.sub))
          split at hf
          case h_2 => exact hf.elim
          case h_1 kd =>
            obtain ⟨ρ4, hp, hf⟩ := asgThen_fin hf
            obtain ⟨H4, c1, c2⟩ := putD_ok q14.good hp ea q4.vr r4
            exact ⟨a, H4, rfl, c1, hf σ _ (q14.trans c2 fun _ w => w).s⟩
    exact (ps_dput (room_u ok.room |> fun h => by omega) ho hk he hs).run pins s σ H De I key
end
end Lv
namespace Lv
open PySem PySem.Spec PyProof.Rows L2
section
variable {p : Pm} {P : List Fn} {cx : Cenv} {k : Nat} {X : L2.Cx} {Wx : WX} {H H' H1 H2 H₀ : Hp} {A A' W W' W1 : Addr → Prop} {σ σ' σ1 σ2 : L2.St} {ρ ρ' ρ1 ρ2 args : Env} {d d' : D} {u : V} {v : Vl} {q : Addr} {N : List Nat} {vs : List V}
theorem slot_app {l r : Env} {j : Nat} (h : ∀ s ∈ r, s = .un) : slot (l ++ r) j = slot l j := by
  unfold slot
  rw [List.getD_eq_getElem?_getD, List.getD_eq_getElem?_getD]
  by_cases hj : j < l.length
  · rw [List.getElem?_append_left hj]
  · rw [List.getElem?_append_right (by omega), List.getElem?_eq_none (l := l) (by omega)]
    cases hr : r[j - l.length]? with
    | none => rfl
    | some s => rw [h s (List.mem_of_getElem? hr)]; rfl
theorem slot_outs {j : Nat} : slot (outsOf args ρ) j = match slot args j with | .ow _ => slot ρ j | a => a := by
  unfold outsOf slot
  rw [List.getD_eq_getElem?_getD, List.getD_eq_getElem?_getD, List.getElem?_mapIdx]
  cases h : args[j]? with
  | none => rfl
  | some a => rfl
theorem outs_len : (outsOf args ρ).length = args.length := by unfold outsOf; rw [List.length_mapIdx]
theorem okArgs_at : ∀ {st : List Bool} {args : Env}, okArgs st args = true → st.length = args.length ∧ ∀ j d, slot args j = .ow d → st[j]? = some false
  | [], [], _ => ⟨rfl, fun j d h => by simp [slot] at h⟩
  | [], _ :: _, h => by cases h
  | _ :: _, [], h => by cases h
  | b :: bs, a :: as, h => by
    unfold okArgs at h
    rw [Bool.and_eq_true] at h
    obtain ⟨l, r⟩ := okArgs_at (st := bs) (args := as) h.2
    refine ⟨congrArg (· + 1) l, fun j d hj => ?_⟩
    cases j with
    | zero =>
      have ea : a = .ow d := hj
      subst ea
      have : (!b) = true := h.1
      cases b
      · rfl
      · cases this
    | succ j => exact r j d hj
theorem Good.enter {n : Nat} (g : Good p H W (vs.map some) args) : Good p H W (vs.map some ++ List.replicate n none) (args ++ List.replicate n .un) ∧ ∀ b, Own (vs.map some ++ List.replicate n none) (args ++ List.replicate n .un) b ↔ Own (vs.map some) args b := by
  have hs : ∀ {j}, slot (args ++ List.replicate n .un) j = slot args j := slot_app fun s h => List.eq_of_mem_replicate h
  have lt : ∀ {j : Nat}, slot args j ≠ .un → (vs.map some ++ List.replicate n none)[j]? = (vs.map some)[j]? := fun h => List.getElem?_append_left (by rw [← g.len]; exact slot_lt h)
  have own : ∀ b, Own (vs.map some ++ List.replicate n none) (args ++ List.replicate n .un) b ↔ Own (vs.map some) args b := fun b => by
    constructor
    · rintro ⟨j, e, hj, ej⟩
      rw [hs] at hj
      exact ⟨j, e, hj, by rw [← lt (by rw [hj]; exact fun z => nomatch z)]; exact ej⟩
    · rintro ⟨j, e, hj, ej⟩
      exact ⟨j, e, by rw [hs]; exact hj, by rw [lt (by rw [hj]; exact fun z => nomatch z)]; exact ej⟩
  have av : ∀ b, Av W (vs.map some) args b → Av W (vs.map some ++ List.replicate n none) (args ++ List.replicate n .un) b := fun b ⟨x, y⟩ => ⟨x, fun o => y ((own b).mp o)⟩
  refine ⟨⟨by rw [List.length_append, List.length_append, List.length_replicate, List.length_replicate, g.len], g.wt, fun j e hj => ?_, fun j e hj => ?_, fun j l e f b hj hl ej el => ?_⟩, own⟩
  · rw [hs] at hj
    obtain ⟨z, ez, r⟩ := g.sh j e hj
    exact ⟨z, by rw [lt (by rw [hj]; exact fun z => nomatch z)]; exact ez, r.keep (.mono av)⟩
  · rw [hs] at hj
    obtain ⟨z, ez, nz, t⟩ := g.ow j e hj
    exact ⟨z, by rw [lt (by rw [hj]; exact fun z => nomatch z)]; exact ez, nz, t.mono av⟩
  · rw [hs] at hj hl
    rw [lt (by rw [hj]; exact fun z => nomatch z)] at ej
    rw [lt (by rw [hl]; exact fun z => nomatch z)] at el
    exact g.inj j l e f b hj hl ej el
theorem fin_outs {n : Nat} {ρ₂ : Env} (g0 : Good p H W (vs.map some) args) (g : Good p H' W' σ' ρ') (hW : ∀ b, W b → W' b) (hn : ∀ b, W' b → W b ∨ H b = none)
    (ext : ∀ b o, H b = some o → ¬ Own (vs.map some ++ List.replicate n none) (args ++ List.replicate n .un) b → H' b = some o)
    (sub : ∀ a, Own σ' ρ' a → Own (vs.map some ++ List.replicate n none) (args ++ List.replicate n .un) a ∨ H a = none)
    (lk : ∀ j d, slot args j = .ow d → σ'[j]? = (vs.map some ++ List.replicate n none)[j]?) :
    Good p H' W' (vs.map some) (outsOf args ρ') ∧ (∀ b, Av W' σ' ρ' b → Av W' (vs.map some) (outsOf args ρ') b) ∧ ∀ b, Own (vs.map some) (outsOf args ρ') b → Own (vs.map some) args b := by
  obtain ⟨ge, own⟩ := g0.enter (n := n)
  have lt : ∀ {j : Nat}, slot args j ≠ .un → (vs.map some ++ List.replicate n none)[j]? = (vs.map some)[j]? := fun h => List.getElem?_append_left (by rw [← g0.len]; exact slot_lt h)
  have at_ : ∀ {j d}, slot args j = .ow d → σ'[j]? = (vs.map some)[j]? := fun {j d} h => (lk j d h).trans (lt (by rw [h]; exact fun z => nomatch z))
  have ow : ∀ {j d}, slot (outsOf args ρ') j = .ow d → slot ρ' j = .ow d ∧ ∃ d0, slot args j = .ow d0 := fun {j d} h => by
    rw [slot_outs] at h
    cases hs : slot args j with
    | ow d0 => rw [hs] at h; exact ⟨h, d0, rfl⟩
    | sh d0 => rw [hs] at h; cases h
    | un => rw [hs] at h; cases h
  have own2 : ∀ b, Own (vs.map some) (outsOf args ρ') b → Own σ' ρ' b ∧ Own (vs.map some) args b := fun b ⟨j, e, hj, ej⟩ => by
    obtain ⟨h1, d0, h2⟩ := ow hj
    exact ⟨⟨j, e, h1, by rw [at_ h2]; exact ej⟩, ⟨j, d0, h2, ej⟩⟩
  have av : ∀ b, Av W' σ' ρ' b → Av W' (vs.map some) (outsOf args ρ') b := fun b ⟨x, y⟩ => ⟨x, fun o => y (own2 b o).1⟩
  have kp : Keeps p H H' (Av W (vs.map some) args) (Av W' (vs.map some) (outsOf args ρ')) := by
    have av2 : ∀ {b}, H b ≠ none → Av W (vs.map some) args b → Av W' (vs.map some) (outsOf args ρ') b := fun r ⟨a1, a2⟩ => ⟨fun w => (hn _ w).elim a1 r, fun o => a2 (own2 _ o).2⟩
    refine ⟨fun b u hb r _ => ⟨?_, av2 (Rd.there r) hb⟩, fun b xs h => ?_, fun b xs hb h => ?_, fun b xs h => ?_⟩
    · rcases r with r | ⟨o, r⟩
      · exact .inl (ext _ _ r fun o => hb.2 ((own b).mp o))
      · exact .inr ⟨o, ext _ _ r fun o => hb.2 ((own b).mp o)⟩
    · rcases h with h | h
      · have n := ge.tup h
        rcases h with h | ⟨o, h⟩
        · exact .inl (.inl (ext _ _ h n))
        · exact .inl (.inr ⟨o, ext _ _ h n⟩)
      · exact .inr h
    · exact ⟨ext _ _ h fun o => hb.2 ((own b).mp o), av2 (by rw [h]; exact fun z => nomatch z) hb⟩
    · rcases h with ⟨o, h⟩ | h
      · refine .inl ⟨o, ext _ _ h fun z => ?_⟩
        obtain ⟨_, d, t⟩ := ge.own z
        obtain ⟨o', e, _, nf, _⟩ := t.there
        rw [e] at h
        exact nf _ _ (Option.some.inj h)
      · exact .inr h
  refine ⟨⟨by rw [outs_len]; exact g0.len, g.wt, fun j e hj => ?_, fun j e hj => ?_, fun j l e f b hj hl ej el => ?_⟩, av, fun b o => (own2 b o).2⟩
  · rw [slot_outs] at hj
    cases hs : slot args j with
    | ow d0 =>
      rw [hs] at hj
      obtain ⟨z, ez, r⟩ := g.sh j e hj
      exact ⟨z, by rw [← at_ hs]; exact ez, r.keep (.mono av)⟩
    | sh d0 =>
      rw [hs] at hj
      cases hj
      obtain ⟨z, ez, r⟩ := g0.sh j e hs
      exact ⟨z, ez, r.keep kp⟩
    | un => rw [hs] at hj; cases hj
  · obtain ⟨h1, d0, h2⟩ := ow hj
    obtain ⟨z, ez, nz, t⟩ := g.ow j e h1
    exact ⟨z, by rw [← at_ h2]; exact ez, nz, t.mono av⟩
  · obtain ⟨h1, d1, h2⟩ := ow hj
    obtain ⟨h3, d3, h4⟩ := ow hl
    exact g.inj j l e f b h1 h3 (by rw [at_ h2]; exact ej) (by rw [at_ h4]; exact el)
theorem finF_ok {f : Fn} {n : Nat} {Q : VK} {xP : Nat → Env → Prop} (g0 : Good p H W (vs.map some) args) (hps : f.ps = args.length) (hN : ∀ j d, slot args j = .ow d → j ∉ N) (x : PostR p H W N (vs.map some ++ List.replicate n none) (args ++ List.replicate n .un) σ' v ρ' u H')
    (h : match finF f args v ρ' with | .ret w outs => ∀ u H', Post p H W (vs.map some) args w outs u H' → Q u H' | .ex c outs => xP c outs | .bad => False) : Q u H' := by
  obtain ⟨ge, own⟩ := g0.enter (n := n)
  have hn : ∀ b, Wv W v u b → W b ∨ H b = none := fun b w => w.elim .inl fun ⟨⟨d, e⟩, eu⟩ => by
    subst e
    obtain ⟨a, ea, n, _⟩ := x.vr
    rw [ea] at eu
    cases eu
    exact .inr n
  have lk : ∀ j d, slot args j = .ow d → σ'[j]? = (vs.map some ++ List.replicate n none)[j]? := fun j d h => x.lk j (hN j d h)
  have ext : ∀ b o, H b = some o → ¬ Own (vs.map some) args b → H' b = some o := fun b o e n => x.ext b o e fun o => n ((own b).mp o)
  obtain ⟨g2, av, sub⟩ := fin_outs (ρ₂ := ρ') g0 x.good (fun _ w => .inl w) hn x.ext x.sub lk
  unfold finF at h
  cases v with
  | sh d =>
    refine h u H' ⟨ext, x.trk, sub, g2, ?_⟩
    rw [Wv.sh] at av
    exact Rep.keep (.mono av) x.vr
  | ow d =>
    obtain ⟨a, ea, n0, t⟩ := x.vr
    subst ea
    refine h _ H' ⟨ext, x.trk, sub, g2, a, rfl, n0, t.mono fun b ⟨hb, z⟩ => ⟨?_, z⟩⟩
    have := av b ⟨fun w => w.elim hb.1 fun ⟨_, e⟩ => z (by cases e; rfl), hb.2⟩
    exact ⟨fun w => this.1 (.inl w), this.2⟩
  | sl i =>
    have eu : σ'[i]? = some (some u) := x.vr
    have g := x.good
    rw [Wv.sl] at g g2 av
    simp only at h
    cases hs : slot ρ' i with
    | un => rw [hs] at h; exact h.elim
    | sh d =>
      rw [hs] at h
      obtain ⟨z, ez, r⟩ := g.sh i d hs
      rw [eu] at ez
      cases ez
      exact h u H' ⟨ext, x.trk, sub, by rw [Wv.sh]; exact g2, Rep.keep (.mono av) r⟩
    | ow d =>
      rw [hs] at h
      simp only at h
      by_cases hc : (decide (f.ps ≤ i) && keptAll args ρ') = true
      case pos =>
        rw [if_pos hc] at h
        rw [Bool.and_eq_true, decide_eq_true_eq] at hc
        obtain ⟨a, ea, nw, t⟩ := g.ow i d hs
        rw [eu] at ea
        cases ea
        have new : H a = none := (x.sub a ⟨i, d, hs, eu⟩).elim (fun o => by
          obtain ⟨j, d0, hj, ej⟩ := (own a).mp o
          have hk := List.all_eq_true.mp hc.2 j (List.mem_range.mpr (slot_lt (by rw [hj]; exact fun z => nomatch z)))
          rw [hj] at hk
          have hk : isOw (slot ρ' j) = true := hk
          cases hsj : slot ρ' j with
          | ow d1 =>
            have ej' : σ'[j]? = some (some (.ref a)) := by
              rw [lk j d0 hj, List.getElem?_append_left (by rw [← g0.len]; exact slot_lt (by rw [hj]; exact fun z => nomatch z))]
              exact ej
            have := g.inj i j d d1 a hs hsj eu ej'
            have hlt : j < args.length := slot_lt (by rw [hj]; exact fun z => nomatch z)
            omega
          | sh d1 => rw [hsj] at hk; cases hk
          | un => rw [hsj] at hk; cases hk) id
        have no : ∀ j e, slot (outsOf args ρ') j = .ow e → (vs.map some)[j]? ≠ some (some (.ref a)) := fun j e hj ej => by
          rw [slot_outs] at hj
          cases hsa : slot args j with
          | ow d0 =>
            obtain ⟨b, eb, _, tb⟩ := g0.ow j d0 hsa
            rw [ej] at eb
            cases eb
            obtain ⟨o, eo, _⟩ := tb.there
            rw [new] at eo; cases eo
          | sh d0 => rw [hsa] at hj; cases hj
          | un => rw [hsa] at hj; cases hj
        have g3 : Good p H' (fun b => W b ∨ b = a) (vs.map some) (outsOf args ρ') := by
          have avA : ∀ b, Av W σ' ρ' b → Av (fun b => W b ∨ b = a) (vs.map some) (outsOf args ρ') b := fun b hb => by
            have := av b hb
            exact ⟨fun w => w.elim this.1 fun z => hb.2 ⟨i, d, hs, z ▸ eu⟩, this.2⟩
          have hs' : ∀ {j e}, slot (outsOf args ρ') j = .sh e → ∃ w, (vs.map some)[j]? = some (some w) ∧ Rep p H' (Av (fun b => W b ∨ b = a) (vs.map some) (outsOf args ρ')) e w := fun {j e} hj => by
            rw [slot_outs] at hj
            cases hsa : slot args j with
            | un => rw [hsa] at hj; cases hj
            | ow d0 =>
              rw [hsa] at hj
              obtain ⟨z, ez, r⟩ := g.sh j e hj
              refine ⟨z, ?_, r.keep (.mono avA)⟩
              rw [← List.getElem?_append_left (l₂ := List.replicate n none) (by rw [← g0.len]; exact slot_lt (by rw [hsa]; exact fun z => nomatch z)), ← lk j d0 hsa]
              exact ez
            | sh d0 =>
              rw [hsa] at hj
              cases hj
              obtain ⟨z, ez, r⟩ := g0.sh j e hsa
              refine ⟨z, ez, r.keep ⟨fun b u hb r _ => ?_, fun b xs h => ?_, fun b xs hb h => ?_, fun b xs h => ?_⟩⟩
              · have nb : b ≠ a := fun z => Rd.there r (z ▸ new)
                refine ⟨?_, fun w => w.elim hb.1 nb, fun o => hb.2 (sub b o)⟩
                rcases r with r | ⟨o, r⟩
                · exact .inl (ext _ _ r hb.2)
                · exact .inr ⟨o, ext _ _ r hb.2⟩
              · rcases h with h | h
                · have n := g0.tup h
                  rcases h with h | ⟨o, h⟩
                  · exact .inl (.inl (ext _ _ h n))
                  · exact .inl (.inr ⟨o, ext _ _ h n⟩)
                · exact .inr h
              · exact ⟨ext _ _ h hb.2, ⟨fun w => w.elim hb.1 fun z => by { rw [z, new] at h; cases h }, fun o => hb.2 (sub b o)⟩⟩
              · rcases h with ⟨o, h⟩ | h
                · refine .inl ⟨o, ext _ _ h fun z => ?_⟩
                  obtain ⟨_, d, t⟩ := g0.own z
                  obtain ⟨o', e, _, nf, _⟩ := t.there
                  rw [e] at h
                  exact nf _ _ (Option.some.inj h)
                · exact .inr h
          refine ⟨g2.len, fun b w => w.elim (g2.wt b) fun z => ?_, fun j e hj => hs' hj, fun j e hj => ?_, g2.inj⟩
          · obtain ⟨o, eo, _⟩ := t.there
            rw [z, eo]; exact fun z => nomatch z
          · obtain ⟨z, ez, nz, tz⟩ := g2.ow j e hj
            refine ⟨z, ez, fun w => w.elim nz fun y => no j e hj (y ▸ ez), ?_⟩
            rw [slot_outs] at hj
            cases hsa : slot args j with
            | un => rw [hsa] at hj; cases hj
            | sh d0 => rw [hsa] at hj; cases hj
            | ow d0 =>
              rw [hsa] at hj
              obtain ⟨z', ez', nz', tz'⟩ := g.ow j e hj
              have : z' = z := by
                rw [lk j d0 hsa, List.getElem?_append_left (by rw [← g0.len]; exact slot_lt (by rw [hsa]; exact fun z => nomatch z)), ez] at ez'
                cases ez'; rfl
              subst this
              exact tz'.mono avA
        refine h _ H' ⟨ext, x.trk, sub, by rw [Wv.ow]; exact g3, a, rfl, new, t.mono fun b hb => ⟨av b hb, fun z => hb.2 ⟨i, d, hs, z ▸ eu⟩⟩⟩
      case neg =>
        rw [if_neg hc] at h
        obtain ⟨g4, ⟨a, ea, r⟩, sub4⟩ := g.give hs
        rw [eu] at ea
        cases ea
        obtain ⟨g5, av5, sub5⟩ := fin_outs (ρ₂ := ρ') (ρ' := ρ'.set i (.sh d)) g0 g4 (fun _ w => w) (fun _ w => .inl w) x.ext (fun b o => x.sub b (sub4 b o)) lk
        exact h _ H' ⟨ext, x.trk, sub5, by rw [Wv.sh]; exact g5, Rep.keep (.mono av5) r⟩
theorem finE_ok {n : Nat} (g0 : Good p H W (vs.map some) args) (hN : ∀ j d, slot args j = .ow d → j ∉ N) (x : PostS p H W N (vs.map some ++ List.replicate n none) (args ++ List.replicate n .un) σ' ρ' H') : PostE p H W (vs.map some) args (outsOf args ρ') H' := by
  obtain ⟨ge, own⟩ := g0.enter (n := n)
  obtain ⟨g2, av, sub⟩ := fin_outs (ρ₂ := ρ') g0 x.good (fun _ w => w) (fun _ w => .inl w) x.ext x.sub fun j d h => x.lk j (hN j d h)
  exact ⟨fun b o e n => x.ext b o e fun o => n ((own b).mp o), x.trk, sub, g2⟩
end
end Lv
namespace Lv
open PySem PySem.Spec PyProof.Rows L2
section
variable {p : Pm} {P : List Fn} {cx : Cenv} {k : Nat}
structure Fr (X : L2.Cx) : Prop where
  bk : X.env.blockKind = .function
  pass : PassesOwn (model X.prog X.w) X.A X.env X.xe
theorem fn_ok {prog : Program} {w : World} {K : PySem.W.Frag} {mg : Str → Option Value} {base : Heap} {x qual : Str} {params : Arguments} {body : List Stmt} {scope : Scope} {dvs : List V} {kws : List (Str × V)} {fd : FuncData} {i : Nat} {f : Fn} {ps : List Str}
    (hP : P[i]? = some f) (hK : p.K = K) (F : FunD K x qual params body scope dvs kws (p.fa i) fd) (S : FnScope cx.N ps scope) (hsc : scope.names = cx.names) (hps : f.ps = ps.length) (hn : f.n = cx.N.length) (hlen : f.st.length = ps.length) (hst : ∀ j, f.st[j]? = some false → j ∉ cx.sto)
    (hloc : ∀ i x, i ∈ cx.sto → cx.N[i]? = some x → cx.names.lookup x = some .local ∨ cx.names.lookup x = some .cell) (glo : GloOk p P cx k prog w K mg base)
    (hbody : ∀ (X : L2.Cx) (Wx : WX), Okc p P cx k X → Fr X → Takes X Wx → PSs X body (tL p P k Wx cx.sto f.body)) : FnOk prog w K mg base (L2.CX prog w) (k + 1) (p.fa i) fd ps (spF p P (k + 1) i ps.length) := by
  refine F.ok S (fun vs H Q E h => h.1) fun cdv A outer s H vs Q E hr h => ?_
  refine ⟨_, hbody _ (fun cls d _ H => E cls d H) ⟨hK, rfl, S.nd, hsc, S.kind, rfl, hr, fun j y hj hy => ⟨?_, .inl rfl⟩, glo⟩ ⟨?_, passes_of rfl⟩ (takes_of rfl rfl rfl rfl), ?_⟩
  · show scope.names.lookup y = some .local ∨ scope.names.lookup y = some .cell
    rw [hsc]
    exact hloc j y hj hy
  · show (if scope.kind.isAnnotationScope = true then ScopeKind.function else scope.kind) = .function
    rw [S.kind]
    rfl
  · obtain ⟨hl, W, args, g, h⟩ := h
    obtain ⟨ge, own⟩ := g.enter (n := cx.N.length - vs.length)
    have hal : args.length = ps.length := by rw [g.len, List.length_map, hl]
    unfold callF at h
    rw [hP] at h
    simp only at h
    by_cases hok : okArgs f.st args = true
    case neg => rw [if_neg hok] at h; exact h.elim
    case pos =>
      rw [if_pos hok] at h
      have hN : ∀ j d, slot args j = .ow d → j ∉ cx.sto := fun j d hj => hst j ((okArgs_at hok).2 j d hj)
      have en : f.n - f.ps = cx.N.length - vs.length := by rw [hn, hps, hl]
      rw [en] at h
      refine ⟨W, _, ge, ?_⟩
      cases hr : exL (fcOf P) (callF P k) f.body (args ++ List.replicate (cx.N.length - vs.length) Sl.un) with
      | bad => rw [hr] at h; exact h.elim
      | ex n ρ' =>
        rw [hr] at h
        exact fun σ' H' x => h H' (finE_ok g hN x)
      | ok fl ρ' =>
        rw [hr] at h
        cases fl with
        | brk => exact h.elim
        | cnt => exact h.elim
        | nx =>
          intro σ' H' x
          have q := finE_ok g hN x
          exact h .non H' ⟨q.ext, q.trk, q.sub, by rw [Wv.sh]; exact q.good, .non⟩
        | ret v =>
          intro σ' u H' x
          exact finF_ok (f := f) (xP := fun c outs => ∀ H', PostE p H W (vs.map some) args outs H' → E (.ref (p.ca c)) none H') g (by rw [hps, hal]) hN x h
end
end Lv
namespace Lv
open PySem PySem.Spec PyProof.Rows L2
section
variable {p : Pm} {P : List Fn} {cx : Cenv} {k : Nat} {X : L2.Cx} {Wx : WX} {H H' H1 H2 H₀ : Hp} {A A' W W1 : Addr → Prop} {σ σ' : L2.St} {ρ ρ' ρ1 ρ2 : Env} {a b c e : Expr} {ca cb cc ce : CE} {pos : Pos} {d : D} {u : V} {v : Vl}
def tyN : Ty → String
  | .int => "int"
  | .bool => "bool"
  | .str => "str"
  | .list => "list"
  | .tuple => "tuple"
  | .dict => "dict"
def tyD : D → String
  | .non => "NoneType"
  | .bl _ => "bool"
  | .int _ => "int"
  | .str _ => "str"
  | .tup _ => "tuple"
  | .lst _ => "list"
  | .dic _ => "dict"
  | _ => ""
theorem rd_tyX {K : PySem.W.Frag} (hK : p.K = K) (hp : plainD d = true) (h : Rd1 p H A d u) : TyX K H u (.type (tyD d)) := by
  subst hK
  have sq : ∀ {q : Addr} {xs : List V}, SqT p.K H q xs → TyX p.K H (.ref q) (.type "tuple") := fun h => by
    rcases h with (h | ⟨o, h⟩) | ⟨o, its, n, hk, hc, _⟩
    · exact .base (.tup h)
    · exact .fTuple h
    · exact .kTuple hk hc
  rcases h with h | ⟨q, e, t⟩
  · cases h with
    | non => exact .base .non
    | bl b => exact .base (.bl b)
    | int i => exact .base (.int i)
    | str x => exact .base (.str x)
    | tup h _ => exact sq h
    | lst h _ _ => exact .base (.lst h)
    | dk h _ _ =>
      rcases h with h | ⟨o, h⟩
      · exact .base (.dK h)
      · exact .fDict h
    | fn i => cases hp
    | scr h => cases hp
  · subst e
    cases d with
    | lst ds => obtain ⟨xs, h, _⟩ := t; exact .base (.lst h)
    | dic ds => obtain ⟨ks, h, _⟩ := t; exact .base (.dK h)
    | _ => exact t.elim
theorem kit_ty {K : PySem.W.Frag} (t : Ty) (hp : plainD d = true) : PySem.W.kitOne K (.type (tyD d)) (.type (tyN t)) = some (isTy d t) := by
  cases d <;> first | (cases hp; done) | (cases t <;> rfl)
theorem so_isi {x : Str} {t : Ty} {pp pc : Pos} (ok : Okc p P cx k X) (hn : cx.names.lookup ("isinstance" : Str) = some .globalImplicit) (hb : ("isinstance" : Str) ∈ cx.blt) (hx : cx.names.lookup x = some .globalImplicit) (hxb : x ∈ cx.blt) (hxv : bootBuiltins x = some (.type (tyN t))) (hxn : x ≠ "__name__") (hxd : (x == ("__debug__" : Str)) = false)
    (ha : PE X a (tE p P k Wx ca)) (hs : starEach [a, .Name x pc] X.env = (false, eval a X.env) :: starEach [.Name x pc] X.env) (hpl : (backTo pos (starEach [.Name x pc] X.env)).any (·.1) = false) :
    PE X (.Call (.Name ("isinstance" : Str) pp) [a, .Name x pc] [] pos) (tE p P k Wx (.isi ca [t])) := by
  have hc : PE X (.Name x pc) (L2.tC (.ty (tyN t))) := pe_bltn (gl_of ok hx) (ok.glo.blt x hxb) hxv rfl hxn hxd
  refine (pe_callB call_isi (gl_of ok hn) (ok.glo.blt _ hb) boot_isinstance (pa_cons ha (pa_cons hc pa_nil) hs) (he := hs) (hpl := hpl)).imp fun σ H Q ⟨W, ρ, g, h⟩ => ?_
  unfold evE at h
  refine tE.first g h fun v ρ1 u H1 q1 h => ?_
  cases hv : val ρ1 v with
  | none => simp only [hv] at h; exact h.elim
  | some d =>
    simp only [hv] at h
    split at h
    case isFalse => exact h.elim
    case isTrue hp =>
      have rd := q1.vr.read (q1.good.less Wv.base) hv
      refine ⟨u, .ty (tyN t), _, _, _, rfl, .ty _, rd_tyX ok.K hp rd, kit_ty t hp, ?_⟩
      have e : ([t].any (isTy d)) = isTy d t := by simp
      rw [e] at h
      exact h _ _ (.sh q1.e (.bl _))
theorem cut_reps {ds : List D} {vs : List V} (r : Reps p H A ds vs) (lo hi : Option Int) : Reps p H A (cut ds lo hi) (cutV vs lo hi) := by
  unfold cut cutV
  rw [r.length]
  exact (r.drop _).take _
def tO (p : Pm) (P : List Fn) (k : Nat) (Wx : WX) (c : CEs) : TO := fun σ H Q => ∃ W ρ, Good p H W σ ρ ∧ RFin (evO (fcOf P) (callF P k) c ρ) (fun o ρ' => ∀ H', PostE p H W σ ρ ρ' H' → Q o H') (exP p Wx H W σ ρ)
theorem _root_.L2.PO.imp {e : Option Expr} {t t' : TO} (h : PO X e t) (i : ∀ σ H Q, t' σ H Q → t σ H Q) : PO X e t' := ⟨fun pins s σ H Q I q => h.run pins s σ H Q I (i σ H Q q)⟩
theorem so_o0 : PO X none (tO p P k Wx .nil) := po_none.imp fun σ H Q ⟨W, ρ, g, h⟩ => h H (.refl g)
theorem so_o1 {ces : CEs} (he : PE X e (tE p P k Wx ce)) : PO X (some e) (tO p P k Wx (.cons ce ces)) := by
  refine (po_some he).imp fun σ H Q ⟨W, ρ, g, h⟩ => ?_
  unfold evO at h
  refine tE.first g h fun v ρ1 u H1 q1 h => ?_
  split at h
  case h_1 i =>
    have r : Rep p H1 _ (.int i) u := q1.vr
    cases r
    exact ⟨i, rfl, h H1 q1.e⟩
  case h_2 => exact h.elim
theorem VR.e3 {H₀ : Hp} {H3 : Hp} {ρ3 : Env} (x : VR p H₀ W σ ρ1 H1 v u) (g : Good p H1 (Wv W v u) σ ρ1) (q : PostE p H1 (Wv W v u) σ ρ1 ρ3 H3) (hv : val ρ3 v = some d) : Rd1 p H3 (Av W σ ρ3) d u := (x.step g q).read (q.good.less Wv.base) hv
theorem so_sli {lo hi : Option Expr} {clo chi : CEs} {p2 : Pos} (ok : Okc p P cx k X) (ha : PE X a (tE p P k Wx ca)) (hl : PO X lo (tO p P k Wx clo)) (hh : PO X hi (tO p P k Wx chi)) : PE X (.Subscript a (.Slice lo hi none p2) pos) (tE p P k Wx (.sli ca clo chi)) := by
  refine (pe_slice (sl_list.or sl_tupA) ha hl hh).imp fun σ H Q ⟨W, ρ, g, h⟩ => ?_
  unfold evE at h
  refine tE.first g h fun v ρ1 u H1 q1 h => ?_
  refine ⟨_, ρ1, q1.good, h.bind.mono (fun l ρ2 hf H2 q2 => ?_) fun _ _ e => e.step q1.e Wv.base⟩
  refine ⟨_, ρ2, q2.good, hf.bind.mono (fun m ρ3 hf H3 q3 => ?_) fun _ _ e => (e.step q1.e Wv.base).step q2 fun _ w => w⟩
  have q23 := q2.trans q3 fun _ w => w
  have e3 : PostE p H W σ ρ ρ3 H3 := q1.e.trans q23 Wv.base
  split at hf
  case h_2 => exact hf.elim
  case h_1 x hx =>
    obtain ⟨r, er, hq⟩ := hf.ofO
    obtain ⟨d, ed, rfl⟩ := Option.map_eq_some_iff.mp er
    have rd := VR.e3 q1.vr q1.good q23 hx
    rw [← ok.K]
    cases x with
    | lst ds =>
      cases ed
      obtain ⟨q, xs, rfl, hs, r⟩ := rd.lst
      exact .inl ⟨q, xs, rfl, .inl (.inl hs), fun z n => hq _ _ (Made.post (d := .lst _) e3 (.lst n (cut_reps r l m)))⟩
    | tup ds =>
      cases ed
      obtain ⟨q, xs, rfl, hs, r⟩ := rd.tup
      refine .inr ⟨q, xs, rfl, hs, fun hw => ?_, fun _ z n => hq _ _ (Made.post (d := .tup _) e3 (.tup n (cut_reps r l m)))⟩
      have ec : cut ds l m = ds := by
        unfold cut
        rw [← r.length] at hw
        rw [hw.1, hw.2]
        simp
      rw [ec] at hq
      exact hq _ _ (.sh e3 (.tup hs r))
    | _ => cases ed
theorem mt_tixI : MtR X "tuple.index" (fun x xs H Q => ∃ q, ∃ ys : List Int, ∃ z j, x = .ref q ∧ xs = [.int z] ∧ SqT X.K H q (ys.map V.int) ∧ ys[j]? = some z ∧ (∀ m, m < j → ys[m]? ≠ some z) ∧ Q (.int (j : Nat)) H) := by
  intro pins s σ H x xs v us Q I rx rs h
  obtain ⟨q, ys, z, j, rfl, rfl, hq, hy, hno, hQ⟩ := h
  cases rx
  obtain ⟨u, rfl, t, rfl⟩ := vals1 rs
  obtain ⟨its, r, pl, hz⟩ := I.tuple hq
  obtain ⟨⟨cls, dd, dt, sl⟩, ho, hc, n, hd⟩ := pl
  simp only at hc hd
  subst hc
  subst hd
  have hl : its.toArray.size = ys.length := by rw [List.size_toArray, ← r.length, List.length_map]
  have hj : j < its.toArray.size := by rw [hl]; exact (List.getElem?_eq_some_iff.mp hy).1
  have look : ∀ (m : Nat) (hm : m < its.toArray.size), ∃ y t', ys[m]? = some y ∧ its.toArray[m] = Value.int y t' := fun m hm => by
    have hm' : m < ys.length := by rw [← hl]; exact hm
    obtain ⟨w, hw, t', hw'⟩ := r.get (i := m) (x := .int ys[m]) (by simp [hm'])
    have e := (List.getElem?_eq_some_iff.mp hw).2
    exact ⟨ys[m], t', List.getElem?_eq_getElem hm', by rw [← hw', ← e]; simp⟩
  have fl : (ys.map V.int).all flatV = true := by
    rw [List.all_map]
    exact List.all_eq_true.mpr fun _ _ => rfl
  refine call_meets PySem.F.slot_tuple_index ⟨_, ho, rfl⟩ PySem.F.entry_tuple_index (PySem.F.args_tuple_index_2 _ _) (TI.tuple_indexAt q its.toArray n dd sl (.int z t) (eqU (.int z)) j hj ?_ ?_)
    ⟨ho, fun w hw => mem_eqAt (x := .int z) ⟨t, rfl⟩ rfl r fl w (by simpa using hw), ⟨.int (j : Nat), H, I.tok _, ⟨_, rfl⟩, hQ⟩⟩
  · obtain ⟨y, t', h1, h2⟩ := look j hj
    rw [hy] at h1
    cases h1
    rw [h2]
    show (z == z) = true
    exact beq_self_eq_true z
  · intro m hm hmj
    obtain ⟨y, t', h1, h2⟩ := look m hm
    rw [h2]
    show (y == z) = false
    exact beq_eq_false_iff_ne.mpr fun e => hno m hmj (e ▸ h1)
theorem so_tix {x : Str} {ns : List Int} {px apos cpos : Pos} (ok : Okc p P cx k X) (hn : cx.names.lookup x = some .globalImplicit) (ht : cx.tix.lookup x = some ns) (hdb : (x == ("__debug__" : Str)) = false) (ha : PE X e (tE p P k Wx ce))
    (hbase : attributeBase (.Name x px) ("index" : Str) X.env (eval (.Name x px) X.env) = eval (.Name x px) X.env)
    (hfew : ((backTo cpos (starEach [e] X.env)).all (fun x => !x.1) && (backToKw cpos (keywordEach [] X.env)).all (fun x => x.1.isSome)
      && decide ([e].length + ([] : List Keyword).length + (if ([] : List Keyword).isEmpty then 0 else 1) < 30)) = true)
    (hline : (apos.endLine == cpos.line) = true) (hs : starEach [e] X.env = (false, eval e X.env) :: starEach [] X.env) (hplain : (backTo cpos (starEach [] X.env)).any (·.1) = false) :
    PE X (.Call (.Attribute (.Name x px) ("index" : Str) apos) [e] [] cpos) (tE p P k Wx (.tix ns ce)) := by
  obtain ⟨q, hm, ho, hq⟩ := ok.glo.tix x ns ht
  have hx : PE X (.Name x px) (L2.tC (.ref q)) := pe_glob (gl_of ok hn) hm rfl hdb
  refine (pe_bm PySem.F.plainAttrs_tuple PySem.F.slot_tuple_index PySem.F.type_tuple_index mt_tixI hx (pa_cons ha pa_nil hs) hbase hfew hline hs hplain).imp fun σ H Q ⟨W, ρ, g, h⟩ => ?_
  unfold evE at h
  refine ⟨.inr (.inl ⟨rfl, ho⟩), tE.first g h fun v ρ1 u H1 q1 h => ?_⟩
  split at h
  case h_2 => exact h.elim
  case h_1 i =>
    have r : Rep p H1 _ (.int i) u := q1.vr
    cases r
    obtain ⟨r, er, hQ⟩ := h.ofO
    obtain ⟨j, ej, rfl⟩ := Option.map_eq_some_iff.mp er
    obtain ⟨hj, h1, h2⟩ := List.findIdx?_eq_some_iff_getElem.mp ej
    refine ⟨q, ns, i, j, rfl, rfl, hq H1, ?_, fun m hm z => ?_, hQ _ _ (.sh q1.e (.int _))⟩
    · rw [List.getElem?_eq_getElem hj]
      simpa using h1
    · have hm' : m < ns.length := by omega
      have := h2 m hm
      rw [List.getElem?_eq_getElem hm'] at z
      simp only [Option.some.injEq] at z
      simp [z] at this
def tKs (p : Pm) (P : List Fn) (k : Nat) (Wx : WX) : CKs → List (TE × TE)
  | .nil => []
  | .cons a b r => (tE p P k Wx a, tE p P k Wx b) :: tKs p P k Wx r
theorem ks_ok : ∀ {es : CKs} {σ : L2.St} {H : Hp} {W : Addr → Prop} {ρ : Env} {Q : List (V × V) → Hp → Prop}, Good p H W σ ρ → RFin (evKs (fcOf P) (callF P k) es ρ) (fun kvs ρ' => ∀ ks H', PostE p H W σ ρ ρ' H' → Repk p H' (Av W σ ρ') kvs ks → Q (ks.map fun kv => (kV kv.1, kv.2)) H') (exP p Wx H W σ ρ) →
    tPairs (tKs p P k Wx es) σ H Q
  | .nil, σ, H, W, ρ, Q, g, h => by
    unfold evKs at h
    exact h [] H (.refl g) .nil
  | .cons ka va es, σ, H, W, ρ, Q, g, h => by
    unfold evKs at h
    show tE p P k Wx ka σ H _
    refine tE.first g h fun kv ρ1 x H1 q1 h => ?_
    split at h
    case h_2 => exact h.elim
    case h_1 kd =>
      split at h
      case h_2 => exact h.elim
      case h_1 ky hk =>
        have g1 : Good p H1 W σ ρ1 := q1.e.good
        refine ⟨W, ρ1, g1, h.bind.mono (fun vv ρ2 h y H2 q2 => ?_) fun _ _ e => e.step q1.e fun _ w => w⟩
        cases hl : letgo ρ2 vv with
        | none => simp only [hl] at h; exact h.elim
        | some z =>
          obtain ⟨vd, ρ3⟩ := z
          simp only [hl] at h
          obtain ⟨q3, r⟩ := q2.letgo g1 hl
          have q13 := q1.e.trans q3 fun _ w => w
          refine ks_ok (es := es) q3.good (h.bind.mono (fun kvs ρ4 hf ks H4 q4 rk => ?_) fun _ _ e => e.step q13 fun _ w => w)
          have ex : x = kV ky := ky_v (.inl (show Rep p H1 (Av W σ ρ1) kd x from q1.vr)) hk
          have := hf ((ky, y) :: ks) H4 (q13.trans q4 fun _ w => w) (.cons hk (r.keep (q3.good.keeps q4.ext (fun b h => h.2) (Av.less (fun _ w => w) q4.sub))) rk)
          rw [ex]
          exact this
def lenCKs : CKs → Nat
  | .nil => 0
  | .cons _ _ r => lenCKs r + 1
theorem evKs_len {fc : Nat → List Bool} {call : Nat → Env → FR} : ∀ (es : CKs) (ρ ρ' : Env) (kvs : List (D × D)), evKs fc call es ρ = .ok kvs ρ' → kvs.length = lenCKs es
  | .nil, ρ, ρ', kvs, h => by
    unfold evKs at h
    cases h; rfl
  | .cons ka va es, ρ, ρ', kvs, h => by
    unfold evKs at h
    obtain ⟨kv, ρ1, _, h⟩ := R.bind_ok h
    split at h
    case h_2 => cases h
    case h_1 kd =>
      split at h
      case h_2 => cases h
      case h_1 =>
        obtain ⟨vv, ρ2, _, h⟩ := R.bind_ok h
        split at h
        case h_2 => cases h
        case h_1 =>
          obtain ⟨r, ρ4, h1, h2⟩ := R.bind_ok h
          cases h2
          exact congrArg (· + 1) (evKs_len es _ _ _ h1)
theorem so_dict {keys : List (Option Expr)} {values : List Expr} {es : CKs} (hp : PPs X pos keys values (tKs p P k Wx es)) (hall : keys.all (·.isSome) = true) (hl : keys.length = values.length) (h0 : keys ≠ []) (h15 : keys.length ≤ 15) (hes : lenCKs es ≤ 15) : PE X (.Dict keys values pos) (tE p P k Wx (.dict es)) := by
  refine (pe_disp hp hall hl h0 h15).imp fun σ H Q ⟨W, ρ, g, h⟩ q n => ?_
  unfold evE at h
  have g1 := g.laid (o := .dK []) n
  have ext0 : ∀ b o, H b = some o → upd H q (.dK []) b = some o := fun b o e => by rw [upd_ne (ne_of_none e n)]; exact e
  refine ks_ok g1 (h.bind.eq.mono (fun kvs ρ1 ⟨ev, hf⟩ ks H2 q2 rk => ?_) fun m ρ' e H' q' => e H' ⟨fun b o e1 n1 => q'.ext b o (ext0 b o e1) n1, fun b e1 => ?_, q'.sub, q'.good.less fun b w => .inl w⟩)
  · have nq : ¬ Own σ ρ q := fun o => g.own_there o n
    have eq := q2.ext q _ upd_same nq
    refine ⟨eq, ks, rfl, by rw [← repk_length rk, evKs_len es _ _ _ ev]; exact hes, hf _ _ ?_⟩
    have kp : Keeps p H2 (upd H2 q (.dK (mergeK [] ks))) (Av (fun b => W b ∨ b = q) σ ρ1) (fun b => Av W σ ρ1 b ∧ b ≠ q) := by
      refine Keeps.trans (keeps_upd eq (fun _ z => nomatch z) (fun _ _ z => nomatch z) fun b h z => h.1 (.inr z)) (.mono fun b h => ⟨⟨fun w => h.1 (.inl w), h.2⟩, fun z => h.1 (.inr z)⟩)
    have g3 : Good p (upd H2 q (.dK (mergeK [] ks))) (fun b => W b ∨ b = q) σ ρ1 := by
      have kk : Keeps p H2 (upd H2 q (.dK (mergeK [] ks))) (Av (fun b => W b ∨ b = q) σ ρ1) (Av (fun b => W b ∨ b = q) σ ρ1) := keeps_upd eq (fun _ z => nomatch z) (fun _ _ z => nomatch z) fun b h z => h.1 (.inr z)
      refine ⟨q2.good.len, fun b w z => ?_, fun i d h => ?_, fun i d h => ?_, q2.good.inj⟩
      · by_cases hb : b = q
        · rw [hb, upd_same] at z; cases z
        · rw [upd_ne hb] at z; exact q2.good.wt b w z
      · obtain ⟨z, ez, r⟩ := q2.good.sh i d h
        exact ⟨z, ez, r.keep kk⟩
      · obtain ⟨z, ez, nz, t⟩ := q2.good.ow i d h
        exact ⟨z, ez, nz, t.keep kk fun o ho => by rw [upd_ne (fun y => nz (.inr y))]; exact ho⟩
    refine ⟨fun b o e1 n1 => ?_, fun b e1 => ?_, q2.sub, by rw [Wv.ow]; exact g3, q, rfl, n, mergeK [] ks, upd_same, ?_⟩
    · rw [upd_ne (ne_of_none e1 n)]; exact q2.ext b o (ext0 b o e1) n1
    · by_cases hb : b = q
      · rw [hb, upd_same] at e1; cases e1
      · rw [upd_ne hb] at e1
        have := q2.trk b e1
        rw [upd_ne hb] at this; exact this
    · exact (repk_merge rk .nil).keep kp
  · by_cases hb : b = q
    · rw [hb]; exact n
    · have := q'.trk b e1
      rw [upd_ne hb] at this; exact this
end
end Lv
namespace Lv
open PySem PySem.Spec PyProof.Rows L2
def ixOf : List Str → Str → Option Nat
  | [], _ => none
  | y :: r, x => if y == x then some 0 else (ixOf r x).map (· + 1)
theorem ixOf_ok : ∀ {l : List Str} {x : Str} {i : Nat}, ixOf l x = some i → l[i]? = some x
  | [], _, _, h => by cases h
  | y :: r, x, i, h => by
    unfold ixOf at h
    by_cases e : (y == x) = true
    · rw [if_pos e] at h
      cases h
      rw [eq_of_beq e]
      rfl
    · rw [if_neg e] at h
      obtain ⟨j, hj, rfl⟩ := Option.map_eq_some_iff.mp h
      have := ixOf_ok hj
      simpa using this
def fnIx : List (Str × List Str × List D) → Str → Option (Nat × List Str × List D)
  | [], _ => none
  | (y, ps, ds) :: r, x => if y == x then some (0, ps, ds) else (fnIx r x).map fun q => (q.1 + 1, q.2)
theorem fnIx_ok : ∀ {l : List (Str × List Str × List D)} {x : Str} {i : Nat} {ps : List Str} {ds : List D}, fnIx l x = some (i, ps, ds) → l[i]? = some (x, ps, ds)
  | [], _, _, _, _, h => by cases h
  | (y, ps', ds') :: r, x, i, ps, ds, h => by
    unfold fnIx at h
    by_cases e : (y == x) = true
    · rw [if_pos e] at h
      cases h
      rw [eq_of_beq e]
      rfl
    · rw [if_neg e] at h
      obtain ⟨⟨j, q1, q2⟩, hj, e2⟩ := Option.map_eq_some_iff.mp h
      cases e2
      have := fnIx_ok hj
      simpa using this
def notStar : Expr → Bool
  | .Starred _ _ => false
  | _ => true
def isLcomp : Expr → Bool
  | .ListComp _ _ _ _ => true
  | .SetComp _ _ _ _ => true
  | .DictComp _ _ _ _ _ => true
  | _ => false
theorem star_cons {e : Expr} {es : List Expr} {env : PySem.Env} (h : notStar e = true) : starEach (e :: es) env = (false, eval e env) :: starEach es env := by
  cases e <;> first | rfl | cases h
theorem star_any {es : List Expr} {env : PySem.Env} {pos : Pos} (h : es.all notStar = true) : (backTo pos (starEach es env)).any (·.1) = false := by
  induction es with
  | nil => rfl
  | cons e es ih =>
    rw [List.all_cons, Bool.and_eq_true] at h
    rw [star_cons h.1]
    show (false || (backTo pos (starEach es env)).any (·.1)) = false
    rw [ih h.2]
    rfl
theorem asg_cons {e : Expr} {es : List Expr} {env : PySem.Env} (h : notStar e = true) : assignEach (e :: es) env = (false, assign e env) :: assignEach es env := by
  cases e <;> first | rfl | cases h
theorem asg_len {es : List Expr} {env : PySem.Env} (h : es.all notStar = true) : (assignEach es env).length = es.length ∧ (assignEach es env).findIdx? (·.1) = none := by
  induction es with
  | nil => exact ⟨rfl, rfl⟩
  | cons e es ih =>
    rw [List.all_cons, Bool.and_eq_true] at h
    obtain ⟨i1, i2⟩ := ih h.2
    rw [asg_cons h.1]
    refine ⟨congrArg (· + 1) i1, ?_⟩
    rw [List.findIdx?_cons]
    simp [i2]
def csOf (f : Expr → CE) : List Expr → CEs
  | [] => .nil
  | e :: es => .cons (f e) (csOf f es)
theorem csOf_len {f : Expr → CE} : ∀ {es : List Expr}, lenCEs (csOf f es) = es.length
  | [] => rfl
  | _ :: es => congrArg (· + 1) (csOf_len (es := es))
def opC : Operator → Option Bop
  | .Add => some .add | .Sub => some .sub | .Mult => some .mul | .FloorDiv => some .fdiv | .Mod => some .mod | .Pow => some .pow
  | _ => none
theorem opC_ok {o : Operator} {b : Bop} (h : opC o = some b) : o = opOf b := by
  cases o <;> cases h <;> rfl
def cmpC : CmpOp → Cop
  | .Eq => .eq | .NotEq => .ne | .Lt => .lt | .LtE => .le | .Gt => .gt | .GtE => .ge | .In => .isin | .NotIn => .notin | .Is => .is | .IsNot => .isnot
theorem cmpC_ok (o : CmpOp) : cmpOf (cmpC o) = o := by cases o <;> rfl
def cConst : Const → CE
  | .none => .cst .non
  | .bool b => .cst (.bl b)
  | .int i => .cst (.int i)
  | .str x => .cst (.str x)
  | _ => .bad
def plainName (x : Str) : Bool := !(x == ("__debug__" : Str)) && !(x == ("__classdict__" : Str)) && !(x == ("__name__" : Str))
def cName (cx : Cenv) (x : Str) : CE := if plainName x then (match cx.names.lookup x with
  | some .local => (match ixOf cx.N x with | some i => .var i | none => .bad)
  | some .cell => (match ixOf cx.N x with | some i => .var i | none => .bad)
  | some .free => (match ixOf cx.N x with | some i => .var i | none => .bad)
  | some .globalImplicit => (match cx.cons.lookup x with | some d => .glo d | none => .bad)
  | _ => .bad) else .bad
def biTab : List (Str × Nat × Bi) := [("len", 1, .len), ("abs", 1, .abs), ("int", 1, .int), ("sum", 1, .sum), ("max", 1, .max), ("min", 1, .min), ("max", 2, .max2), ("min", 2, .min2), ("sorted", 1, .sorted), ("tuple", 1, .tuple), ("list", 1, .list), ("all", 1, .all), ("dict", 1, .dict)]
def biIx (x : Str) (m : Nat) : List (Str × Nat × Bi) → Option Bi
  | [] => none
  | (y, j, f) :: r => if y == x && j == m then some f else biIx x m r
theorem biIx_mem {x : Str} {m : Nat} {f : Bi} : ∀ {l : List (Str × Nat × Bi)}, biIx x m l = some f → (x, m, f) ∈ l
  | [], h => by cases h
  | (y, j, g) :: r, h => by
    unfold biIx at h
    by_cases e : (y == x && j == m) = true
    · rw [if_pos e] at h
      cases h
      rw [Bool.and_eq_true] at e
      rw [eq_of_beq e.1, eq_of_beq e.2]
      exact List.mem_cons_self
    · rw [if_neg e] at h
      exact List.mem_cons_of_mem _ (biIx_mem h)
theorem biTab_ok : ∀ q ∈ biTab, bootBuiltins q.1 = some (biV q.2.2) ∧ ((∃ id, biV q.2.2 = .builtin id) ∨ ∃ id, biV q.2.2 = .type id) := by
  intro q hq
  simp only [biTab, List.mem_cons, List.not_mem_nil, or_false] at hq
  rcases hq with h | h | h | h | h | h | h | h | h | h | h | h | h <;> subst h <;> (refine ⟨by decide +kernel, ?_⟩; first | exact .inl ⟨_, rfl⟩ | exact .inr ⟨_, rfl⟩)
def tyTab : List (Str × Ty) := [("int", .int), ("bool", .bool), ("str", .str), ("list", .list), ("tuple", .tuple), ("dict", .dict)]
theorem tyTab_ok : ∀ q ∈ tyTab, bootBuiltins q.1 = some (.type (tyN q.2)) := by
  intro q hq
  simp only [tyTab, List.mem_cons, List.not_mem_nil, or_false] at hq
  rcases hq with h | h | h | h | h | h <;> subst h <;> decide +kernel
theorem lookup_mem {α : Type} {x : Str} {v : α} : ∀ {l : List (Str × α)}, l.lookup x = some v → (x, v) ∈ l
  | [], h => by cases h
  | (y, w) :: r, h => by
    rw [List.lookup_cons] at h
    cases e : x == y with
    | true =>
      rw [e] at h
      cases h
      rw [eq_of_beq e]
      exact List.mem_cons_self
    | false =>
      rw [e] at h
      exact List.mem_cons_of_mem _ (lookup_mem h)
def effNames (scope : Scope) (names : List (Str × NameKind)) : List (Str × NameKind) := scope.names.map fun (n, k) => if (k == .free && names.lookup n == some .cell) then (n, .cell) else (n, k)
def ownOf (N : List Str) : List (Str × NameKind) → List (Str × Nat)
  | [] => []
  | (x, k) :: r => match k with
    | .local => (match ixOf N x with | some i => (x, i) :: ownOf N r | none => ownOf N r)
    | .cell => (match ixOf N x with | some i => (x, i) :: ownOf N r | none => ownOf N r)
    | _ => ownOf N r
def blkCx (cx : Cenv) (scope : Scope) (own : List Nat) : Cenv := { cx with names := effNames scope cx.names, sto := own }
def blkCn (N : List Str) (names : List (Str × NameKind)) (scope : Scope) (own : List (Str × Nat)) : Bool :=
  (match scope.kind with | .function => true | _ => false) && (scope.names.all fun y => decide (scope.names.lookup y.1 = some y.2)) && (own.all fun p => decide (N[p.2]? = some p.1)) &&
    (scope.names.all fun y => match y.2 with
      | .free => (match names.lookup y.1 with | some .cell => true | some .free => true | _ => false)
      | .local => decide (y.1 ∈ own.map (·.1)) || decide (y.1 ∉ N)
      | .cell => decide (y.1 ∈ own.map (·.1)) || decide (y.1 ∉ N)
      | _ => true)
def stoB (N : List Str) (names snames : List (Str × NameKind)) (own : List Nat) : Bool := own.all fun i => match N[i]? with
  | some x => (match names.lookup x with | some .local => true | some .cell => (snames.lookup x == some .cell) | _ => false)
  | none => true
mutual
def cT (cx : Cenv) : Nat → Expr → Option Tg
  | 0, _ => none
  | n + 1, e => match e with
    | .Name x _ => (ixOf cx.N x).bind fun i => if cx.sto.contains i then some (.nm i) else none
    | .Tuple es _ _ => if es.all notStar then (cTs cx n es).map .tup else none
    | _ => none
def cTs (cx : Cenv) : Nat → List Expr → Option (List Tg)
  | 0, _ => none
  | _ + 1, [] => some []
  | n + 1, e :: es => match cT cx n e, cTs cx n es with
    | some t, some ts => some (t :: ts)
    | _, _ => none
end
def isSet : Expr → Bool
  | .Set _ _ _ => true
  | _ => false
def boOf (f : Expr → CE) (o : BoolOp) : List Expr → CE
  | [] => .bad
  | e :: es => match es with
    | [] => f e
    | _ :: _ => (match o with
      | .And => .and (f e) (boOf f o es)
      | .Or => .or (f e) (boOf f o es))
def optOf (f : Expr → CE) : Option Expr → CEs
  | none => .nil
  | some e => .cons (f e) .nil
def ksOf (f : Expr → CE) : List (Option Expr) → List Expr → CKs
  | some k :: ks, v :: vs => .cons (f k) (f v) (ksOf f ks vs)
  | _, _ => .nil
def cOwn (f : Expr → CE) (cx : Cenv) (x : Str) (es : List Expr) : CE := match fnIx cx.fns x with
  | some (i, ps, ds) => if decide (es.length ≤ ps.length) && decide (ps.length ≤ es.length + ds.length) && ((ds.drop (es.length + ds.length - ps.length)).mapM cstV).isSome then .call i (appC (csOf f es) (ds.drop (es.length + ds.length - ps.length))) else .bad
  | none => .bad
def cIsi (f : Expr → CE) (cx : Cenv) (es : List Expr) : CE := match es with
  | [a, .Name c _] => (match tyTab.lookup c with
    | some t => if plainName c && cx.blt.contains c && (cx.names.lookup c == some .globalImplicit) then .isi (f a) [t] else .bad
    | none => .bad)
  | _ => .bad
def cBlt (f : Expr → CE) (x : Str) (es : List Expr) : CE := match biIx x es.length biTab with
  | some b => .bi b (csOf f es)
  | none => .bad
def cCall (f : Expr → CE) (cx : Cenv) (x : Str) (es : List Expr) : CE :=
  if plainName x && es.all notStar && (cx.names.lookup x == some .globalImplicit) then
    (if (fnIx cx.fns x).isSome then cOwn f cx x es
    else if es.isEmpty then .bad
    else if cx.blt.contains x then (if x == ("isinstance" : Str) then cIsi f cx es else cBlt f x es)
    else if cx.imp.contains (x, "math.gcd") then .bi .gcd (csOf f es) else .bad)
  else .bad
def cMeth (f : Expr → CE) (cx : Cenv) (x m : Str) (es : List Expr) : CE := match es with
  | [e] => if notStar e then
      (if m == ("append" : Str) then (match cName cx x with | .var i => .app i (f e) | _ => .bad)
      else if m == ("index" : Str) then (if plainName x && (cx.names.lookup x == some .globalImplicit) then (match cx.tix.lookup x with | some ns => .tix ns (f e) | none => .bad) else .bad)
      else .bad) else .bad
  | [] => if m == ("pop" : Str) then (match cName cx x with | .var i => .pop i | _ => .bad) else .bad
  | _ => .bad
def cTest (f : Expr → CE) : List Expr → Option CEs
  | [] => some .nil
  | [c] => some (.cons (f c) .nil)
  | _ => none
def cI (f : Expr → CE) (cx : Cenv) (tg e : Expr) : CI := match e with
  | .Call (.Name x _) es [] _ => if (cx.names.lookup x == some .globalImplicit) && cx.blt.contains x && es.all notStar then
      (if x == ("range" : Str) then (match es with
        | [_] => .rng (csOf f es)
        | [_, _] => .rng (csOf f es)
        | [_, _, _] => .rng (csOf f es)
        | _ => .val .bad)
      else if x == ("enumerate" : Str) then (match tg with
        | .Tuple _ _ _ => (match es with
          | [_] => .enum (csOf f es)
          | _ => .val .bad)
        | _ => .val .bad)
      else if x == ("zip" : Str) then (match tg with
        | .Tuple _ _ _ => (match es with
          | [_, _] => .zip (csOf f es)
          | _ => .val .bad)
        | _ => .val .bad)
      else .val (f e)) else .val (f e)
  | _ => .val (f e)
def lcOk (cx : Cenv) (scope : Scope) : Bool := blkCn cx.N cx.names scope (ownOf cx.N scope.names) && stoB cx.N (effNames scope cx.names) scope.names ((ownOf cx.N scope.names).map (·.2))
def lcCx (cx : Cenv) (scope : Scope) : Cenv := blkCx cx scope ((ownOf cx.N scope.names).map (·.2))
def cLc (f : Cenv → Expr → CE) (cx : Cenv) (elt tg iter : Expr) (ifs : List Expr) (scope : Scope) : CE :=
  if lcOk cx scope && !isSet iter then
    (match cT (lcCx cx scope) 9 tg, cTest (f (lcCx cx scope)) ifs with
    | some t, some cs => .lc ((ownOf cx.N scope.names).map (·.2)) t (cI (f cx) cx tg iter) cs (f (lcCx cx scope) elt)
    | _, _ => .bad)
  else .bad
def subB (l r : List Nat) : Bool := l.all fun i => r.contains i
def cLc2 (f : Cenv → Expr → CE) (cx : Cenv) (elt tg iter tg1 iter1 : Expr) (ifs1 : List Expr) (scope : Scope) : CE :=
  if lcOk cx scope && !isSet iter && !isSet iter1 then
    (match cT (lcCx cx scope) 9 tg, cT (lcCx cx scope) 9 tg1, cTest (f (lcCx cx scope)) ifs1 with
    | some t, some t1, some cs => .lc2 ((ownOf cx.N scope.names).map (·.2)) (tgN t1) t (cI (f cx) cx tg iter) t1 (cI (f (lcCx cx scope)) (lcCx cx scope) tg1 iter1) cs (f (lcCx cx scope) elt)
    | _, _, _ => .bad)
  else .bad
def cE : Nat → Cenv → Expr → CE
  | 0, _, _ => .bad
  | n + 1, cx, e => match e with
    | .Name x _ => cName cx x
    | .Constant c _ _ => cConst c
    | .BinOp a o b _ => (match opC o with | some o => .bop o (cE n cx a) (cE n cx b) | none => .bad)
    | .UnaryOp o a _ => (match o with | .USub => .neg (cE n cx a) | .Not => .not (cE n cx a) | _ => .bad)
    | .IfExp c a b _ => .ite (cE n cx c) (cE n cx a) (cE n cx b)
    | .BoolOp o es _ => boOf (fun e => cE n cx e) o es
    | .Compare a os bs _ => (match os, bs with
      | [o], [b] => if behindInMarks o b then .bad else .cmp (cmpC o) (cE n cx a) (cE n cx b)
      | [o, o'], [b, c] => if lastMarks [o, o'] [b, c] then .bad else .chn (cmpC o) (cmpC o') (cE n cx a) (cE n cx b) (cE n cx c)
      | _, _ => .bad)
    | .Tuple es _ _ => if es.all notStar && fits es.length then .tup (csOf (fun e => cE n cx e) es) else .bad
    | .List es _ => if es.all notStar && fits es.length then .lst (csOf (fun e => cE n cx e) es) else .bad
    | .Subscript a b _ => (match b with
      | .Slice lo hi st _ => (match st with | none => .sli (cE n cx a) (optOf (fun e => cE n cx e) lo) (optOf (fun e => cE n cx e) hi) | some _ => .bad)
      | _ => .idx (cE n cx a) (cE n cx b))
    | .Dict ks vs _ => if ks.all (·.isSome) && decide (ks.length = vs.length) && !ks.isEmpty && decide (ks.length ≤ 15) then .dict (ksOf (fun e => cE n cx e) ks vs) else .bad
    | .Call f es kws pos => (match kws with
      | [] => (match f with
        | .Name x _ => cCall (fun e => cE n cx e) cx x es
        | .Attribute o m apos => (match o with
          | .Name x _ => if (apos.endLine == pos.line) then cMeth (fun e => cE n cx e) cx x m es else .bad
          | _ => .bad)
        | _ => .bad)
      | _ :: _ => .bad)
    | .ListComp elt gens scope _ => (match gens with
      | [⟨tg, iter, ifs, isa⟩] => if isa == 0 then cLc (fun cx e => cE n cx e) cx elt tg iter ifs scope else .bad
      | [⟨tg, iter, ifs, isa⟩, ⟨tg1, iter1, ifs1, isa1⟩] => if isa == 0 && isa1 == 0 && ifs.isEmpty then cLc2 (fun cx e => cE n cx e) cx elt tg iter tg1 iter1 ifs1 scope else .bad
      | _ => .bad)
    | _ => .bad
end Lv
namespace Lv
open PySem PySem.Spec PyProof.Rows L2
section
variable {p : Pm} {P : List Fn} {cx : Cenv} {k : Nat} {X : L2.Cx} {Wx : WX} {pos : Pos}
theorem so_bad {e : Expr} : PE X e (tE p P k Wx .bad) := ⟨fun _ _ _ _ _ _ ⟨W, ρ, g, h⟩ => by unfold evE at h; exact h.elim⟩
theorem so_badT {e : Expr} : PT X e (tT p P k Wx .bad) := ⟨fun _ _ _ _ _ _ ⟨W, ρ, g, h⟩ => by unfold evE at h; exact h.elim⟩
theorem takes_no : Takes X noW := fun _ _ ⟨_, _, _, _, _, _, _, _, _, _, _, _, _, _, _, _, w⟩ => w.elim
theorem plainName_ok {x : Str} (h : plainName x = true) : (x == ("__debug__" : Str)) = false ∧ (x == ("__classdict__" : Str)) = false ∧ x ≠ "__name__" := by
  unfold plainName at h
  simp only [Bool.and_eq_true, Bool.not_eq_true'] at h
  exact ⟨h.1.1, h.1.2, fun e => by rw [e] at h; exact absurd h.2 (by decide)⟩
theorem so_name {x : Str} (ok : Okc p P cx k X) : PE X (.Name x pos) (tE p P k Wx (cName cx x)) := by
  unfold cName
  split
  case isFalse => exact so_bad
  case isTrue h =>
    obtain ⟨h1, h2, h3⟩ := plainName_ok h
    split
    · rename_i hl
      split
      · rename_i i hi
        exact so_var ok (ixOf_ok hi) (.inl hl) h1 h2
      · exact so_bad
    · rename_i hl
      split
      · rename_i i hi
        exact so_var ok (ixOf_ok hi) (.inr (.inl hl)) h1 h2
      · exact so_bad
    · rename_i hl
      split
      · rename_i i hi
        exact so_var ok (ixOf_ok hi) (.inr (.inr hl)) h1 h2
      · exact so_bad
    · rename_i hl
      split
      · rename_i d hd
        exact so_glo ok hl hd h1
      · exact so_bad
    · exact so_bad
theorem so_const {c : Const} {j : Nat} : PE X (.Constant c j pos) (tE p P k Wx (cConst c)) := by
  cases c with
  | none => exact so_cst pe_non rfl
  | bool b => exact so_cst pe_bl rfl
  | int i => exact so_cst pe_int rfl
  | str x => exact so_cst pe_str rfl
  | _ => exact so_bad
theorem so_iteT {c a b : Expr} {cc ca cb : CE} (hc : PT X c (tT p P k Wx cc)) (ha : PT X a (tT p P k Wx ca)) (hb : PT X b (tT p P k Wx cb)) : PT X (.IfExp c a b pos) (tT p P k Wx (.ite cc ca cb)) := by
  refine ⟨fun pins s σ H Q I ⟨W, ρ, g, h⟩ => ?_⟩
  have h' : RFin ((evE (fcOf P) (callF P k) cc ρ).bind fun v ρ1 => (rTruth v ρ1).bind fun kk ρ2 => if kk then (evE (fcOf P) (callF P k) ca ρ2).bind rTruth else (evE (fcOf P) (callF P k) cb ρ2).bind rTruth) (fun b ρ' => ∀ H', PostE p H W σ ρ ρ' H' → Q b H') (exP p Wx H W σ ρ) := by
    unfold evE at h
    rw [R.bind_assoc] at h
    refine Eq.mp ?_ h
    congr 2
    funext v ρ1
    rw [R.bind_assoc]
    congr 1
    funext kk ρ2
    cases kk <;> rfl
  have key : tT p P k Wx cc σ H fun b H1 => if b = true then tT p P k Wx ca σ H1 Q else tT p P k Wx cb σ H1 Q :=
    tT.first (F := fun v kk ρ2 => if kk then (evE (fcOf P) (callF P k) ca ρ2).bind rTruth else (evE (fcOf P) (callF P k) cb ρ2).bind rTruth) g h' fun v b ρ1 H1 q1 h _ => by
      cases b with
      | true => exact ⟨W, ρ1, q1.good, h.mono (fun v2 ρ2 hf H2 q2 => hf H2 (q1.trans q2 fun _ w => w)) fun n ρ' e => e.step q1 fun _ w => w⟩
      | false => exact ⟨W, ρ1, q1.good, h.mono (fun v2 ρ2 hf H2 q2 => hf H2 (q1.trans q2 fun _ w => w)) fun n ρ' e => e.step q1 fun _ w => w⟩
  show wpAny _ _ (do if ← isTrue c X.env (eval c X.env) then isTrue a X.env (eval a X.env) else isTrue b X.env (eval b X.env)) _ _ _
  refine wpAny_bind (thn (hc.run pins s σ H _ I key) fun b s1 ⟨H1, I1, q1⟩ => ?_)
  cases b with
  | true => exact ha.run pins s1 σ H1 Q I1 q1
  | false => exact hb.run pins s1 σ H1 Q I1 q1
theorem so_and1 {a : Expr} {o : BoolOp} {ca : CE} (ha : PE X a (tE p P k Wx ca)) : PE X (.BoolOp o [a] pos) (tE p P k Wx ca) := ⟨fun pins s σ H Q I h => ha.run pins s σ H Q I h⟩
theorem bname_eff {sc scope : Scope} {names : List (Str × NameKind)} (h : sc.names = names) (hk : sc.kind = .function) : (relS scope sc).names = effNames scope names := by
  unfold relS effNames
  subst h
  rw [hk]
  refine List.map_congr_left fun y _ => ?_
  obtain ⟨n, kk⟩ := y
  have e : (ScopeKind.function == ScopeKind.function) = true := rfl
  simp only [e, Bool.and_true]
theorem stoB_ok {N : List Str} {names snames : List (Str × NameKind)} {own : List Nat} (h : stoB N names snames own = true) : ∀ i x, i ∈ own → N[i]? = some x → (names.lookup x = some .local) ∨ (names.lookup x = some .cell ∧ snames.lookup x = some .cell) := by
  intro i x hi hx
  have := List.all_eq_true.mp h i hi
  rw [hx] at this
  simp only at this
  split at this
  · rename_i e; exact .inl e
  · rename_i e; exact .inr ⟨e, by simpa using this⟩
  · cases this
theorem blk_okc {scope : Scope} {own : List Nat} {s : Shared} {H : Hp} {C : Addr} {cl : List (Str × Addr)} {fp : List Addr} (ok : Okc p P cx k X) (hk : scope.kind = .function) (hs : stoB cx.N (effNames scope cx.names) scope.names own = true) : Okc p P (blkCx cx scope own) k (X.blk s H scope (compEnvC scope cl C X.env) fp) := by
  refine ⟨ok.K, ok.N, ok.nd, bname_eff ok.sc ok.kd, hk, ok.calm, ok.room, fun i x hi hx => ?_, ⟨ok.glo.fns, ok.glo.cons, ok.glo.blt, ok.glo.imp, ok.glo.tix⟩⟩
  have e := bname_eff (scope := scope) ok.sc ok.kd
  rcases stoB_ok hs i x hi hx with h | ⟨h1, h2⟩
  · refine ⟨.inl ?_, .inr ?_⟩
    · show (relS scope X.env.scope).names.lookup x = _
      rw [e]; exact h
    · show (relS scope X.env.scope).names.lookup x = _
      rw [e]; exact h
  · refine ⟨.inr ?_, .inl ?_⟩
    · show (relS scope X.env.scope).names.lookup x = _
      rw [e]; exact h1
    · show (scope.names.lookup x == some .cell) = true
      rw [h2]; rfl
theorem blkCn_ok {scope : Scope} {own : List (Str × Nat)} (ok : Okc p P cx k X) (h : blkCn cx.N cx.names scope own = true) : BlkOk X.N X.env.scope scope own ∧ scope.kind = .function := by
  have h' : blkC X.N X.env.scope scope own = true := by
    rw [ok.N]
    unfold blkC
    rw [ok.sc]
    exact h
  refine ⟨blkOk_by h', ?_⟩
  exact (blkOk_by h').kind
mutual
theorem so_T (ok : Okc p P cx k X) : ∀ {n : Nat} {e : Expr} {t : Tg}, cT cx n e = some t → PG X e (tG p t) ∧ (∀ i ∈ tgN t, i ∈ cx.sto) ∧ notStar e = true
  | 0, _, _, h => by simp [cT] at h
  | n + 1, e, t, h => by
    unfold cT at h
    split at h
    · obtain ⟨i, hi, h2⟩ := Option.bind_eq_some_iff.mp h
      split at h2
      · rename_i hc
        cases h2
        have hm : i ∈ cx.sto := by simpa using hc
        refine ⟨so_nm ok (ixOf_ok hi) hm, fun j hj => ?_, rfl⟩
        have : j = i := by simpa [tgN] using hj
        rw [this]; exact hm
      · cases h2
    · split at h
      · rename_i hst
        obtain ⟨ts, h1, rfl⟩ := Option.map_eq_some_iff.mp h
        obtain ⟨g, hN, hl⟩ := so_Ts ok h1 hst
        obtain ⟨l1, l2⟩ := asg_len (env := X.env) hst
        exact ⟨so_gtup ok g (by rw [l1, hl]) l2, fun j hj => hN j (by unfold tgN at hj; exact hj), rfl⟩
      · cases h
    · cases h
theorem so_Ts (ok : Okc p P cx k X) : ∀ {n : Nat} {es : List Expr} {ts : List Tg}, cTs cx n es = some ts → es.all notStar = true → PGs X es (tGs p ts) ∧ (∀ i ∈ tgNs ts, i ∈ cx.sto) ∧ es.length = ts.length
  | 0, _, _, h, _ => by simp [cTs] at h
  | n + 1, [], ts, h, _ => by
    unfold cTs at h
    cases h
    exact ⟨so_gnil, fun i hi => by simp [tgNs] at hi, rfl⟩
  | n + 1, e :: es, ts, h, hst => by
    unfold cTs at h
    split at h
    · rename_i t ts' h1 h2
      cases h
      rw [List.all_cons, Bool.and_eq_true] at hst
      obtain ⟨g1, n1, _⟩ := so_T ok h1
      obtain ⟨g2, n2, l2⟩ := so_Ts ok h2 hst.2
      refine ⟨so_gcons g1 g2 (by rw [asg_cons hst.1]; rfl), fun i hi => ?_, congrArg (· + 1) l2⟩
      unfold tgNs at hi
      exact (List.mem_append.mp hi).elim (n1 i) (n2 i)
    · cases h
end
mutual
theorem cT_sto : ∀ {n : Nat} {e : Expr} {t : Tg}, cT cx n e = some t → ∀ i ∈ tgN t, i ∈ cx.sto
  | 0, _, _, h => by simp [cT] at h
  | n + 1, e, t, h => by
    unfold cT at h
    split at h
    · obtain ⟨i, hi, h2⟩ := Option.bind_eq_some_iff.mp h
      split at h2
      · rename_i hc
        cases h2
        have hm : i ∈ cx.sto := by simpa using hc
        intro j hj
        have : j = i := by simpa [tgN] using hj
        rw [this]; exact hm
      · cases h2
    · split at h
      · obtain ⟨ts, h1, rfl⟩ := Option.map_eq_some_iff.mp h
        exact fun j hj => cTs_sto h1 j (by unfold tgN at hj; exact hj)
      · cases h
    · cases h
theorem cTs_sto : ∀ {n : Nat} {es : List Expr} {ts : List Tg}, cTs cx n es = some ts → ∀ i ∈ tgNs ts, i ∈ cx.sto
  | 0, _, _, h => by simp [cTs] at h
  | n + 1, [], ts, h => by
    unfold cTs at h
    cases h
    exact fun i hi => by simp [tgNs] at hi
  | n + 1, e :: es, ts, h => by
    unfold cTs at h
    split at h
    · rename_i t ts' h1 h2
      cases h
      intro i hi
      unfold tgNs at hi
      exact (List.mem_append.mp hi).elim (cT_sto h1 i) (cTs_sto h2 i)
    · cases h
end
section
variable {f : Expr → CE} {es : List Expr}
def Tells (p : Pm) (P : List Fn) (k : Nat) (X : L2.Cx) (Wx : WX) (f : Expr → CE) : Prop := ∀ e, PE X e (tE p P k Wx (f e))
theorem vs_of (h : Tells p P k X Wx f) : ∀ {es : List Expr}, es.all notStar = true → PA X es (tVs p P k Wx (csOf f es))
  | [], _ => vs_nil
  | e :: es, hs => by
    rw [List.all_cons, Bool.and_eq_true] at hs
    exact vs_cons (h e) (vs_of h hs.2) (star_cons hs.1)
theorem ds_of (h : Tells p P k X Wx f) : ∀ {es : List Expr}, es.all notStar = true → PA X es (tDs p P k Wx (csOf f es))
  | [], _ => ds_nil
  | e :: es, hs => by
    rw [List.all_cons, Bool.and_eq_true] at hs
    exact ds_cons (h e) (ds_of h hs.2) (star_cons hs.1)
theorem ps_of (h : Tells p P k X Wx f) : ∀ {es : List Expr}, es.all notStar = true → PA X es (tPs p P k Wx (csOf f es))
  | [], _ => ps_nil0
  | e :: es, hs => by
    rw [List.all_cons, Bool.and_eq_true] at hs
    exact ps_cons0 (h e) (ps_of h hs.2) (star_cons hs.1)
theorem bo_of (ok : Okc p P cx k X) (h : Tells p P k X Wx f) (o : BoolOp) : ∀ {es : List Expr}, PE X (.BoolOp o es pos) (tE p P k Wx (boOf f o es))
  | [] => so_bad
  | [e] => so_and1 (h e)
  | e :: e2 :: es => by
    have ih := bo_of ok h o (es := e2 :: es)
    cases o with
    | And => exact so_and ok (h e) ih
    | Or => exact so_or ok (h e) ih
theorem boT_of (h : ∀ e, PT X e (tT p P k Wx (f e))) (o : BoolOp) : ∀ {e : Expr} {es : List Expr}, PW X (.BoolOp o (e :: es) pos) (tT p P k Wx (boOf f o (e :: es)))
  | e, [] => by
    cases o with
    | And => exact pw_and1 (h e)
    | Or => exact pw_or1 (h e)
  | e, e2 :: es => by
    have ih := boT_of h o (e := e2) (es := es)
    cases o with
    | And => exact so_andT (h e) ih
    | Or => exact so_orT (h e) ih
theorem opt_of (h : Tells p P k X Wx f) : ∀ {e : Option Expr}, PO X e (tO p P k Wx (optOf f e))
  | none => so_o0
  | some e => so_o1 (h e)
theorem ks_of (h : Tells p P k X Wx f) : ∀ {ks : List (Option Expr)} {vs : List Expr}, ks.all (·.isSome) = true → ks.length = vs.length → PPs X pos ks vs (tKs p P k Wx (ksOf f ks vs)) ∧ lenCKs (ksOf f ks vs) = ks.length
  | [], [], _, _ => ⟨pps_nil, rfl⟩
  | [], _ :: _, _, h => by cases h
  | _ :: _, [], _, h => by cases h
  | none :: _, _ :: _, h, _ => by cases h
  | some kx :: ks, v :: vs, h1, h2 => by
    rw [List.all_cons, Bool.and_eq_true] at h1
    obtain ⟨a, b⟩ := ks_of h (ks := ks) (vs := vs) h1.2 (by simpa using h2)
    exact ⟨pps_cons (h kx) (h v) a, congrArg (· + 1) b⟩
theorem own_of (ok : Okc p P cx k X) (tk : Takes X Wx) (h : Tells p P k X Wx f) {x : Str} {pp : Pos} (hp : plainName x = true) (hs : es.all notStar = true) (hn : cx.names.lookup x = some .globalImplicit) : PE X (.Call (.Name x pp) es [] pos) (tE p P k Wx (cOwn f cx x es)) := by
  obtain ⟨h1, h2, h3⟩ := plainName_ok hp
  unfold cOwn
  split
  case h_2 => exact so_bad
  case h_1 i ps ds hi =>
    split
    case isFalse => exact so_bad
    case isTrue hc =>
      simp only [Bool.and_eq_true, decide_eq_true_eq] at hc
      obtain ⟨⟨c1, c2⟩, c3⟩ := hc
      obtain ⟨dvs, hd⟩ := Option.isSome_iff_exists.mp c3
      cases es with
      | nil => exact so_call0 ok tk (m := ([] : List Expr).length + ds.length - ps.length) hn (fnIx_ok hi) (by simp) hd (by rw [List.length_drop]; simp only [List.length_nil] at *; omega) h1
      | cons e es =>
        have hs' := hs
        rw [List.all_cons, Bool.and_eq_true] at hs
        exact so_call ok tk (m := (e :: es).length + ds.length - ps.length) hn (fnIx_ok hi) (by omega) hd (by rw [csOf_len, List.length_drop]; omega) (vs_of h hs') h1 (star_cons hs.1) (star_any hs.2)
theorem isi_of (ok : Okc p P cx k X) (h : Tells p P k X Wx f) {pp : Pos} (hb : ("isinstance" : Str) ∈ cx.blt) (hs : es.all notStar = true) (hn : cx.names.lookup ("isinstance" : Str) = some .globalImplicit) : PE X (.Call (.Name ("isinstance" : Str) pp) es [] pos) (tE p P k Wx (cIsi f cx es)) := by
  unfold cIsi
  split
  case h_2 => exact so_bad
  case h_1 a c pc =>
    split
    case h_2 => exact so_bad
    case h_1 t ht =>
      split
      case isFalse => exact so_bad
      case isTrue hc =>
        simp only [Bool.and_eq_true, List.contains_iff_mem, beq_iff_eq] at hc
        obtain ⟨⟨c1, c2⟩, c3⟩ := hc
        obtain ⟨h1, h2, h3⟩ := plainName_ok c1
        rw [List.all_cons, Bool.and_eq_true] at hs
        exact so_isi ok hn hb c3 c2 (tyTab_ok _ (lookup_mem ht)) h3 h1 (h a) (star_cons hs.1) (star_any hs.2)
theorem blt_of (ok : Okc p P cx k X) (h : Tells p P k X Wx f) {x : Str} {pp : Pos} (hp : plainName x = true) (hb : x ∈ cx.blt) (hs : es.all notStar = true) (hne : es.isEmpty = false) (hn : cx.names.lookup x = some .globalImplicit) : PE X (.Call (.Name x pp) es [] pos) (tE p P k Wx (cBlt f x es)) := by
  obtain ⟨h1, h2, h3⟩ := plainName_ok hp
  unfold cBlt
  split
  case h_2 => exact so_bad
  case h_1 b hi =>
    obtain ⟨hv, hid⟩ := biTab_ok _ (biIx_mem hi)
    cases es with
    | nil => cases hne
    | cons e es =>
      have hs' := hs
      rw [List.all_cons, Bool.and_eq_true] at hs
      rcases hid with ⟨id, hid⟩ | ⟨id, hid⟩
      · rw [hid] at hv
        exact so_biB ok b hid hn hb hv (vs_of h hs') h3 h1 (star_cons hs.1) (star_any hs.2)
      · rw [hid] at hv
        exact so_biT ok b hid hn hb hv (vs_of h hs') h3 h1 (star_cons hs.1) (star_any hs.2)
theorem call_of (ok : Okc p P cx k X) (tk : Takes X Wx) (h : Tells p P k X Wx f) {x : Str} {pp : Pos} : PE X (.Call (.Name x pp) es [] pos) (tE p P k Wx (cCall f cx x es)) := by
  unfold cCall
  split
  case isFalse => exact so_bad
  case isTrue hc =>
    simp only [Bool.and_eq_true, Bool.not_eq_true', beq_iff_eq] at hc
    obtain ⟨⟨c1, c2⟩, c4⟩ := hc
    split
    · exact own_of ok tk h c1 c2 c4
    split
    · exact so_bad
    · rename_i c3
      have c3 : es.isEmpty = false := by simpa using c3
      split
      · rename_i hb
        have hb : x ∈ cx.blt := by simpa using hb
        split
        · rename_i hx
          have hx := eq_of_beq hx
          subst hx
          exact isi_of ok h hb c2 c4
        · exact blt_of ok h c1 hb c2 c3 c4
      · split
        · rename_i hb
          have hb : (x, "math.gcd") ∈ cx.imp := by simpa using hb
          obtain ⟨h1, h2, h3⟩ := plainName_ok c1
          cases es with
          | nil => cases c3
          | cons e es =>
            have hs' := c2
            rw [List.all_cons, Bool.and_eq_true] at c2
            exact so_biI ok .gcd rfl c4 hb (vs_of h hs') h1 (star_cons c2.1) (star_any c2.2)
        · exact so_bad
theorem few_of {e : Expr} {env : PySem.Env} {cpos : Pos} (h : notStar e = true) : ((backTo cpos (starEach [e] env)).all (fun x => !x.1) && (backToKw cpos (keywordEach [] env)).all (fun x => x.1.isSome)
      && decide ([e].length + ([] : List Keyword).length + (if ([] : List Keyword).isEmpty then 0 else 1) < 30)) = true := by
  rw [star_cons h]
  rfl
theorem meth_of (ok : Okc p P cx k X) (h : Tells p P k X Wx f) {x m : Str} {px apos : Pos} (hl : (apos.endLine == pos.line) = true) : PE X (.Call (.Attribute (.Name x px) m apos) es [] pos) (tE p P k Wx (cMeth f cx x m es)) := by
  unfold cMeth
  split
  · rename_i e
    split
    case isFalse => exact so_bad
    case isTrue hs =>
      split
      · rename_i hm
        have hm := eq_of_beq hm
        subst hm
        split
        · rename_i i hi
          have hx : PE X (.Name x px) (tE p P k Wx (cName cx x)) := so_name ok
          rw [hi] at hx
          exact so_app ok hx (ds_cons (h e) ds_nil (star_cons hs)) rfl (few_of hs) hl (star_cons hs) rfl
        · exact so_bad
      · split
        · rename_i hm
          have hm := eq_of_beq hm
          subst hm
          split
          case isFalse => exact so_bad
          case isTrue hc =>
            simp only [Bool.and_eq_true, beq_iff_eq] at hc
            obtain ⟨h1, h2, h3⟩ := plainName_ok hc.1
            split
            · rename_i ns ht
              exact so_tix ok hc.2 ht h1 (h e) rfl (few_of hs) hl (star_cons hs) rfl
            · exact so_bad
        · exact so_bad
  · split
    · rename_i hm
      have hm := eq_of_beq hm
      subst hm
      split
      · rename_i i hi
        have hx : PE X (.Name x px) (tE p P k Wx (cName cx x)) := so_name ok
        rw [hi] at hx
        exact so_pop ok hx rfl hl
      · exact so_bad
    · exact so_bad
  · exact so_bad
theorem iter_of (ok : Okc p P cx k X) (h : Tells p P k X Wx f) {tg e : Expr} : PI X tg e (tI p P k Wx (cI f cx tg e)) := by
  unfold cI
  split
  case h_2 => exact so_val ok (h _)
  case h_1 x pp es pos =>
    split
    case isFalse => exact so_val ok (h _)
    case isTrue hc =>
      simp only [Bool.and_eq_true, beq_iff_eq] at hc
      obtain ⟨⟨c1, c2⟩, c3⟩ := hc
      have hb : x ∈ cx.blt := by simpa using c2
      split
      · rename_i hx
        have hx := eq_of_beq hx
        subst hx
        split
        · rename_i a
          have hs := c3
          simp only [List.all_cons, List.all_nil, Bool.and_true, Bool.and_eq_true] at hs
          exact so_rng1 ok c1 hb (vs_of h c3) csOf_len (star_cons hs)
        · rename_i a b
          have hs := c3
          simp only [List.all_cons, List.all_nil, Bool.and_true, Bool.and_eq_true] at hs
          exact so_rng2 ok c1 hb (vs_of h c3) csOf_len (by rw [star_cons hs.1, star_cons hs.2]; rfl) (star_cons hs.2)
        · rename_i a b c
          have hs := c3
          simp only [List.all_cons, List.all_nil, Bool.and_true, Bool.and_eq_true] at hs
          exact so_rng3 ok c1 hb (vs_of h c3) csOf_len (star_cons hs.1) (star_any (by simp [hs.2.1, hs.2.2]))
        · exact so_val ok so_bad
      · split
        · rename_i hx
          have hx := eq_of_beq hx
          subst hx
          split
          · split
            · rename_i a
              have hs := c3
              simp only [List.all_cons, List.all_nil, Bool.and_true] at hs
              exact so_enum ok c1 hb (ds_of h c3) (star_cons hs)
            · exact so_val ok so_bad
          · exact so_val ok so_bad
        · split
          · rename_i hx
            have hx := eq_of_beq hx
            subst hx
            split
            · split
              · rename_i a b
                have hs := c3
                simp only [List.all_cons, List.all_nil, Bool.and_true, Bool.and_eq_true] at hs
                exact so_zip ok c1 hb (ds_of h c3) (star_cons hs.1) (star_any (by simp [hs.2]))
              · exact so_val ok so_bad
            · exact so_val ok so_bad
          · exact so_val ok (h _)
theorem test_of (h : ∀ e, PT X e (tT p P k Wx (f e))) {ifs : List Expr} {cs : CEs} (e : cTest f ifs = some cs) : PTs X ifs (tC p P k Wx cs) := by
  unfold cTest at e
  split at e
  · cases e; exact so_c0
  · cases e; exact so_c1 (h _)
  · cases e
theorem folded_no {iter : Expr} {env : PySem.Env} (h : isSet iter = false) : ∀ x, foldedSetIterable iter env x = pure x := by
  intro x
  cases iter <;> first | rfl | cases h
end
structure Has (p : Pm) (P : List Fn) (k : Nat) (f : Cenv → Expr → CE) : Prop where
  e : ∀ {cx : Cenv} {X : L2.Cx} {Wx : WX}, Okc p P cx k X → Takes X Wx → Tells p P k X Wx (f cx)
  t : ∀ {cx : Cenv} {X : L2.Cx} {Wx : WX}, Okc p P cx k X → Takes X Wx → ∀ e, PT X e (tT p P k Wx (f cx e))
section
variable {f : Cenv → Expr → CE}
theorem lcOk_ok {scope : Scope} (ok : Okc p P cx k X) (h : lcOk cx scope = true) : BlkOk X.N X.env.scope scope (ownOf cx.N scope.names) ∧ ∀ (s : Shared) (H : Hp) (C : Addr) (cl : List (Str × Addr)) (fp : List Addr), Okc p P (lcCx cx scope) k (X.blk s H scope (compEnvC scope cl C X.env) fp) := by
  unfold lcOk at h
  rw [Bool.and_eq_true] at h
  obtain ⟨b, hk⟩ := blkCn_ok ok h.1
  exact ⟨b, fun s H C cl fp => blk_okc ok hk h.2⟩
theorem lc_of (ok : Okc p P cx k X) (tk : Takes X Wx) (hf : Has p P k f) {elt tg iter : Expr} {ifs : List Expr} {scope : Scope} : PE X (.ListComp elt [⟨tg, iter, ifs, 0⟩] scope pos) (tE p P k Wx (cLc f cx elt tg iter ifs scope)) := by
  unfold cLc
  split
  case isFalse => exact so_bad
  case isTrue hc =>
    simp only [Bool.and_eq_true, Bool.not_eq_true'] at hc
    obtain ⟨b, ob⟩ := lcOk_ok ok hc.1
    split
    case h_2 => exact so_bad
    case h_1 t cs h1 h2 =>
      exact (pe_lc ok.calm ok.nd (iter_of ok (hf.e ok tk)) b (fun s H C cl fp => (so_T (ob s H C cl fp) h1).1) (fun s H C cl fp => test_of (hf.t (ob s H C cl fp) takes_no) h2) (fun s H C cl fp => hf.e (ob s H C cl fp) takes_no elt) (folded_no hc.2)).imp
        fun σ H Q h => lc_imp (cT_sto h1) h
theorem lc2_of (ok : Okc p P cx k X) (tk : Takes X Wx) (hf : Has p P k f) {elt tg iter tg1 iter1 : Expr} {ifs1 : List Expr} {scope : Scope} : PE X (.ListComp elt [⟨tg, iter, [], 0⟩, ⟨tg1, iter1, ifs1, 0⟩] scope pos) (tE p P k Wx (cLc2 f cx elt tg iter tg1 iter1 ifs1 scope)) := by
  unfold cLc2
  split
  case isFalse => exact so_bad
  case isTrue hc =>
    simp only [Bool.and_eq_true, Bool.not_eq_true'] at hc
    obtain ⟨b, ob⟩ := lcOk_ok ok hc.1.1
    split
    case h_2 => exact so_bad
    case h_1 t t1 cs h1 h2 h3 =>
      exact (pe_lc2 (vs1 := tgN t1) ok.calm ok.nd (iter_of ok (hf.e ok tk)) b (cT_sto h2) (fun s H C cl fp => (so_T (ob s H C cl fp) h1).1) (fun s H C cl fp => pts_nil) (fun s H C cl fp => iter_of (ob s H C cl fp) (hf.e (ob s H C cl fp) takes_no)) (fun s H C cl fp => (so_T (ob s H C cl fp) h2).1)
        (fun s H C cl fp => test_of (hf.t (ob s H C cl fp) takes_no) h3) (fun s H C cl fp => hf.e (ob s H C cl fp) takes_no elt) (folded_no hc.1.2) (fun env x => folded_no hc.2 x)).imp
        fun σ H Q h => lc2_imp (cT_sto h1) (fun _ h => h) (cT_sto h2) h
theorem lcA_of (ok : Okc p P cx k X) (tk : Takes X Wx) (hf : Has p P k f) {y : Str} {i : Nat} {py lpos : Pos} {elt tg iter : Expr} {ifs : List Expr} {scope : Scope} (hN : cx.N[i]? = some y) (hi : i ∈ cx.sto) (hyl : cx.names.lookup y = some .local)
    (hsw : swapsWith (.ListComp elt [⟨tg, iter, ifs, 0⟩] scope lpos) (some (.Name y py)) pos.line X.env = pure true) : PS X (.Assign [.Name y py] (.ListComp elt [⟨tg, iter, ifs, 0⟩] scope lpos) pos) (tS p P k Wx cx.sto (.asg (.nm i) (cLc f cx elt tg iter ifs scope))) := by
  have bad : PS X (.Assign [.Name y py] (.ListComp elt [⟨tg, iter, ifs, 0⟩] scope lpos) pos) (tS p P k Wx cx.sto (.asg (.nm i) .bad)) := ps_never.imp fun De σ H ⟨W, ρ, g, h⟩ => by
    unfold exS at h
    unfold evE at h
    exact h
  unfold cLc
  split
  case isFalse => exact bad
  case isTrue hc =>
    simp only [Bool.and_eq_true, Bool.not_eq_true'] at hc
    obtain ⟨b, ob⟩ := lcOk_ok ok hc.1
    split
    case h_2 => exact bad
    case h_1 t cs h1 h2 =>
      exact so_asgLc ok hN hi hyl hsw (iter_of ok (hf.e ok tk)) b (fun s H C cl fp => (so_T (ob s H C cl fp) h1).1) (fun s H C cl fp => test_of (hf.t (ob s H C cl fp) takes_no) h2) (fun s H C cl fp => hf.e (ob s H C cl fp) takes_no elt) (folded_no hc.2) (cT_sto h1)
theorem lc2A_of (ok : Okc p P cx k X) (tk : Takes X Wx) (hf : Has p P k f) {y : Str} {i : Nat} {py lpos : Pos} {elt tg iter tg1 iter1 : Expr} {ifs1 : List Expr} {scope : Scope} (hN : cx.N[i]? = some y) (hi : i ∈ cx.sto) (hyl : cx.names.lookup y = some .local)
    (hsw : swapsWith (.ListComp elt [⟨tg, iter, [], 0⟩, ⟨tg1, iter1, ifs1, 0⟩] scope lpos) (some (.Name y py)) pos.line X.env = pure true) : PS X (.Assign [.Name y py] (.ListComp elt [⟨tg, iter, [], 0⟩, ⟨tg1, iter1, ifs1, 0⟩] scope lpos) pos) (tS p P k Wx cx.sto (.asg (.nm i) (cLc2 f cx elt tg iter tg1 iter1 ifs1 scope))) := by
  have bad : PS X (.Assign [.Name y py] (.ListComp elt [⟨tg, iter, [], 0⟩, ⟨tg1, iter1, ifs1, 0⟩] scope lpos) pos) (tS p P k Wx cx.sto (.asg (.nm i) .bad)) := ps_never.imp fun De σ H ⟨W, ρ, g, h⟩ => by
    unfold exS at h
    unfold evE at h
    exact h
  unfold cLc2
  split
  case isFalse => exact bad
  case isTrue hc =>
    simp only [Bool.and_eq_true, Bool.not_eq_true'] at hc
    obtain ⟨b, ob⟩ := lcOk_ok ok hc.1.1
    split
    case h_2 => exact bad
    case h_1 t t1 cs h1 h2 h3 =>
      exact so_asgLc2 (own1 := tgN t1) ok hN hi hyl hsw (iter_of ok (hf.e ok tk)) b (cT_sto h2) (fun s H C cl fp => (so_T (ob s H C cl fp) h1).1) (fun s H C cl fp => iter_of (ob s H C cl fp) (hf.e (ob s H C cl fp) takes_no)) (fun s H C cl fp => (so_T (ob s H C cl fp) h2).1)
        (fun s H C cl fp => test_of (hf.t (ob s H C cl fp) takes_no) h3) (fun s H C cl fp => hf.e (ob s H C cl fp) takes_no elt) (folded_no hc.1.2) (fun env x => folded_no hc.2 x) (cT_sto h1) (fun _ h => h)
end
theorem cmp_of {a b : Expr} {ca cb : CE} (ok : Okc p P cx k X) (o : CmpOp) (ha : PE X a (tE p P k Wx ca)) (hb : PE X b (tE p P k Wx cb)) (hm : ¬ behindInMarks o b = true) : PE X (.Compare a [o] [b] pos) (tE p P k Wx (.cmp (cmpC o) ca cb)) ∧ PT X (.Compare a [o] [b] pos) (tT p P k Wx (.cmp (cmpC o) ca cb)) := by
  have h1 := so_cmp (pos := pos) ok (cmpC o) ha hb (by rw [cmpC_ok]; simpa using hm)
  have h2 := so_cmpT (pos := pos) ok (cmpC o) ha hb (by rw [cmpC_ok]; simpa using hm)
  rw [cmpC_ok] at h1 h2
  exact ⟨h1, h2⟩
theorem chn_of {a b c : Expr} {ca cb cc : CE} (ok : Okc p P cx k X) (o o' : CmpOp) (ha : PE X a (tE p P k Wx ca)) (hb : PE X b (tE p P k Wx cb)) (hc : PE X c (tE p P k Wx cc)) (hm : ¬ lastMarks [o, o'] [b, c] = true) :
    PE X (.Compare a [o, o'] [b, c] pos) (tE p P k Wx (.chn (cmpC o) (cmpC o') ca cb cc)) ∧ PT X (.Compare a [o, o'] [b, c] pos) (tT p P k Wx (.chn (cmpC o) (cmpC o') ca cb cc)) := by
  have h1 := so_chn (pos := pos) ok (cmpC o) (cmpC o') ha hb hc (by rw [cmpC_ok, cmpC_ok]; simpa using hm)
  have h2 := so_chnT (pos := pos) ok (cmpC o) (cmpC o') ha hb hc (by rw [cmpC_ok, cmpC_ok]; simpa using hm)
  rw [cmpC_ok, cmpC_ok] at h1 h2
  exact ⟨h1, h2⟩
theorem plain_ix {b : Expr} (h : ∀ lo hi st ps, b = .Slice lo hi st ps → False) : PlainIx b := fun o i => by
  cases b <;> first | rfl | exact (h _ _ _ _ rfl).elim
theorem isTrue_gen {e : Expr} {env : PySem.Env} (h : (match e with | .UnaryOp .Not _ _ => false | .BoolOp _ _ _ => false | .IfExp _ _ _ _ => false | .Compare _ _ _ _ => false | _ => true) = true) : ∀ whole, isTrue e env whole = (do let v ← whole; standAt e.pos; holding [v] (truthy v)) := by
  intro whole
  cases e with
  | UnaryOp o a ps => cases o <;> first | rfl | cases h
  | BoolOp => cases h
  | IfExp => cases h
  | Compare => cases h
  | _ => rfl
theorem has (n : Nat) : Has p P k (cE n) := by
  induction n with
  | zero => exact ⟨fun _ _ _ => so_bad, fun _ _ _ => so_badT⟩
  | succ n ih =>
    have he : ∀ {cx : Cenv} {X : L2.Cx} {Wx : WX}, Okc p P cx k X → Takes X Wx → Tells p P k X Wx (cE (n + 1) cx) := by
      intro cx X Wx ok tk e
      have R := ih.e (cx := cx) ok tk
      have T := ih.t (cx := cx) ok tk
      unfold cE
      split
      · exact so_name ok
      · exact so_const
      · split
        · rename_i o hop
          rw [opC_ok hop]
          exact so_bop ok o (R _) (R _)
        · exact so_bad
      · split
        · exact so_neg ok (R _)
        · exact so_notV ok (R _)
        · exact so_bad
      · exact so_ite (T _) (R _) (R _)
      · exact bo_of ok R _
      · split
        · split
          · exact so_bad
          · rename_i o b hm
            exact (cmp_of ok o (R _) (R b) hm).1
        · split
          · exact so_bad
          · rename_i o o' b c hm
            exact (chn_of ok o o' (R _) (R b) (R c) hm).1
        · exact so_bad
      · split
        · rename_i hc
          rw [Bool.and_eq_true] at hc
          exact so_tup (ds_of R hc.1) (by rw [csOf_len]; exact hc.2)
        · exact so_bad
      · split
        · rename_i hc
          rw [Bool.and_eq_true] at hc
          exact so_lst (ds_of R hc.1) (by rw [csOf_len]; exact hc.2)
        · exact so_bad
      · split
        · split
          · exact so_sli ok (R _) (opt_of R) (opt_of R)
          · exact so_bad
        · rename_i hb
          exact so_idx ok (R _) (R _) (plain_ix hb)
      · split
        · rename_i hc
          simp only [Bool.and_eq_true, decide_eq_true_eq, Bool.not_eq_true'] at hc
          obtain ⟨⟨⟨c1, c2⟩, c3⟩, c4⟩ := hc
          obtain ⟨a, b⟩ := ks_of (pos := _) R c1 c2
          exact so_dict a c1 c2 (fun z => by rw [z] at c3; cases c3) c4 (by rw [b]; exact c4)
        · exact so_bad
      · split
        · split
          · exact call_of ok tk R
          · split
            · split
              · rename_i hl
                exact meth_of ok R hl
              · exact so_bad
            · exact so_bad
          · exact so_bad
        · exact so_bad
      · split
        · split
          · rename_i hc
            have := eq_of_beq hc
            subst this
            exact lc_of ok tk ih
          · exact so_bad
        · split
          · rename_i hc
            simp only [Bool.and_eq_true, beq_iff_eq, List.isEmpty_iff] at hc
            obtain ⟨⟨e1, e2⟩, e3⟩ := hc
            subst e1 e2 e3
            exact lc2_of ok tk ih
          · exact so_bad
        · exact so_bad
      · exact so_bad
    refine ⟨he, fun {cx X Wx} ok tk e => ?_⟩
    have R := ih.e (cx := cx) ok tk
    have T := ih.t (cx := cx) ok tk
    by_cases hg : (match e with | .UnaryOp .Not _ _ => false | .BoolOp _ _ _ => false | .IfExp _ _ _ _ => false | .Compare _ _ _ _ => false | _ => true) = true
    · exact so_truth ok (he ok tk e) (isTrue_gen hg)
    · cases e with
      | UnaryOp o a ps =>
        cases o with
        | Not => exact so_not ok (T a)
        | _ => exact absurd rfl hg
      | BoolOp o es ps =>
        cases es with
        | nil => exact so_badT
        | cons e es => exact (boT_of T o).pt
      | IfExp c a b ps => exact so_iteT (T c) (T a) (T b)
      | Compare a os bs ps =>
        clear hg
        unfold cE
        dsimp only
        split
        · split
          · exact so_badT
          · rename_i o b hm
            exact (cmp_of ok o (R a) (R b) hm).2
        · split
          · exact so_badT
          · rename_i o o' b c hm
            exact (chn_of ok o o' (R a) (R b) (R c) hm).2
        · exact so_badT
      | _ => exact absurd rfl hg
end
end Lv
namespace Lv
open PySem PySem.Spec PyProof.Rows L2
def slOf (g : Stmt → CS) : List Stmt → CSs
  | [] => .nil
  | s :: r => .cons (g s) (slOf g r)
def badS : CS := .exp .bad
def isSlice : Expr → Bool
  | .Slice _ _ _ _ => true
  | _ => false
def isTupE : Expr → Bool
  | .Tuple _ _ _ => true
  | _ => false
def cAsgL (f : Cenv → Expr → CE) (cx : Cenv) (i : Nat) (x : Str) (px : Pos) (elt : Expr) (gens : List Comprehension) (scope : Scope) (lpos : Pos) : CS :=
  if (cx.names.lookup x == some .local) && px.line == lpos.line && !(scope.names.any fun q => q.1 == x && (q.2 == .local || q.2 == .cell)) then
    (match gens with
    | [⟨tg, iter, ifs, isa⟩] => if isa == 0 then .asg (.nm i) (cLc f cx elt tg iter ifs scope) else badS
    | [⟨tg, iter, ifs, isa⟩, ⟨tg1, iter1, ifs1, isa1⟩] => if isa == 0 && isa1 == 0 && ifs.isEmpty then .asg (.nm i) (cLc2 f cx elt tg iter tg1 iter1 ifs1 scope) else badS
    | _ => badS)
  else .asg (.nm i) (f cx (.ListComp elt gens scope lpos))
def cAsgN (f : Cenv → Expr → CE) (cx : Cenv) (x : Str) (px : Pos) (e : Expr) : CS := match ixOf cx.N x with
  | some i => if cx.sto.contains i then (match e with
      | .ListComp elt gens scope lpos => cAsgL f cx i x px elt gens scope lpos
      | _ => if isLcomp e then badS else .asg (.nm i) (f cx e)) else badS
  | none => badS
def locIx (cx : Cenv) (x : Str) : Option Nat := (ixOf cx.N x).bind fun i => if cx.sto.contains i && (cx.names.lookup x == some .local) then some i else none
def cPar (f : Cenv → Expr → CE) (cx : Cenv) (ts vs : List Expr) : CS :=
  if vs.all notStar && !(vs.all (foldedForSure 8)) && !(vs.all (constantsAlone 8)) then (match ts, vs with
    | [.Name x px, .Name y py], [_, _] => if px.line == py.line then (match locIx cx x, locIx cx y with
      | some i, some j => if i != j && x != y then .par [i, j] (csOf (f cx) vs) else badS
      | _, _ => badS) else badS
    | [.Name x px, .Name y py, .Name z pz], [_, _, _] => if px.line == py.line && px.line == pz.line then (match locIx cx x, locIx cx y, locIx cx z with
      | some i, some j, some l => if i != j && i != l && j != l && x != y && x != z && y != z then .par [i, j, l] (csOf (f cx) vs) else badS
      | _, _, _ => badS) else badS
    | _, _ => badS)
  else badS
def locName (cx : Cenv) : Expr → Bool
  | .Name x _ => cx.names.lookup x == some .local
  | _ => false
def cAsg (f : Cenv → Expr → CE) (cx : Cenv) (tg e : Expr) : CS := match tg with
  | .Name x px => cAsgN f cx x px e
  | .Tuple ts _ _ => (match e with
    | .Tuple vs _ _ => if !(ts.length == 2 || ts.length == 3) || vs.all (foldedForSure 8) || !ts.all (locName cx) then (match cT cx 9 tg with
        | some (.tup gs) => .asg (.tup gs) (f cx e)
        | _ => badS) else cPar f cx ts vs
    | _ => if isLcomp e then badS else (match cT cx 9 tg with
        | some (.tup gs) => .asg (.tup gs) (f cx e)
        | _ => badS))
  | .Subscript o ix _ => (match o with
    | .Name x _ => (match cName cx x with
      | .var i => if isLcomp e || isSlice ix then badS else .put i (f cx ix) (f cx e)
      | _ => badS)
    | _ => badS)
  | _ => badS
def cS (f : Cenv → Expr → CE) : Nat → Cenv → Stmt → CS
  | 0, _, _ => badS
  | n + 1, cx, s => match s with
    | .Expr e _ => if isLcomp e then badS else .exp (f cx e)
    | .Return e _ => (match e with | some e => .ret (f cx e) | none => .ret0)
    | .Pass _ => .pass
    | .Break _ => .brk
    | .Continue _ => .cnt
    | .If c a b _ => .ite (f cx c) (slOf (fun s => cS f n cx s) a) (slOf (fun s => cS f n cx s) b)
    | .For tg it b o _ => if o.isEmpty && !isSet it then (match cT cx 9 tg with
        | some t => .fr t (cI (f cx) cx tg it) (slOf (fun s => cS f n cx s) b)
        | none => badS) else badS
    | .While c b o _ => if o.isEmpty then .wh (f cx c) (slOf (fun s => cS f n cx s) b) else badS
    | .Assign ts e _ => (match ts with
      | [tg] => cAsg f cx tg e
      | _ => badS)
    | _ => badS
section
variable {p : Pm} {P : List Fn} {cx : Cenv} {k : Nat} {X : L2.Cx} {Wx : WX} {pos : Pos} {f : Cenv → Expr → CE}
theorem bad_of {st : Stmt} {N : List Nat} : PS X st (tS p P k Wx N badS) := so_badS
theorem swN {e : Expr} {t : Option Expr} {l : Nat} {env : PySem.Env} (h : isLcomp e = false) : swapsWith e t l env = pure false := by
  cases e <;> first | rfl | cases h
theorem swT {elt : Expr} {gens : List Comprehension} {scope : Scope} {lpos px : Pos} {x : Str} {l : Nat} {env : PySem.Env} (h1 : env.blockKind = .function) (h2 : env.kindOf x = some .local) (h3 : (px.line == lpos.line) = true) (h4 : (scope.names.any fun q => q.1 == x && (q.2 == .local || q.2 == .cell)) = false) :
    swapsWith (.ListComp elt gens scope lpos) (some (.Name x px)) l env = pure true := by
  have h5 : (scope.names.any fun (n, kk) => n == x && (kk == .local || kk == .cell)) = false := h4
  show (pure (env.blockKind == .function && env.kindOf x == some .local && px.line == lpos.line && !(scope.names.any fun (n, kk) => n == x && (kk == .local || kk == .cell))) : Sem Bool) = pure true
  rw [h1, h2, h3, h5]
  rfl
theorem asgL_of (ok : Okc p P cx k X) (fr : Fr X) (tk : Takes X Wx) (hf : Has p P k f) {x : Str} {i : Nat} {px lpos : Pos} {elt : Expr} {gens : List Comprehension} {scope : Scope} (hN : cx.N[i]? = some x) (hi : i ∈ cx.sto) :
    PS X (.Assign [.Name x px] (.ListComp elt gens scope lpos) pos) (tS p P k Wx cx.sto (cAsgL f cx i x px elt gens scope lpos)) := by
  unfold cAsgL
  split
  case isFalse hc =>
    refine so_asg1 ok hN hi (hf.e ok tk _) ?_
    have hk : X.env.kindOf x = cx.names.lookup x := by
      unfold Env.kindOf
      rw [ok.sc]
    show (pure (X.env.blockKind == .function && X.env.kindOf x == some .local && px.line == lpos.line && !(scope.names.any fun (n, kk) => n == x && (kk == .local || kk == .cell))) : Sem Bool) = pure false
    rw [fr.bk, hk]
    have e : ((ScopeKind.function == ScopeKind.function) && cx.names.lookup x == some .local && px.line == lpos.line && !(scope.names.any fun (n, kk) => n == x && (kk == .local || kk == .cell))) = false := by
      have e0 : (ScopeKind.function == ScopeKind.function) = true := rfl
      rw [e0, Bool.true_and]
      exact Bool.eq_false_iff.mpr hc
    rw [e]
  case isTrue hc =>
    simp only [Bool.and_eq_true, Bool.not_eq_true'] at hc
    obtain ⟨⟨c1, c2⟩, c3⟩ := hc
    have c1 : cx.names.lookup x = some .local := eq_of_beq c1
    have hk : X.env.kindOf x = some .local := by
      unfold Env.kindOf
      rw [ok.sc]
      exact c1
    split
    · split
      · rename_i h0
        have := eq_of_beq h0
        subst this
        exact lcA_of ok tk hf hN hi c1 (swT fr.bk hk c2 c3)
      · exact bad_of
    · split
      · rename_i h0
        simp only [Bool.and_eq_true, beq_iff_eq, List.isEmpty_iff] at h0
        obtain ⟨⟨e1, e2⟩, e3⟩ := h0
        subst e1 e2 e3
        exact lc2A_of ok tk hf hN hi c1 (swT fr.bk hk c2 c3)
      · exact bad_of
    · exact bad_of
theorem asgN_of (ok : Okc p P cx k X) (fr : Fr X) (tk : Takes X Wx) (hf : Has p P k f) {x : Str} {px : Pos} {e : Expr} : PS X (.Assign [.Name x px] e pos) (tS p P k Wx cx.sto (cAsgN f cx x px e)) := by
  unfold cAsgN
  split
  case h_2 => exact bad_of
  case h_1 i hi =>
    split
    case isFalse => exact bad_of
    case isTrue hs =>
      have hs : i ∈ cx.sto := by simpa using hs
      split
      · exact asgL_of ok fr tk hf (ixOf_ok hi) hs
      · split
        · exact bad_of
        · rename_i hl
          exact so_asg1 ok (ixOf_ok hi) hs (hf.e ok tk _) (swN (by simpa using hl))
theorem locIx_ok {x : Str} {i : Nat} (h : locIx cx x = some i) : cx.N[i]? = some x ∧ i ∈ cx.sto ∧ cx.names.lookup x = some .local := by
  unfold locIx at h
  obtain ⟨j, hj, h2⟩ := Option.bind_eq_some_iff.mp h
  split at h2
  · rename_i hc
    cases h2
    simp only [Bool.and_eq_true, beq_iff_eq] at hc
    exact ⟨ixOf_ok hj, by simpa using hc.1, hc.2⟩
  · cases h2
theorem any_g {vs : List Expr} {g : Expr → Bool} (h : vs.all notStar = true) (hg : ∀ e, notStar e = true → g e = false) : vs.any g = false := by
  induction vs with
  | nil => rfl
  | cons e es ih =>
    rw [List.all_cons, Bool.and_eq_true] at h
    rw [List.any_cons, ih h.2, hg e h.1]
    rfl
theorem sw2 {x y : Str} {px py pt pt2 : Pos} {kt k2 : Nat} {a b : Expr} {env : PySem.Env} (h1 : env.blockKind = .function) (hx : env.kindOf x = some .local) (hy : env.kindOf y = some .local) (hl : (px.line == py.line) = true) (hxy : x ≠ y) (hs : [a, b].all notStar = true)
    (hf : [a, b].all (foldedForSure 8) = false) (hc : [a, b].all (constantsAlone 8) = false) : swappedStores [.Tuple [.Name x px, .Name y py] kt pt] (.Tuple [a, b] k2 pt2) env = pure (some [x, y]) := by
  have e1 : py.line = px.line := (eq_of_beq hl).symm
  unfold swappedStores
  simp only [pure_bind]
  rw [any_g hs, hf, hc]
  · simp [h1, hx, hy, e1, Expr.pos, List.eraseDups_cons, Ne.symm hxy, hxy]
  · exact fun e h => by cases e <;> first | rfl | cases h
theorem sw3 {x y z : Str} {px py pz pt pt2 : Pos} {kt k2 : Nat} {a b c : Expr} {env : PySem.Env} (h1 : env.blockKind = .function) (hx : env.kindOf x = some .local) (hy : env.kindOf y = some .local) (hz : env.kindOf z = some .local) (hl : (px.line == py.line) = true) (hl2 : (px.line == pz.line) = true) (hxy : x ≠ y) (hxz : x ≠ z) (hyz : y ≠ z) (hs : [a, b, c].all notStar = true)
    (hf : [a, b, c].all (foldedForSure 8) = false) (hc : [a, b, c].all (constantsAlone 8) = false) : swappedStores [.Tuple [.Name x px, .Name y py, .Name z pz] kt pt] (.Tuple [a, b, c] k2 pt2) env = pure (some [x, y, z]) := by
  have e1 : py.line = px.line := (eq_of_beq hl).symm
  have e2 : pz.line = px.line := (eq_of_beq hl2).symm
  unfold swappedStores
  simp only [pure_bind]
  rw [any_g hs, hf, hc]
  · simp [h1, hx, hy, hz, e1, e2, Expr.pos, List.eraseDups_cons, Ne.symm hxy, hxy, Ne.symm hxz, hxz, Ne.symm hyz, hyz]
  · exact fun e h => by cases e <;> first | rfl | cases h
theorem swNone {ts vs : List Expr} {kt k2 : Nat} {pt pt2 : Pos} {env : PySem.Env} (h : (!(ts.length == 2 || ts.length == 3) || vs.all (foldedForSure 8)) = true) : swappedStores [.Tuple ts kt pt] (.Tuple vs k2 pt2) env = pure none := by
  unfold swappedStores
  simp only [pure_bind]
  rw [Bool.or_eq_true] at h
  split
  · rfl
  · split
    · rfl
    · split
      · rfl
      · rcases h with h | h
        · rename_i h1 _ _
          rw [h] at h1
          simp at h1
        · rw [h]
          rfl
theorem fm_short {α β : Type} {g : α → Option β} : ∀ {l : List α}, l.all (fun a => (g a).isSome) = false → ((l.filterMap g).length != l.length) = true
  | [], h => by cases h
  | a :: l, h => by
    have le : (l.filterMap g).length ≤ l.length := List.length_filterMap_le _ _
    rw [List.all_cons] at h
    cases e : g a with
    | none =>
      rw [List.filterMap_cons_none e]
      simp only [List.length_cons, bne_iff_ne, ne_eq]
      omega
    | some b =>
      rw [e] at h
      have ih := fm_short (g := g) (l := l) (by simpa using h)
      rw [List.filterMap_cons_some e]
      simp only [List.length_cons, bne_iff_ne, ne_eq] at ih ⊢
      omega
theorem swNone2 {ts vs : List Expr} {kt k2 : Nat} {pt pt2 : Pos} (ok : Okc p P cx k X) (h : ts.all (locName cx) = false) : swappedStores [.Tuple ts kt pt] (.Tuple vs k2 pt2) X.env = pure none := by
  unfold swappedStores
  simp only [pure_bind]
  split
  · rfl
  · split
    · rfl
    · rw [fm_short]
      · rfl
      · refine Bool.eq_false_iff.mpr fun hh => ?_
        have : ts.all (locName cx) = true := List.all_eq_true.mpr fun e he => by
          have h1 := List.all_eq_true.mp hh e he
          cases e with
          | Name x ps =>
            simp only at h1
            split at h1
            · rename_i h2
              rw [Bool.and_eq_true] at h2
              have h3 := h2.1
              unfold Env.kindOf at h3
              rw [ok.sc] at h3
              exact h3
            · cases h1
          | _ => cases h1
        rw [h] at this
        cases this
theorem swNone3 {ts vs : List Expr} {kt k2 : Nat} {pt pt2 : Pos} (ok : Okc p P cx k X) (hc : (!(ts.length == 2 || ts.length == 3) || vs.all (foldedForSure 8) || !ts.all (locName cx)) = true) : swappedStores [.Tuple ts kt pt] (.Tuple vs k2 pt2) X.env = pure none := by
  rw [Bool.or_eq_true] at hc
  rcases hc with hc | hc
  · exact swNone hc
  · exact swNone2 ok (by simpa using hc)
theorem swNoTup {ts : List Expr} {kt : Nat} {pt : Pos} {e : Expr} {env : PySem.Env} (h : ∀ vs k2 p2, e = .Tuple vs k2 p2 → False) : swappedStores [.Tuple ts kt pt] e env = pure none := by
  cases e <;> first | rfl | exact (h _ _ _ rfl).elim
theorem swNT {tg : Expr} {e : Expr} {l : Nat} {env : PySem.Env} (h : isLcomp e = false) : swapsWithSole [tg] e l env = pure false := swN h
theorem loc_kind (ok : Okc p P cx k X) {x : Str} (h : cx.names.lookup x = some .local) : X.env.kindOf x = some .local := by
  unfold Env.kindOf
  rw [ok.sc]
  exact h
theorem par_of (ok : Okc p P cx k X) (fr : Fr X) (tk : Takes X Wx) (hf : Has p P k f) {ts vs : List Expr} {kt k2 : Nat} {pt pt2 : Pos} : PS X (.Assign [.Tuple ts kt pt] (.Tuple vs k2 pt2) pos) (tS p P k Wx cx.sto (cPar f cx ts vs)) := by
  unfold cPar
  split
  case isFalse => exact bad_of
  case isTrue hc =>
    simp only [Bool.and_eq_true, Bool.not_eq_true'] at hc
    obtain ⟨⟨c1, c2⟩, c3⟩ := hc
    have T := hf.e (cx := cx) ok tk
    split
    · rename_i x px y py a b
      split
      case isFalse => exact bad_of
      case isTrue hl =>
        split
        case h_2 => exact bad_of
        case h_1 i j hi hj =>
          obtain ⟨i1, i2, i3⟩ := locIx_ok hi
          obtain ⟨j1, j2, j3⟩ := locIx_ok hj
          split
          case isFalse => exact bad_of
          case isTrue hd =>
            simp only [Bool.and_eq_true, bne_iff_ne, ne_eq] at hd
            exact so_par2 ok i1 j1 hd.1 i3 j3 (ps_of T c1) i2 j2 (sw2 fr.bk (loc_kind ok i3) (loc_kind ok j3) hl hd.2 c1 c2 c3) (swNT rfl)
    · rename_i x px y py z pz a b c
      split
      case isFalse => exact bad_of
      case isTrue hl =>
        rw [Bool.and_eq_true] at hl
        split
        case h_2 => exact bad_of
        case h_1 i j l hi hj hl' =>
          obtain ⟨i1, i2, i3⟩ := locIx_ok hi
          obtain ⟨j1, j2, j3⟩ := locIx_ok hj
          obtain ⟨l1, l2, l3⟩ := locIx_ok hl'
          split
          case isFalse => exact bad_of
          case isTrue hd =>
            simp only [Bool.and_eq_true, bne_iff_ne, ne_eq] at hd
            obtain ⟨⟨⟨⟨⟨d1, d2⟩, d3⟩, d4⟩, d5⟩, d6⟩ := hd
            exact so_par3 ok i1 j1 l1 d1 d2 d3 i3 j3 l3 (ps_of T c1) i2 j2 l2 (sw3 fr.bk (loc_kind ok i3) (loc_kind ok j3) (loc_kind ok l3) hl.1 hl.2 d4 d5 d6 c1 c2 c3) (swNT rfl)
    · exact bad_of
theorem asgSub {o ix : Expr} {pp : Pos} {env : PySem.Env} (h : isSlice ix = false) (v : Value) : assign (.Subscript o ix pp) env v = (do
      let ov ← holding [v] (eval o env)
      let iv ← holding [v, ov] (eval ix env)
      standAt pp
      holding [v, ov, iv] (setItem ov iv v)
      release [v, ov, iv] []) := by
  cases ix <;> first | rfl | cases h
theorem asg_of (ok : Okc p P cx k X) (fr : Fr X) (tk : Takes X Wx) (hf : Has p P k f) {tg e : Expr} : PS X (.Assign [tg] e pos) (tS p P k Wx cx.sto (cAsg f cx tg e)) := by
  have T := hf.e (cx := cx) ok tk
  unfold cAsg
  split
  · exact asgN_of ok fr tk hf
  · rename_i ts kt pt
    split
    · split
      · rename_i hc
        split
        · rename_i gs hg
          obtain ⟨g, hN, _⟩ := so_T ok hg
          exact so_asgT ok (T _) g hN (swNT rfl) (swNone3 ok hc) rfl
        · exact bad_of
      · exact par_of ok fr tk hf
    · rename_i hnt
      split
      · exact bad_of
      · rename_i hl
        split
        · rename_i gs hg
          obtain ⟨g, hN, _⟩ := so_T ok hg
          exact so_asgT ok (T _) g hN (swNT (by simpa using hl)) (swNoTup hnt) rfl
        · exact bad_of
  · split
    · rename_i x px
      split
      · rename_i i hi
        split
        · exact bad_of
        · rename_i hl
          rw [Bool.or_eq_true, not_or] at hl
          have hx : PE X (.Name x px) (tE p P k Wx (cName cx x)) := so_name ok
          rw [hi] at hx
          exact so_put ok hx (T _) (T _) (swN (by simpa using hl.1)) (asgSub (by simpa using hl.2)) rfl rfl
      · exact bad_of
    · exact bad_of
  · exact bad_of
theorem sl_of {g : Stmt → CS} {N : List Nat} (h : ∀ s, PS X s (tS p P k Wx N (g s))) : ∀ {ss : List Stmt}, PSs X ss (tL p P k Wx N (slOf g ss))
  | [] => so_snil
  | s :: ss => so_scons (h s) (sl_of h)
theorem cS_of (hf : Has p P k f) : ∀ (n : Nat) {cx : Cenv} {X : L2.Cx} {Wx : WX} (s : Stmt), Okc p P cx k X → Fr X → Takes X Wx → PS X s (tS p P k Wx cx.sto (cS f n cx s))
  | 0, _, _, _, _, _, _, _ => bad_of
  | n + 1, cx, X, Wx, s, ok, fr, tk => by
    have T := hf.e (cx := cx) ok tk
    have TT := hf.t (cx := cx) ok tk
    have ih : ∀ ss, PSs X ss (tL p P k Wx cx.sto (slOf (fun s => cS f n cx s) ss)) := fun ss => sl_of fun s => cS_of hf n s ok fr tk
    unfold cS
    split
    · split
      · exact bad_of
      · rename_i hl
        exact so_exp (T _) (swN (by simpa using hl))
    · split
      · exact so_ret (T _)
      · exact so_ret0
    · exact so_pass
    · exact so_brk
    · exact so_cnt
    · exact so_if (TT _) (ih _) (ih _)
    · split
      · rename_i hc
        simp only [Bool.and_eq_true, Bool.not_eq_true', List.isEmpty_iff] at hc
        split
        · rename_i t ht
          obtain ⟨e1, e2⟩ := hc
          subst e1
          exact so_for ok fr.pass (iter_of ok T) (so_T ok ht).1 (ih _) (cT_sto ht) (folded_no e2)
        · exact bad_of
      · exact bad_of
    · split
      · rename_i hc
        have := List.isEmpty_iff.mp hc
        subst this
        exact so_while fr.pass (TT _) (ih _)
      · exact bad_of
    · split
      · exact asg_of ok fr tk hf
      · exact bad_of
    · exact bad_of
end
end Lv
namespace Lv
open PySem PySem.Spec PyProof.Rows L2
structure Df where
  x : Str
  N : List Str
  ps : List Str
  ds : List D
  sto : List Nat
  params : Arguments
  body : List Stmt
  scope : Scope
structure Tops where
  cons : List (Str × D)
  blt : List Str
  imp : List (Str × String)
  tix : List (Str × List Int)
def cenv (G : Tops) (dfs : List Df) (d : Df) : Cenv := ⟨d.N, d.scope.names, d.sto, dfs.map fun e => (e.x, e.ps, e.ds), G.cons, [], G.blt, G.imp, G.tix⟩
def stOf (d : Df) : List Bool := (List.range d.ps.length).map fun i => d.sto.contains i
def fnC (G : Tops) (dfs : List Df) (d : Df) : Fn := ⟨d.N.length, d.ps.length, stOf d, slOf (fun s => cS (fun cx e => cE 40 cx e) 30 (cenv G dfs d) s) d.body⟩
def code (G : Tops) (dfs : List Df) : List Fn := dfs.map (fnC G dfs)
def nodupB : List Str → Bool
  | [] => true
  | x :: r => !r.contains x && nodupB r
theorem nodupB_ok : ∀ {l : List Str}, nodupB l = true → l.Nodup
  | [], _ => .nil
  | x :: r, h => by
    unfold nodupB at h
    rw [Bool.and_eq_true] at h
    refine List.nodup_cons.mpr ⟨fun z => ?_, nodupB_ok h.2⟩
    have : r.contains x = true := List.contains_iff_mem.mpr z
    rw [this] at h
    exact absurd h.1 (by decide)
def locB (names : List (Str × NameKind)) (x : Str) : Bool := match names.lookup x with
  | some .local => true
  | some .cell => true
  | _ => false
theorem locB_ok {names : List (Str × NameKind)} {x : Str} (h : locB names x = true) : names.lookup x = some .local ∨ names.lookup x = some .cell := by
  unfold locB at h
  split at h
  · rename_i e; exact .inl e
  · rename_i e; exact .inr e
  · cases h
def dfOk (d : Df) : Bool := (match d.scope.kind with | .function => true | _ => false) && !d.scope.isCoroutine && !d.scope.isGenerator && nodupB d.N && (d.N.take d.ps.length == d.ps) && d.ps.all (locB d.scope.names) && d.scope.names.all (fun y => y.2 != .free) &&
  d.sto.all (fun i => match d.N[i]? with | some x => locB d.scope.names x | none => true) && decide (d.ds.length ≤ d.ps.length)
def BindOk (d : Df) : Prop :=
  (d.ds = [] → ∀ (kV doc pm : Value) (an : Option Addr) (cdv ct : Value) (us : List Value), us.length = d.ps.length → bindArgs (PySem.W.fnOf d.x d.x d.params d.body d.scope .none kV doc pm an cdv ct) ⟨us, []⟩ = pure (d.ps.zip us)) ∧
  (∀ j, d.ds ≠ [] → j ≤ d.ds.length → ∀ (T : Addr) (kV doc pm : Value) (an : Option Addr) (cdv ct : Value) (us its : List Value), us.length = d.ps.length - (d.ds.length - j) → its.length = d.ds.length →
    ∃ kk, bindArgs (PySem.W.fnOf d.x d.x d.params d.body d.scope (.ref T) kV doc pm an cdv ct) ⟨us, []⟩ = seqItems? (.ref T) >>= kk ∧ kk (some its.toArray) = pure (d.ps.zip (us ++ its.drop j)))
section
variable {p : Pm} {G : Tops} {dfs : List Df} {prog : Program} {w : World} {K : PySem.W.Frag} {mg : Str → Option Value} {base : Heap}
theorem dfOk_ok {d : Df} (h : dfOk d = true) : FnScope d.N d.ps d.scope ∧ (∀ i x, i ∈ d.sto → d.N[i]? = some x → d.scope.names.lookup x = some .local ∨ d.scope.names.lookup x = some .cell) ∧ d.ds.length ≤ d.ps.length := by
  unfold dfOk at h
  simp only [Bool.and_eq_true, Bool.not_eq_true', decide_eq_true_eq] at h
  obtain ⟨⟨⟨⟨⟨⟨⟨⟨h1, h2⟩, h3⟩, h4⟩, h5⟩, h6⟩, h7⟩, h8⟩, h9⟩ := h
  refine ⟨⟨?_, h2, h3, nodupB_ok h4, eq_of_beq h5, fun x hx => locB_ok (List.all_eq_true.mp h6 x hx), fun y hy e => ?_⟩, fun i x hi hx => ?_, h9⟩
  · split at h1
    · assumption
    · cases h1
  · have := List.all_eq_true.mp h7 y hy
    rw [e] at this
    cases this
  · have := List.all_eq_true.mp h8 i hi
    rw [hx] at this
    exact locB_ok this
structure HeadOk (p : Pm) (G : Tops) (dfs : List Df) (K : PySem.W.Frag) (mg : Str → Option Value) : Prop where
  hK : p.K = K
  fn : ∀ i d, dfs[i]? = some d → mg d.x = some (.ref (p.fa i)) ∧ ∃ fd dvs, d.ds.mapM cstV = some dvs ∧ FunD K d.x d.x d.params d.body d.scope dvs [] (p.fa i) fd
  bind : ∀ d ∈ dfs, BindOk d
  ok : ∀ d ∈ dfs, dfOk d = true
  cons : ∀ x d, G.cons.lookup x = some d → ∃ u v, mg x = some u ∧ RelV v u ∧ ∀ H A, Rep p H A d v
  blt : ∀ x ∈ G.blt, mg x = none
  imp : ∀ x id, (x, id) ∈ G.imp → mg x = some (.builtin id)
  tix : ∀ x ns, G.tix.lookup x = some ns → ∃ a, mg x = some (.ref a) ∧ (∃ o, K.lookup a = some o ∧ o.cls = .type "tuple" ∧ o.dict = none) ∧ ∀ H : Hp, SqT K H a (ns.map .int)
theorem mapM_len {ds : List D} {vs : List V} (h : ds.mapM cstV = some vs) : ds.length = vs.length := by
  induction ds generalizing vs with
  | nil => cases h; rfl
  | cons d ds ih =>
    rw [List.mapM_cons] at h
    cases hd : cstV d with
    | none => rw [hd] at h; cases h
    | some z =>
      cases hds : ds.mapM cstV with
      | none => rw [hd, hds] at h; cases h
      | some zs => rw [hd, hds] at h; cases h; exact congrArg (· + 1) (ih hds)
theorem mapM_drop {ds : List D} {vs : List V} (h : ds.mapM cstV = some vs) : ∀ m, (ds.drop m).mapM cstV = some (vs.drop m) := by
  induction ds generalizing vs with
  | nil => cases h; intro m; simp
  | cons d ds ih =>
    have h0 := h
    rw [List.mapM_cons] at h
    cases hd : cstV d with
    | none => rw [hd] at h; cases h
    | some z =>
      cases hds : ds.mapM cstV with
      | none => rw [hd, hds] at h; cases h
      | some zs =>
        rw [hd, hds] at h
        cases h
        intro m
        cases m with
        | zero => exact h0
        | succ m => exact ih hds m
theorem binds_of {d : Df} {f : Addr} {fd : FuncData} {dvs : List V} (F : FunD K d.x d.x d.params d.body d.scope dvs [] f fd) (hv : d.ds.mapM cstV = some dvs) (B : BindOk d) (hl : d.ds.length ≤ d.ps.length) (m : Nat) (ws : List V) (hm : m ≤ d.ds.length) (hw : (d.ds.drop m).mapM cstV = some ws) : ∃ us, Vals ws us ∧ Binds K fd d.ps us := by
  have ew : ws = dvs.drop m := by
    have := mapM_drop hv m
    rw [hw] at this
    exact Option.some.inj this
  subst ew
  have el := mapM_len hv
  by_cases h0 : d.ds = []
  · have : dvs = [] := by rw [h0] at el; exact List.length_eq_zero_iff.mp el.symm
    subst this
    refine ⟨[], by simp only [List.drop_nil]; exact .nil, F.bindsN (B.1 h0)⟩
  · have hd : dvs ≠ [] := fun z => h0 (List.length_eq_zero_iff.mp (by rw [el, z]; rfl))
    refine F.binds1 (d.ps.length - (d.ds.length - m)) m hd (by omega) fun T kV doc pm an cdv ct us its h1 h2 => B.2 m h0 hm T kV doc pm an cdv ct us its h1 (by rw [h2, el])
theorem stOf_at {d : Df} {j : Nat} (h : (stOf d)[j]? = some false) : j ∉ d.sto := by
  unfold stOf at h
  rw [List.getElem?_map] at h
  obtain ⟨i, hi, e⟩ := Option.map_eq_some_iff.mp h
  have : i = j := by
    obtain ⟨h1, h2⟩ := List.getElem?_eq_some_iff.mp hi
    rw [List.getElem_range] at h2
    exact h2.symm
  subst this
  intro z
  have : d.sto.contains i = true := List.contains_iff_mem.mpr z
  rw [this] at e
  cases e
theorem fn_lvl (hd : HeadOk p G dfs K mg) {k : Nat} (glo : ∀ d, GloOk p (code G dfs) (cenv G dfs d) k prog w K mg base) {i : Nat} {d : Df} (hi : dfs[i]? = some d) {fd : FuncData} {dvs : List V} (F : FunD K d.x d.x d.params d.body d.scope dvs [] (p.fa i) fd) :
    FnOk prog w K mg base (L2.CX prog w) (k + 1) (p.fa i) fd d.ps (spF p (code G dfs) (k + 1) i d.ps.length) := by
  obtain ⟨S, hloc, hl⟩ := dfOk_ok (hd.ok d (List.mem_of_getElem? hi))
  have hP : (code G dfs)[i]? = some (fnC G dfs d) := by
    unfold code
    rw [List.getElem?_map, hi]
    rfl
  exact fn_ok (cx := cenv G dfs d) (f := fnC G dfs d) hP hd.hK F S rfl rfl rfl (by show (stOf d).length = _; unfold stOf; simp) (fun j hj => stOf_at hj) hloc (glo d)
    fun X Wx ok fr tk => sl_of fun s => cS_of (has 40) 30 s ok fr tk
theorem glo_all (hd : HeadOk p G dfs K mg) : ∀ (k : Nat) (cx : Cenv), cx.fns = (dfs.map fun e => (e.x, e.ps, e.ds)) → cx.cons = G.cons → cx.blt = G.blt → cx.imp = G.imp → cx.tix = G.tix → GloOk p (code G dfs) cx k prog w K mg base
  | k, cx, e1, e2, e3, e4, e5 => by
    refine ⟨fun i x ps ds h => ?_, fun x d h => hd.cons x d (e2 ▸ h), fun x h => hd.blt x (e3 ▸ h), fun x id h => hd.imp x id (e4 ▸ h), fun x ns h => hd.tix x ns (e5 ▸ h)⟩
    rw [e1, List.getElem?_map] at h
    obtain ⟨d, hi, e⟩ := Option.map_eq_some_iff.mp h
    cases e
    obtain ⟨hm, fd, dvs, hv, F⟩ := hd.fn i d hi
    have hmem : d ∈ dfs := List.mem_of_getElem? hi
    obtain ⟨S, hloc, hl⟩ := dfOk_ok (hd.ok d hmem)
    refine ⟨hm, F.kp, fd, fun m ws hm hw => binds_of F hv (hd.bind d hmem) hl m ws hm hw, ?_⟩
    cases k with
    | zero =>
      refine ⟨fun vs H Q E h => h.1, fun A outer s H args us vs Q E hr e0 hb r h => ?_⟩
      obtain ⟨_, W, args, _, h⟩ := h
      exact h.elim
    | succ k => exact fn_lvl hd (fun d => glo_all hd k (cenv G dfs d) rfl rfl rfl rfl rfl) hi F
theorem fn_all (hd : HeadOk p G dfs K mg) (k : Nat) {i : Nat} {d : Df} (hi : dfs[i]? = some d) {fd : FuncData} {dvs : List V} (F : FunD K d.x d.x d.params d.body d.scope dvs [] (p.fa i) fd) : FnOk prog w K mg base (L2.CX prog w) (k + 1) (p.fa i) fd d.ps (spF p (code G dfs) (k + 1) i d.ps.length) :=
  fn_lvl hd (fun d => glo_all hd k (cenv G dfs d) rfl rfl rfl rfl rfl) hi F
end
end Lv
namespace Lv
open PySem PySem.Spec PyProof.Rows L2
mutual
def conB (K : PySem.W.Frag) : D → Value → Bool
  | .non, .none => true
  | .bl b, .bool c => b == c
  | .int i, .int j _ => decide (i = j)
  | .str x, .str y _ => decide (x = y)
  | .tup ds, .ref a => (match K.lookup a with
    | some ⟨.type c, _, .seq its _, _⟩ => decide (c = "tuple") && decide (its.size ≤ sizeLine) && conBs K ds its.toList
    | _ => false)
  | _, _ => false
def conBs (K : PySem.W.Frag) : List D → List Value → Bool
  | [], [] => true
  | d :: ds, v :: vs => conB K d v && conBs K ds vs
  | _, _ => false
end
mutual
theorem conB_ok {p : Pm} : ∀ {d : D} {v : Value}, conB p.K d v = true → ∃ x, RelV x v ∧ ∀ H A, Rep p H A d x
  | d, v, h => by
    cases d with
    | non => cases v <;> first | (unfold conB at h; cases h; done) | exact ⟨.non, rfl, fun _ _ => .non⟩
    | bl b =>
      cases v <;> first | (unfold conB at h; cases h; done) | skip
      rename_i c
      unfold conB at h
      have e := eq_of_beq h
      subst e
      exact ⟨.bl b, rfl, fun _ _ => .bl b⟩
    | int i =>
      cases v <;> first | (unfold conB at h; cases h; done) | skip
      rename_i j t
      unfold conB at h
      have e : i = j := of_decide_eq_true h
      subst e
      exact ⟨.int i, ⟨t, rfl⟩, fun _ _ => .int i⟩
    | str x =>
      cases v <;> first | (unfold conB at h; cases h; done) | skip
      rename_i y t
      unfold conB at h
      have e : x = y := of_decide_eq_true h
      subst e
      exact ⟨.str x, ⟨t, rfl⟩, fun _ _ => .str x⟩
    | tup ds =>
      cases v <;> first | (unfold conB at h; cases h; done) | skip
      rename_i a
      unfold conB at h
      split at h
      case h_2 => cases h
      case h_1 c od its n sl hk =>
        simp only [Bool.and_eq_true, decide_eq_true_eq] at h
        obtain ⟨⟨h1, h2⟩, h3⟩ := h
        obtain ⟨xs, rx, hx⟩ := conBs_ok h3
        exact ⟨.ref a, rfl, fun H A => .tup (.inr ⟨_, its, n, hk, congrArg Value.type h1, rfl, h2, rx⟩) (hx H A)⟩
    | _ => cases v <;> (unfold conB at h; cases h)
theorem conBs_ok {p : Pm} : ∀ {ds : List D} {vs : List Value}, conBs p.K ds vs = true → ∃ xs, Vals xs vs ∧ ∀ H A, Reps p H A ds xs
  | [], [], _ => ⟨[], .nil, fun _ _ => .nil⟩
  | [], _ :: _, h => by unfold conBs at h; cases h
  | _ :: _, [], h => by unfold conBs at h; cases h
  | d :: ds, v :: vs, h => by
    unfold conBs at h
    rw [Bool.and_eq_true] at h
    obtain ⟨x, r1, h1⟩ := conB_ok h.1
    obtain ⟨xs, r2, h2⟩ := conBs_ok h.2
    exact ⟨x :: xs, .cons r1 r2, fun H A => .cons (h1 H A) (h2 H A)⟩
end
def gloB (K : PySem.W.Frag) (q : Str × D) : Bool := match PySem.W.nsIn K mainGlobals q.1 with
  | some (some v) => conB K q.2 v
  | _ => false
def impB (K : PySem.W.Frag) (q : Str × String) : Bool := He.eqO (PySem.W.nsIn K mainGlobals q.1) (some (some (.builtin q.2)))
def intsB : List Int → List Value → Bool
  | [], [] => true
  | i :: r, .int j _ :: s => decide (i = j) && intsB r s
  | _, _ => false
theorem intsB_ok : ∀ {ns : List Int} {vs : List Value}, intsB ns vs = true → Vals (ns.map .int) vs
  | [], [], _ => .nil
  | [], _ :: _, h => by cases h
  | _ :: _, [], h => by cases h
  | i :: r, v :: s, h => by
    cases v <;> first | (cases h; done) | skip
    rename_i j t
    unfold intsB at h
    rw [Bool.and_eq_true] at h
    have e : i = j := of_decide_eq_true h.1
    subst e
    exact .cons ⟨t, rfl⟩ (intsB_ok h.2)
def tixB (K : PySem.W.Frag) (q : Str × List Int) : Bool := match PySem.W.nsIn K mainGlobals q.1 with
  | some (some (.ref a)) => (match K.lookup a with
    | some ⟨.type c, none, .seq its _, _⟩ => decide (c = "tuple") && decide (its.size ≤ sizeLine) && intsB q.2 its.toList
    | _ => false)
  | _ => false
def exB (G : Tops) (K : PySem.W.Frag) : Bool := G.cons.all (gloB K) && G.imp.all (impB K) && G.tix.all (tixB K)
def dvOf : D → He.Dv
  | .bl b => .bl b
  | .int i => .int i
  | .str x => .str x
  | _ => .non
def cstB : D → Bool
  | .non => true
  | .bl _ => true
  | .int _ => true
  | .str _ => true
  | _ => false
theorem dvOf_ok {K : PySem.W.Frag} {d : D} (h : cstB d = true) : cstV d = some ((dvOf d).v K) := by
  cases d <;> first | rfl | cases h
theorem dvs_ok {K : PySem.W.Frag} : ∀ {ds : List D}, ds.all cstB = true → ds.mapM cstV = some ((ds.map dvOf).map (He.Dv.v K))
  | [], _ => rfl
  | d :: ds, h => by
    rw [List.all_cons, Bool.and_eq_true] at h
    rw [List.mapM_cons, dvOf_ok (K := K) h.1, dvs_ok (K := K) h.2]
    rfl
def ddOf (d : Df) : He.DefD := ⟨(d.x, none), d.x, d.x, d.params, d.body, d.scope, d.ds.map dvOf, []⟩
def faOf (G : Tops) (dfs : List Df) : List He.Fa := dfs.map (fun d => .glo d.x) ++ G.blt.map .free
def nameAt (dfs : List Df) (i : Nat) : Str := match dfs[i]? with
  | some d => d.x
  | none => ""
def pmOf (K : PySem.W.Frag) (dfs : List Df) (cls : List Str) : Pm := ⟨K, fun i => He.ga K (nameAt dfs i), fun c => He.ga K (match cls[c]? with | some x => x | none => "")⟩
section
variable {G : Tops} {dfs : List Df} {cls : List Str} {w : World} {K : PySem.W.Frag} {h : Heap} {mg : Str → Option Value}
theorem head_ok (X : K.In h) (Gn : h.Ns mainGlobals mg) (c : He.SaysX (faOf G dfs) (dfs.map ddOf) [] [] (exB G) w h K) (hb : ∀ d ∈ dfs, BindOk d) (ho : dfs.all dfOk = true) (hc : dfs.all (fun d => d.ds.all cstB) = true) : HeadOk (pmOf K dfs cls) G dfs K mg := by
  have cd := c.t.d
  have ex := c.more
  unfold exB at ex
  simp only [Bool.and_eq_true] at ex
  obtain ⟨⟨x1, x2⟩, x3⟩ := ex
  refine ⟨rfl, fun i d hi => ?_, hb, fun d hd => List.all_eq_true.mp ho d hd, fun x d hl => ?_, fun x hx => ?_, fun x id hx => ?_, fun x ns hl => ?_⟩
  · have hmem : d ∈ dfs := List.mem_of_getElem? hi
    have e : nameAt dfs i = d.x := by unfold nameAt; rw [hi]
    have g := He.glo_ok X Gn (cd.facts (f := .glo d.x) (List.mem_append_left _ (List.mem_map.mpr ⟨d, hmem, rfl⟩)))
    obtain ⟨fd, F⟩ := cd.defs (d := ddOf d) (List.mem_map.mpr ⟨d, hmem, rfl⟩)
    have ea : (pmOf K dfs cls).fa i = He.ga K d.x := by show He.ga K (nameAt dfs i) = _; rw [e]
    rw [ea]
    exact ⟨g, fd, _, dvs_ok (K := K) (List.all_eq_true.mp hc d hmem), F⟩
  · have := List.all_eq_true.mp x1 (x, d) (lookup_mem hl)
    unfold gloB at this
    split at this
    case h_2 => cases this
    case h_1 v hv =>
      obtain ⟨y, r, hy⟩ := conB_ok (p := pmOf K dfs cls) this
      exact ⟨v, y, PySem.W.mg_of X Gn hv, r, hy⟩
  · exact He.free_ok X Gn (cd.facts (f := .free x) (List.mem_append_right _ (List.mem_map.mpr ⟨x, hx, rfl⟩)))
  · have := List.all_eq_true.mp x2 (x, id) hx
    exact PySem.W.mg_of X Gn (He.eqO_ok this)
  · have := List.all_eq_true.mp x3 (x, ns) (lookup_mem hl)
    unfold tixB at this
    split at this
    case h_2 => cases this
    case h_1 a ha =>
      split at this
      case h_2 => cases this
      case h_1 c' its n sl hk =>
        simp only [Bool.and_eq_true, decide_eq_true_eq] at this
        obtain ⟨⟨h1, h2⟩, h3⟩ := this
        exact ⟨a, PySem.W.mg_of X Gn ha, ⟨_, hk, congrArg Value.type h1, rfl⟩, fun H => .inr ⟨_, its, n, hk, congrArg Value.type h1, rfl, h2, intsB_ok h3⟩⟩
end
def LawYes (C : List Fn) (k i : Nat) (n : Nat) : Prop := ∀ ns : List Int, ns.length ≤ n → (∀ z ∈ ns, Builtin.Int.intBits z ≤ 1048576) → ∃ outs, callF C k i [.sh (.scr ns)] = .ret (.sh (.bl true)) outs
theorem law_sp {p : Pm} {C : List Fn} {k i n : Nat} (hy : LawYes C k i n) {H : Hp} {a : Addr} {ns : List Int} (hl : ns.length ≤ n) (hb : ∀ z ∈ ns, Builtin.Int.intBits z ≤ 1048576) (hO : Only H) (hS : SqL p.K H a (ns.map V.int)) : spF p C k i 1 [.ref a] H (fun v _ => v = .bl true) fun _ _ _ => False := by
  have hs : ScrAt p.K H a (ns.map V.int) := by
    rcases hS with (h | ⟨o, h⟩) | h
    · rcases hO a with z | ⟨o, xs, z⟩
      · rw [h] at z; cases z
      · rw [h] at z; cases z
    · exact .inl ⟨o, h⟩
    · exact .inr fun _ => .inr h
  obtain ⟨outs, e⟩ := hy ns hl hb
  refine ⟨rfl, fun _ => False, [.sh (.scr ns)], ⟨rfl, fun _ z => z.elim, fun j d hj => ?_, fun j d hj => ?_, fun j l d e' b hj => ?_⟩, ?_⟩
  · cases j with
    | zero => cases hj; exact ⟨.ref a, rfl, .scr hs⟩
    | succ j => simp [slot] at hj
  · cases j with
    | zero => cases hj
    | succ j => simp [slot] at hj
  · cases j with
    | zero => cases hj
    | succ j => simp [slot] at hj
  · rw [e]
    intro u H' q
    have r : Rep p H' _ (.bl true) u := q.vr
    cases r
    rfl
theorem law_end {l : PySem.W.OpenLaw} {n k i : Nat} {q : Program} {loose : List Str} {XP : (Str → Option Value) → Heap → Prop} {d : DefRec} {G : Tops} {dfs : List Df} {hkn : Nat} {x : Str} {ld : Df}
    (hn : l.most = some n) (hn2 : n ≤ sizeLine) (hdf : d.params.defaults = []) (hr : Room (k + 1) callerA) (hi : dfs[i]? = some ld) (hx : ld.x = d.name) (hps : ld.ps = [x]) (hds : ld.ds = [])
    (hb : ∀ d ∈ dfs, BindOk d) (ho : dfs.all dfOk = true) (hc : dfs.all (fun d => d.ds.all cstB) = true) (hy : LawYes (code G dfs) (k + 1) i n) :
    PySem.W.WalkO q loose XP (He.hookX hkn (faOf G dfs) (dfs.map ddOf) [] [] (exB G)).says l.row.toRowW d [] (fun f vs => PySem.call f vs) := by
  refine Att.attach_callB hn hdf fun w s₀ s₁ mg mb fa o pm cd doc a vs ns Gr Y hoo hd hcd hmg hobj hints hlen hbits hg => ?_
  obtain ⟨K, KX, c⟩ := Y
  have H := head_ok (cls := []) KX Gr.T.g c hb ho hc
  obtain ⟨hm, fd, dvs, hv, F⟩ := H.fn i ld hi
  rw [hx] at hm
  have ea := hmg.symm.trans hm
  cases ea
  have e0 : dvs = [] := by
    rw [hds] at hv
    cases hv
    rfl
  subst e0
  have bnd := fun (s : Shared) (u : Value) => F.bindsA ((hb ld (List.mem_of_getElem? hi)).1 hds) s [u] (by rw [hps]; rfl)
  rw [hps] at bnd
  refine law_call (CX := L2.CX l.prog w) (sp := spF (pmOf K dfs []) (code G dfs) (k + 1) i 1) KX Gr.T.g Gr.T.b Gr.T.builtins Gr.T.nolimit hg hobj hints (Nat.le_trans hlen hn2) hr (fun base _ _ => ?_) bnd (fun Hh hO hS => law_sp hy hlen hbits hO hS) fun Hh e s' z => ?_
  · have := fn_all (prog := l.prog) (w := w) (base := base) H k hi F
    rw [hps] at this
    exact this
  · obtain ⟨_, _, _, _, _, _, _, _, _, _, _, _, z⟩ := z
    exact z
end Lv
namespace Lv
def BindAll : List Df → Prop
  | [] => True
  | d :: r => BindOk d ∧ BindAll r
theorem bindAll_ok : ∀ {l : List Df}, BindAll l → ∀ d ∈ l, BindOk d
  | [], _, d, h => by cases h
  | e :: r, h, d, hd => by
    rcases List.mem_cons.mp hd with z | z
    · rw [z]; exact h.1
    · exact bindAll_ok h.2 d z
end Lv
namespace Lv
open PySem
theorem code_at {G : Tops} {dfs : List Df} {j : Nat} {d : Df} {f : Fn} (h : dfs[j]? = some d) (e : fnC G dfs d = f) : (code G dfs)[j]? = some f := by
  unfold code
  rw [List.getElem?_map, h, ← e]
  rfl
end Lv
namespace Lk59
open PySem PySem.Spec PyProof.Rows L2 Lv
abbrev topAt (i : Nat) : Stmt := PySem.Challenge.pw_lotsdivisors_k59_across_ramanujan_sums.main.body.getD i (.Pass ⟨0, 0, 0, 0⟩)
abbrev d0 : Df := ⟨"is_whole", ["thing"], ["thing"], [], [], defArgs (topAt 17), defBody (topAt 17), defScope (topAt 17)⟩
abbrev d1 : Df := ⟨"is_within_bounds", ["thing", "low", "high"], ["thing", "low", "high"], [], [], defArgs (topAt 18), defBody (topAt 18), defScope (topAt 18)⟩
abbrev d2 : Df := ⟨"need_number", ["number", "which"], ["number", "which"], [.str "number"], [], defArgs (topAt 19), defBody (topAt 19), defScope (topAt 19)⟩
abbrev d3 : Df := ⟨"need_reach", ["reach"], ["reach"], [], [], defArgs (topAt 20), defBody (topAt 20), defScope (topAt 20)⟩
abbrev d4 : Df := ⟨"is_next", ["row", "late", "place"], ["row", "late"], [], [2], defArgs (topAt 21), defBody (topAt 21), defScope (topAt 21)⟩
abbrev d5 : Df := ⟨"is_row_of", ["thing", "length", "at", "late"], ["thing", "length"], [], [], defArgs (topAt 22), defBody (topAt 22), defScope (topAt 22)⟩
abbrev d6 : Df := ⟨"is_law_of", ["thing", "row", "length"], ["thing"], [], [], defArgs (topAt 23), defBody (topAt 23), defScope (topAt 23)⟩
abbrev d7 : Df := ⟨"need_law", ["types"], ["types"], [], [], defArgs (topAt 24), defBody (topAt 24), defScope (topAt 24)⟩
abbrev d8 : Df := ⟨"factors_of", ["number", "found", "left", "prime", "times"], ["number"], [], [1, 2, 3, 4], defArgs (topAt 25), defBody (topAt 25), defScope (topAt 25)⟩
abbrev d9 : Df := ⟨"type_by", ["types", "prime", "times"], ["types", "prime", "times"], [], [], defArgs (topAt 26), defBody (topAt 26), defScope (topAt 26)⟩
abbrev d10 : Df := ⟨"powered", ["number", "times", "found", "lap"], ["number", "times"], [], [2, 3], defArgs (topAt 28), defBody (topAt 28), defScope (topAt 28)⟩
abbrev d11 : Df := ⟨"lot_by", ["types", "number", "found", "prime", "times", "step", "powers", "late", "one", "power"], ["types", "number"], [], [2, 3, 4, 5, 6], defArgs (topAt 29), defBody (topAt 29), defScope (topAt 29)⟩
abbrev d12 : Df := ⟨"meet_by", ["types", "m", "n", "other", "late"], ["types", "m", "n"], [], [3], defArgs (topAt 30), defBody (topAt 30), defScope (topAt 30)⟩
abbrev d13 : Df := ⟨"all_lots", ["types", "reach", "number"], ["types", "reach"], [], [], defArgs (topAt 31), defBody (topAt 31), defScope (topAt 31)⟩
abbrev d14 : Df := ⟨"lot", ["types", "number"], ["types", "number"], [], [], defArgs (topAt 32), defBody (topAt 32), defScope (topAt 32)⟩
abbrev d15 : Df := ⟨"is_in", ["types", "m", "n"], ["types", "m", "n"], [], [], defArgs (topAt 33), defBody (topAt 33), defScope (topAt 33)⟩
abbrev d16 : Df := ⟨"meet", ["types", "m", "n"], ["types", "m", "n"], [], [], defArgs (topAt 34), defBody (topAt 34), defScope (topAt 34)⟩
abbrev d17 : Df := ⟨"share", ["above", "below", "common"], ["above", "below"], [], [2], defArgs (topAt 39), defBody (topAt 39), defScope (topAt 39)⟩
abbrev d18 : Df := ⟨"plus", ["one", "other"], ["one", "other"], [], [], defArgs (topAt 40), defBody (topAt 40), defScope (topAt 40)⟩
abbrev d19 : Df := ⟨"less", ["one", "other"], ["one", "other"], [], [], defArgs (topAt 41), defBody (topAt 41), defScope (topAt 41)⟩
abbrev d20 : Df := ⟨"by_both", ["one", "other"], ["one", "other"], [], [], defArgs (topAt 42), defBody (topAt 42), defScope (topAt 42)⟩
abbrev d21 : Df := ⟨"by_part", ["one", "other"], ["one", "other"], [], [], defArgs (topAt 43), defBody (topAt 43), defScope (topAt 43)⟩
abbrev d22 : Df := ⟨"is_fraction", ["thing", "number"], ["thing"], [], [], defArgs (topAt 44), defBody (topAt 44), defScope (topAt 44)⟩
abbrev d23 : Df := ⟨"is_table_of", ["thing", "entry"], ["thing"], [], [], defArgs (topAt 45), defBody (topAt 45), defScope (topAt 45)⟩
abbrev d24 : Df := ⟨"need_table", ["table", "which"], ["table", "which"], [.str "table"], [], defArgs (topAt 46), defBody (topAt 46), defScope (topAt 46)⟩
abbrev d25 : Df := ⟨"need_other", ["one", "other"], ["one", "other"], [], [], defArgs (topAt 47), defBody (topAt 47), defScope (topAt 47)⟩
abbrev d26 : Df := ⟨"ones_by", ["reach"], ["reach"], [], [], defArgs (topAt 48), defBody (topAt 48), defScope (topAt 48)⟩
abbrev d27 : Df := ⟨"greatest_by", ["types", "far", "n", "d"], ["types", "far", "n"], [], [], defArgs (topAt 51), defBody (topAt 51), defScope (topAt 51)⟩
abbrev d28 : Df := ⟨"mark_at", ["types", "n", "found", "prime", "times"], ["types", "n"], [], [2, 3, 4], defArgs (topAt 52), defBody (topAt 52), defScope (topAt 52)⟩
abbrev d29 : Df := ⟨"ramanujan_by", ["types", "far", "n", "d"], ["types", "far", "n"], [], [], defArgs (topAt 53), defBody (topAt 53), defScope (topAt 53)⟩
abbrev d30 : Df := ⟨"need_far", ["far"], ["far"], [], [], defArgs (topAt 54), defBody (topAt 54), defScope (topAt 54)⟩
abbrev d31 : Df := ⟨"greatest", ["types", "far", "n"], ["types", "far", "n"], [], [], defArgs (topAt 55), defBody (topAt 55), defScope (topAt 55)⟩
abbrev d32 : Df := ⟨"ramanujan", ["types", "far", "n"], ["types", "far", "n"], [], [], defArgs (topAt 56), defBody (topAt 56), defScope (topAt 56)⟩
abbrev d33 : Df := ⟨"product_by", ["lots", "one", "other", "found", "at", "late", "entry", "d"], ["lots", "one", "other"], [], [3, 4, 5, 6, 7], defArgs (topAt 58), defBody (topAt 58), defScope (topAt 58)⟩
abbrev d34 : Df := ⟨"inverse_by", ["lots", "table", "found", "at", "entry", "d"], ["lots", "table"], [], [2, 3, 4, 5], defArgs (topAt 60), defBody (topAt 60), defScope (topAt 60)⟩
abbrev d35 : Df := ⟨"marks_by", ["types", "reach"], ["types", "reach"], [], [], defArgs (topAt 61), defBody (topAt 61), defScope (topAt 61)⟩
abbrev d36 : Df := ⟨"marks", ["types", "reach"], ["types", "reach"], [], [], defArgs (topAt 62), defBody (topAt 62), defScope (topAt 62)⟩
abbrev d37 : Df := ⟨"told_back", ["types", "table"], ["types", "table"], [], [], defArgs (topAt 63), defBody (topAt 63), defScope (topAt 63)⟩
abbrev d38 : Df := ⟨"product", ["types", "one", "other"], ["types", "one", "other"], [], [], defArgs (topAt 65), defBody (topAt 65), defScope (topAt 65)⟩
abbrev d39 : Df := ⟨"need_numbers", ["numbers", "number", "one", "other"], ["numbers"], [], [], defArgs (topAt 68), defBody (topAt 68), defScope (topAt 68)⟩
abbrev d40 : Df := ⟨"is_closed_by", ["types", "numbers", "number", "late"], ["types", "numbers"], [], [], defArgs (topAt 69), defBody (topAt 69), defScope (topAt 69)⟩
abbrev d41 : Df := ⟨"is_closed", ["types", "numbers"], ["types", "numbers"], [], [], defArgs (topAt 70), defBody (topAt 70), defScope (topAt 70)⟩
abbrev d42 : Df := ⟨"_law_begun", ["script", "whole", "cells", "cell"], ["script"], [], [1, 2, 3], defArgs (topAt 72), defBody (topAt 72), defScope (topAt 72)⟩
abbrev d43 : Df := ⟨"_law_mixed", ["draw", "found", "cell"], ["draw"], [], [1, 2], defArgs (topAt 73), defBody (topAt 73), defScope (topAt 73)⟩
abbrev d44 : Df := ⟨"_law_take", ["draw", "amount", "found"], ["draw", "amount"], [], [2], defArgs (topAt 74), defBody (topAt 74), defScope (topAt 74)⟩
abbrev d45 : Df := ⟨"_law_pick", ["draw", "items"], ["draw", "items"], [], [], defArgs (topAt 75), defBody (topAt 75), defScope (topAt 75)⟩
abbrev d46 : Df := ⟨"_law_type_rows", ["length", "found", "place", "longer", "row", "late"], ["length"], [], [1, 2, 3, 4], defArgs (topAt 76), defBody (topAt 76), defScope (topAt 76)⟩
abbrev d47 : Df := ⟨"_law_law", ["draw", "way", "length"], ["draw"], [], [1], defArgs (topAt 77), defBody (topAt 77), defScope (topAt 77)⟩
abbrev d48 : Df := ⟨"_law_right", ["draw", "law", "n", "m", "members", "line", "great", "own", "plain", "one", "other", "whole", "d", "at", "number"], ["draw"], [], [1, 2, 3, 4, 5, 6, 7, 8, 9, 10, 11], defArgs (topAt 78), defBody (topAt 78), defScope (topAt 78)⟩
abbrev d49 : Df := ⟨"law", ["script", "draw", "lap", "fair", "own", "m"], ["script"], [], [1, 2, 3, 4], defArgs (topAt 79), defBody (topAt 79), defScope (topAt 79)⟩
def dfs : List Df := [d0, d1, d2, d3, d4, d5, d6, d7, d8, d9, d10, d11, d12, d13, d14, d15, d16, d17, d18, d19, d20, d21, d22, d23, d24, d25, d26, d27, d28, d29, d30, d31, d32, d33, d34, d35, d36, d37, d38, d39, d40, d41, d42, d43, d44, d45, d46, d47, d48, d49]
def tops : Tops := ⟨[("MOST", .int 120), ("PRIMES", .tup [.int 2, .int 3, .int 5, .int 7]), ("LENGTHS", .tup [.int 6, .int 4, .int 2, .int 2]), ("NOTHING", .tup [.int 0, .int 1]), ("ONE", .tup [.int 1, .int 1]), ("LIMIT", .int 100000000000000000000000000000000000000000000000000000000000000000000000000000000000000000000000000000000000000000000000000000000000000000000000000000000000000000000000000000000000000000000000000000000), ("MOST_FAR", .int 1000000000000000000), ("MOST_NUMBERS", .int 16)], ["ValueError", "abs", "all", "bool", "enumerate", "int", "isinstance", "len", "max", "min", "range", "sorted", "sum", "tuple", "zip"], [("gcd", "math.gcd")], [("PRIMES", [2, 3, 5, 7])]⟩
def loose : List Str := (["gcd", "LotError", "BadFar", "BadLaw", "BadM", "BadN", "BadNumber", "BadNumbers", "BadOne", "BadOther", "BadReach", "BadTable", "MOST", "PRIMES", "LENGTHS", "is_whole", "is_within_bounds", "need_number", "need_reach", "is_next", "is_row_of", "is_law_of", "need_law", "factors_of", "type_by", "powered", "lot_by", "meet_by", "all_lots", "lot"] : List Str) ++ (["is_in", "meet", "NOTHING", "ONE", "LIMIT", "share", "plus", "less", "by_both", "by_part", "is_fraction", "is_table_of", "need_table", "need_other", "ones_by", "MOST_FAR", "greatest_by", "mark_at", "ramanujan_by", "need_far", "greatest", "ramanujan", "product_by", "inverse_by", "marks_by", "marks", "told_back", "product", "MOST_NUMBERS", "need_numbers"] : List Str) ++ (["is_closed_by", "is_closed", "_law_begun", "_law_mixed", "_law_take", "_law_pick", "_law_type_rows", "_law_law", "_law_right"] : List Str)
def lawAt : Nat := 49
theorem b0 : BindOk d0 := ⟨fun _ _ _ _ _ _ _ us hl => match us, hl with | [_], _ => rfl, fun _ h => absurd rfl h⟩
theorem b1 : BindOk d1 := ⟨fun _ _ _ _ _ _ _ us hl => match us, hl with | [_, _, _], _ => rfl, fun _ h => absurd rfl h⟩
theorem b2 : BindOk d2 := ⟨fun h => (nomatch h), fun j _ hj T kV doc pm an cdv ct us its h1 h2 => match j, hj, us, its, h1, h2 with | 0, _, [_], [_], _, _ => ⟨_, rfl, rfl⟩ | 1, _, [_, _], [_], _, _ => ⟨_, rfl, rfl⟩⟩
theorem b3 : BindOk d3 := ⟨fun _ _ _ _ _ _ _ us hl => match us, hl with | [_], _ => rfl, fun _ h => absurd rfl h⟩
theorem b4 : BindOk d4 := ⟨fun _ _ _ _ _ _ _ us hl => match us, hl with | [_, _], _ => rfl, fun _ h => absurd rfl h⟩
theorem b5 : BindOk d5 := ⟨fun _ _ _ _ _ _ _ us hl => match us, hl with | [_, _], _ => rfl, fun _ h => absurd rfl h⟩
theorem b6 : BindOk d6 := ⟨fun _ _ _ _ _ _ _ us hl => match us, hl with | [_], _ => rfl, fun _ h => absurd rfl h⟩
theorem b7 : BindOk d7 := ⟨fun _ _ _ _ _ _ _ us hl => match us, hl with | [_], _ => rfl, fun _ h => absurd rfl h⟩
theorem b8 : BindOk d8 := ⟨fun _ _ _ _ _ _ _ us hl => match us, hl with | [_], _ => rfl, fun _ h => absurd rfl h⟩
theorem b9 : BindOk d9 := ⟨fun _ _ _ _ _ _ _ us hl => match us, hl with | [_, _, _], _ => rfl, fun _ h => absurd rfl h⟩
theorem b10 : BindOk d10 := ⟨fun _ _ _ _ _ _ _ us hl => match us, hl with | [_, _], _ => rfl, fun _ h => absurd rfl h⟩
theorem b11 : BindOk d11 := ⟨fun _ _ _ _ _ _ _ us hl => match us, hl with | [_, _], _ => rfl, fun _ h => absurd rfl h⟩
theorem b12 : BindOk d12 := ⟨fun _ _ _ _ _ _ _ us hl => match us, hl with | [_, _, _], _ => rfl, fun _ h => absurd rfl h⟩
theorem b13 : BindOk d13 := ⟨fun _ _ _ _ _ _ _ us hl => match us, hl with | [_, _], _ => rfl, fun _ h => absurd rfl h⟩
theorem b14 : BindOk d14 := ⟨fun _ _ _ _ _ _ _ us hl => match us, hl with | [_, _], _ => rfl, fun _ h => absurd rfl h⟩
theorem b15 : BindOk d15 := ⟨fun _ _ _ _ _ _ _ us hl => match us, hl with | [_, _, _], _ => rfl, fun _ h => absurd rfl h⟩
theorem b16 : BindOk d16 := ⟨fun _ _ _ _ _ _ _ us hl => match us, hl with | [_, _, _], _ => rfl, fun _ h => absurd rfl h⟩
theorem b17 : BindOk d17 := ⟨fun _ _ _ _ _ _ _ us hl => match us, hl with | [_, _], _ => rfl, fun _ h => absurd rfl h⟩
theorem b18 : BindOk d18 := ⟨fun _ _ _ _ _ _ _ us hl => match us, hl with | [_, _], _ => rfl, fun _ h => absurd rfl h⟩
theorem b19 : BindOk d19 := ⟨fun _ _ _ _ _ _ _ us hl => match us, hl with | [_, _], _ => rfl, fun _ h => absurd rfl h⟩
theorem b20 : BindOk d20 := ⟨fun _ _ _ _ _ _ _ us hl => match us, hl with | [_, _], _ => rfl, fun _ h => absurd rfl h⟩
theorem b21 : BindOk d21 := ⟨fun _ _ _ _ _ _ _ us hl => match us, hl with | [_, _], _ => rfl, fun _ h => absurd rfl h⟩
theorem b22 : BindOk d22 := ⟨fun _ _ _ _ _ _ _ us hl => match us, hl with | [_], _ => rfl, fun _ h => absurd rfl h⟩
theorem b23 : BindOk d23 := ⟨fun _ _ _ _ _ _ _ us hl => match us, hl with | [_], _ => rfl, fun _ h => absurd rfl h⟩
theorem b24 : BindOk d24 := ⟨fun h => (nomatch h), fun j _ hj T kV doc pm an cdv ct us its h1 h2 => match j, hj, us, its, h1, h2 with | 0, _, [_], [_], _, _ => ⟨_, rfl, rfl⟩ | 1, _, [_, _], [_], _, _ => ⟨_, rfl, rfl⟩⟩
theorem b25 : BindOk d25 := ⟨fun _ _ _ _ _ _ _ us hl => match us, hl with | [_, _], _ => rfl, fun _ h => absurd rfl h⟩
theorem b26 : BindOk d26 := ⟨fun _ _ _ _ _ _ _ us hl => match us, hl with | [_], _ => rfl, fun _ h => absurd rfl h⟩
theorem b27 : BindOk d27 := ⟨fun _ _ _ _ _ _ _ us hl => match us, hl with | [_, _, _], _ => rfl, fun _ h => absurd rfl h⟩
theorem b28 : BindOk d28 := ⟨fun _ _ _ _ _ _ _ us hl => match us, hl with | [_, _], _ => rfl, fun _ h => absurd rfl h⟩
theorem b29 : BindOk d29 := ⟨fun _ _ _ _ _ _ _ us hl => match us, hl with | [_, _, _], _ => rfl, fun _ h => absurd rfl h⟩
theorem b30 : BindOk d30 := ⟨fun _ _ _ _ _ _ _ us hl => match us, hl with | [_], _ => rfl, fun _ h => absurd rfl h⟩
theorem b31 : BindOk d31 := ⟨fun _ _ _ _ _ _ _ us hl => match us, hl with | [_, _, _], _ => rfl, fun _ h => absurd rfl h⟩
theorem b32 : BindOk d32 := ⟨fun _ _ _ _ _ _ _ us hl => match us, hl with | [_, _, _], _ => rfl, fun _ h => absurd rfl h⟩
theorem b33 : BindOk d33 := ⟨fun _ _ _ _ _ _ _ us hl => match us, hl with | [_, _, _], _ => rfl, fun _ h => absurd rfl h⟩
theorem b34 : BindOk d34 := ⟨fun _ _ _ _ _ _ _ us hl => match us, hl with | [_, _], _ => rfl, fun _ h => absurd rfl h⟩
theorem b35 : BindOk d35 := ⟨fun _ _ _ _ _ _ _ us hl => match us, hl with | [_, _], _ => rfl, fun _ h => absurd rfl h⟩
theorem b36 : BindOk d36 := ⟨fun _ _ _ _ _ _ _ us hl => match us, hl with | [_, _], _ => rfl, fun _ h => absurd rfl h⟩
theorem b37 : BindOk d37 := ⟨fun _ _ _ _ _ _ _ us hl => match us, hl with | [_, _], _ => rfl, fun _ h => absurd rfl h⟩
theorem b38 : BindOk d38 := ⟨fun _ _ _ _ _ _ _ us hl => match us, hl with | [_, _, _], _ => rfl, fun _ h => absurd rfl h⟩
theorem b39 : BindOk d39 := ⟨fun _ _ _ _ _ _ _ us hl => match us, hl with | [_], _ => rfl, fun _ h => absurd rfl h⟩
theorem b40 : BindOk d40 := ⟨fun _ _ _ _ _ _ _ us hl => match us, hl with | [_, _], _ => rfl, fun _ h => absurd rfl h⟩
theorem b41 : BindOk d41 := ⟨fun _ _ _ _ _ _ _ us hl => match us, hl with | [_, _], _ => rfl, fun _ h => absurd rfl h⟩
theorem b42 : BindOk d42 := ⟨fun _ _ _ _ _ _ _ us hl => match us, hl with | [_], _ => rfl, fun _ h => absurd rfl h⟩
theorem b43 : BindOk d43 := ⟨fun _ _ _ _ _ _ _ us hl => match us, hl with | [_], _ => rfl, fun _ h => absurd rfl h⟩
theorem b44 : BindOk d44 := ⟨fun _ _ _ _ _ _ _ us hl => match us, hl with | [_, _], _ => rfl, fun _ h => absurd rfl h⟩
theorem b45 : BindOk d45 := ⟨fun _ _ _ _ _ _ _ us hl => match us, hl with | [_, _], _ => rfl, fun _ h => absurd rfl h⟩
theorem b46 : BindOk d46 := ⟨fun _ _ _ _ _ _ _ us hl => match us, hl with | [_], _ => rfl, fun _ h => absurd rfl h⟩
theorem b47 : BindOk d47 := ⟨fun _ _ _ _ _ _ _ us hl => match us, hl with | [_], _ => rfl, fun _ h => absurd rfl h⟩
theorem b48 : BindOk d48 := ⟨fun _ _ _ _ _ _ _ us hl => match us, hl with | [_], _ => rfl, fun _ h => absurd rfl h⟩
theorem b49 : BindOk d49 := ⟨fun _ _ _ _ _ _ _ us hl => match us, hl with | [_], _ => rfl, fun _ h => absurd rfl h⟩
theorem binds : ∀ d ∈ dfs, BindOk d := bindAll_ok ⟨b0, b1, b2, b3, b4, b5, b6, b7, b8, b9, b10, b11, b12, b13, b14, b15, b16, b17, b18, b19, b20, b21, b22, b23, b24, b25, b26, b27, b28, b29, b30, b31, b32, b33, b34, b35, b36, b37, b38, b39, b40, b41, b42, b43, b44, b45, b46, b47, b48, b49, trivial⟩
theorem dfs_ok : dfs.all dfOk = true := by kernel_rfl
theorem dfs_cst : dfs.all (fun d => d.ds.all cstB) = true := by rfl
abbrev R : PySem.W.OpenRow := PySem.W.OpenLaw.row PySem.Challenge.rw_lotsdivisors_k59_across_ramanujan_sums
abbrev hk : PySem.W.Hook := He.hookX 6 (faOf tops dfs) (dfs.map ddOf) [] [] (exB tops)
def ob (s : PySem.W.SharedT) : He.AlX := He.obsX 6 (faOf tops dfs) (dfs.map ddOf) [] [] (exB tops) (HandSHeadRun.getT s)
theorem ob_eq (s : PySem.W.SharedT) : ob s = hk.obs s.abs := He.obsX_eq (HandSHeadRun.getT_eq s)
theorem run (w : World) : HandSHeadRun.RunEqI R (PySem.W.view R.prog [0, 79]) hk ob 4000 loose w := by
  unfold HandSHeadRun.RunEqI
  kernel_rfl
end Lk59
namespace Lk59
open PySem Lv
theorem at_is_whole : (code tops dfs)[0]? = some F_is_whole := code_at (d := d0) rfl (by kernel_rfl)
theorem o_is_whole : Ok_is_whole (code tops dfs) 0 := ok_is_whole at_is_whole 
theorem at_is_within_bounds : (code tops dfs)[1]? = some (F_is_within_bounds 0) := code_at (d := d1) rfl (by kernel_rfl)
theorem o_is_within_bounds : Ok_is_within_bounds (code tops dfs) 1 := ok_is_within_bounds at_is_within_bounds o_is_whole
theorem at_need_number : (code tops dfs)[2]? = some (F_need_number 1) := code_at (d := d2) rfl (by kernel_rfl)
theorem o_need_number : Ok_need_number (code tops dfs) 2 := ok_need_number at_need_number o_is_within_bounds
theorem at_need_reach : (code tops dfs)[3]? = some (F_need_reach 1) := code_at (d := d3) rfl (by kernel_rfl)
theorem o_need_reach : Ok_need_reach (code tops dfs) 3 := ok_need_reach at_need_reach o_is_within_bounds
theorem at_is_next : (code tops dfs)[4]? = some F_is_next := code_at (d := d4) rfl (by kernel_rfl)
theorem o_is_next : Ok_is_next (code tops dfs) 4 := ok_is_next at_is_next 
theorem at_is_row_of : (code tops dfs)[5]? = some (F_is_row_of 1 4) := code_at (d := d5) rfl (by kernel_rfl)
theorem o_is_row_of : Ok_is_row_of (code tops dfs) 5 := ok_is_row_of at_is_row_of o_is_within_bounds o_is_next
theorem at_is_law_of : (code tops dfs)[6]? = some (F_is_law_of 5) := code_at (d := d6) rfl (by kernel_rfl)
theorem o_is_law_of : Ok_is_law_of (code tops dfs) 6 := ok_is_law_of at_is_law_of o_is_row_of
theorem at_need_law : (code tops dfs)[7]? = some (F_need_law 6) := code_at (d := d7) rfl (by kernel_rfl)
theorem o_need_law : Ok_need_law (code tops dfs) 7 := ok_need_law at_need_law o_is_law_of
theorem at_factors_of : (code tops dfs)[8]? = some F_factors_of := code_at (d := d8) rfl (by kernel_rfl)
theorem o_factors_of : Ok_factors_of (code tops dfs) 8 := ok_factors_of at_factors_of 
theorem at_type_by : (code tops dfs)[9]? = some F_type_by := code_at (d := d9) rfl (by kernel_rfl)
theorem o_type_by : Ok_type_by (code tops dfs) 9 := ok_type_by at_type_by 
theorem at_powered : (code tops dfs)[10]? = some F_powered := code_at (d := d10) rfl (by kernel_rfl)
theorem o_powered : Ok_powered (code tops dfs) 10 := ok_powered at_powered 
theorem at_lot_by : (code tops dfs)[11]? = some (F_lot_by 8 9 10) := code_at (d := d11) rfl (by kernel_rfl)
theorem o_lot_by : Ok_lot_by (code tops dfs) 11 := ok_lot_by at_lot_by o_factors_of o_type_by o_powered
theorem at_meet_by : (code tops dfs)[12]? = some (F_meet_by 11) := code_at (d := d12) rfl (by kernel_rfl)
theorem o_meet_by : Ok_meet_by (code tops dfs) 12 := ok_meet_by at_meet_by o_lot_by
theorem at_all_lots : (code tops dfs)[13]? = some (F_all_lots 11) := code_at (d := d13) rfl (by kernel_rfl)
theorem o_all_lots : Ok_all_lots (code tops dfs) 13 := ok_all_lots at_all_lots o_lot_by
theorem at_lot : (code tops dfs)[14]? = some (F_lot 7 2 11) := code_at (d := d14) rfl (by kernel_rfl)
theorem o_lot : Ok_lot (code tops dfs) 14 := ok_lot at_lot o_need_law o_need_number o_lot_by
theorem at_is_in : (code tops dfs)[15]? = some (F_is_in 7 2 11) := code_at (d := d15) rfl (by kernel_rfl)
theorem o_is_in : Ok_is_in (code tops dfs) 15 := ok_is_in at_is_in o_need_law o_need_number o_lot_by
theorem at_meet : (code tops dfs)[16]? = some (F_meet 7 2 12) := code_at (d := d16) rfl (by kernel_rfl)
theorem o_meet : Ok_meet (code tops dfs) 16 := ok_meet at_meet o_need_law o_need_number o_meet_by
theorem at_share : (code tops dfs)[17]? = some F_share := code_at (d := d17) rfl (by kernel_rfl)
theorem o_share : Ok_share (code tops dfs) 17 := ok_share at_share 
theorem at_plus : (code tops dfs)[18]? = some (F_plus 17) := code_at (d := d18) rfl (by kernel_rfl)
theorem o_plus : Ok_plus (code tops dfs) 18 := ok_plus at_plus o_share
theorem at_less : (code tops dfs)[19]? = some (F_less 17) := code_at (d := d19) rfl (by kernel_rfl)
theorem o_less : Ok_less (code tops dfs) 19 := ok_less at_less o_share
theorem at_by_both : (code tops dfs)[20]? = some (F_by_both 17) := code_at (d := d20) rfl (by kernel_rfl)
theorem o_by_both : Ok_by_both (code tops dfs) 20 := ok_by_both at_by_both o_share
theorem at_by_part : (code tops dfs)[21]? = some (F_by_part 17) := code_at (d := d21) rfl (by kernel_rfl)
theorem o_by_part : Ok_by_part (code tops dfs) 21 := ok_by_part at_by_part o_share
theorem at_is_fraction : (code tops dfs)[22]? = some (F_is_fraction 0) := code_at (d := d22) rfl (by kernel_rfl)
theorem o_is_fraction : Ok_is_fraction (code tops dfs) 22 := ok_is_fraction at_is_fraction o_is_whole
theorem at_is_table_of : (code tops dfs)[23]? = some (F_is_table_of 22) := code_at (d := d23) rfl (by kernel_rfl)
theorem o_is_table_of : Ok_is_table_of (code tops dfs) 23 := ok_is_table_of at_is_table_of o_is_fraction
theorem at_need_table : (code tops dfs)[24]? = some (F_need_table 23) := code_at (d := d24) rfl (by kernel_rfl)
theorem o_need_table : Ok_need_table (code tops dfs) 24 := ok_need_table at_need_table o_is_table_of
theorem at_need_other : (code tops dfs)[25]? = some (F_need_other 23) := code_at (d := d25) rfl (by kernel_rfl)
theorem o_need_other : Ok_need_other (code tops dfs) 25 := ok_need_other at_need_other o_is_table_of
theorem at_ones_by : (code tops dfs)[26]? = some F_ones_by := code_at (d := d26) rfl (by kernel_rfl)
theorem o_ones_by : Ok_ones_by (code tops dfs) 26 := ok_ones_by at_ones_by 
theorem at_greatest_by : (code tops dfs)[27]? = some (F_greatest_by 11) := code_at (d := d27) rfl (by kernel_rfl)
theorem o_greatest_by : Ok_greatest_by (code tops dfs) 27 := ok_greatest_by at_greatest_by o_lot_by
theorem at_mark_at : (code tops dfs)[28]? = some (F_mark_at 8 9) := code_at (d := d28) rfl (by kernel_rfl)
theorem o_mark_at : Ok_mark_at (code tops dfs) 28 := ok_mark_at at_mark_at o_factors_of o_type_by
theorem at_ramanujan_by : (code tops dfs)[29]? = some (F_ramanujan_by 11 28) := code_at (d := d29) rfl (by kernel_rfl)
theorem o_ramanujan_by : Ok_ramanujan_by (code tops dfs) 29 := ok_ramanujan_by at_ramanujan_by o_lot_by o_mark_at
theorem at_need_far : (code tops dfs)[30]? = some (F_need_far 1) := code_at (d := d30) rfl (by kernel_rfl)
theorem o_need_far : Ok_need_far (code tops dfs) 30 := ok_need_far at_need_far o_is_within_bounds
theorem at_greatest : (code tops dfs)[31]? = some (F_greatest 7 30 2 27) := code_at (d := d31) rfl (by kernel_rfl)
theorem o_greatest : Ok_greatest (code tops dfs) 31 := ok_greatest at_greatest o_need_law o_need_far o_need_number o_greatest_by
theorem at_ramanujan : (code tops dfs)[32]? = some (F_ramanujan 7 30 2 29) := code_at (d := d32) rfl (by kernel_rfl)
theorem o_ramanujan : Ok_ramanujan (code tops dfs) 32 := ok_ramanujan at_ramanujan o_need_law o_need_far o_need_number o_ramanujan_by
theorem at_product_by : (code tops dfs)[33]? = some (F_product_by 18 20) := code_at (d := d33) rfl (by kernel_rfl)
theorem o_product_by : Ok_product_by (code tops dfs) 33 := ok_product_by at_product_by o_plus o_by_both
theorem at_inverse_by : (code tops dfs)[34]? = some (F_inverse_by 21 19 20) := code_at (d := d34) rfl (by kernel_rfl)
theorem o_inverse_by : Ok_inverse_by (code tops dfs) 34 := ok_inverse_by at_inverse_by o_by_part o_less o_by_both
theorem at_marks_by : (code tops dfs)[35]? = some (F_marks_by 34 13 26) := code_at (d := d35) rfl (by kernel_rfl)
theorem o_marks_by : Ok_marks_by (code tops dfs) 35 := ok_marks_by at_marks_by o_inverse_by o_all_lots o_ones_by
theorem at_marks : (code tops dfs)[36]? = some (F_marks 7 3 35) := code_at (d := d36) rfl (by kernel_rfl)
theorem o_marks : Ok_marks (code tops dfs) 36 := ok_marks at_marks o_need_law o_need_reach o_marks_by
theorem at_told_back : (code tops dfs)[37]? = some (F_told_back 7 24 33 13 35) := code_at (d := d37) rfl (by kernel_rfl)
theorem o_told_back : Ok_told_back (code tops dfs) 37 := ok_told_back at_told_back o_need_law o_need_table o_product_by o_all_lots o_marks_by
theorem at_product : (code tops dfs)[38]? = some (F_product 7 24 25 33 13) := code_at (d := d38) rfl (by kernel_rfl)
theorem o_product : Ok_product (code tops dfs) 38 := ok_product at_product o_need_law o_need_table o_need_other o_product_by o_all_lots
theorem at_need_numbers : (code tops dfs)[39]? = some (F_need_numbers 1) := code_at (d := d39) rfl (by kernel_rfl)
theorem o_need_numbers : Ok_need_numbers (code tops dfs) 39 := ok_need_numbers at_need_numbers o_is_within_bounds
theorem at_is_closed_by : (code tops dfs)[40]? = some (F_is_closed_by 11) := code_at (d := d40) rfl (by kernel_rfl)
theorem o_is_closed_by : Ok_is_closed_by (code tops dfs) 40 := ok_is_closed_by at_is_closed_by o_lot_by
theorem at_is_closed : (code tops dfs)[41]? = some (F_is_closed 7 39 40) := code_at (d := d41) rfl (by kernel_rfl)
theorem o_is_closed : Ok_is_closed (code tops dfs) 41 := ok_is_closed at_is_closed o_need_law o_need_numbers o_is_closed_by
theorem at__law_begun : (code tops dfs)[42]? = some F__law_begun := code_at (d := d42) rfl (by kernel_rfl)
theorem o__law_begun : Ok__law_begun (code tops dfs) 42 := ok__law_begun at__law_begun 
theorem at__law_mixed : (code tops dfs)[43]? = some F__law_mixed := code_at (d := d43) rfl (by kernel_rfl)
theorem o__law_mixed : Ok__law_mixed (code tops dfs) 43 := ok__law_mixed at__law_mixed 
theorem at__law_take : (code tops dfs)[44]? = some (F__law_take 43) := code_at (d := d44) rfl (by kernel_rfl)
theorem o__law_take : Ok__law_take (code tops dfs) 44 := ok__law_take at__law_take o__law_mixed
theorem at__law_pick : (code tops dfs)[45]? = some (F__law_pick 44) := code_at (d := d45) rfl (by kernel_rfl)
theorem o__law_pick : Ok__law_pick (code tops dfs) 45 := ok__law_pick at__law_pick o__law_take
theorem at__law_type_rows : (code tops dfs)[46]? = some F__law_type_rows := code_at (d := d46) rfl (by kernel_rfl)
theorem o__law_type_rows : Ok__law_type_rows (code tops dfs) 46 := ok__law_type_rows at__law_type_rows 
theorem at__law_law : (code tops dfs)[47]? = some (F__law_law 44 45 46) := code_at (d := d47) rfl (by kernel_rfl)
theorem o__law_law : Ok__law_law (code tops dfs) 47 := ok__law_law at__law_law o__law_take o__law_pick o__law_type_rows
theorem at__law_right : (code tops dfs)[48]? = some (F__law_right_v2 47 45 44 14 36 31 15 32 38 16 37 41) := code_at (d := d48) rfl (by kernel_rfl)
theorem o__law_right : Ok_right59 (code tops dfs) 48 := ok_right59 at__law_right o__law_law o__law_pick o__law_take o_lot o_marks o_greatest o_is_in o_ramanujan o_product o_meet o_told_back o_is_closed
theorem at_law : (code tops dfs)[49]? = some (F_law_v2 42 48 32) := code_at (d := d49) rfl (by kernel_rfl)
theorem o_law : Ok_law59 (code tops dfs) 49 := ok_law59 at_law o__law_begun o__law_right o_ramanujan
end Lk59
open PySem PySem.W PySem.Calls PyProof.Rows
theorem Lk59_yes : Lv.LawYes (Lv.code Lk59.tops Lk59.dfs) 21 Lk59.lawAt 63 := fun ns h1 h2 => Lk59.o_law 21 (by decide) ns h1 h2
theorem PySem.Challenge.cw_lotsdivisors_k59_across_ramanujan_sums_holds : PySem.Challenge.rw_lotsdivisors_k59_across_ramanujan_sums.Holds := by
  w_on; o_law
  refine HandSHeadRun.head_imp (r := Lk59.R) (q := view Lk59.R.prog [0, 79]) (H := Lk59.hk) (ob := Lk59.ob) (M := 4000) (loose := Lk59.loose) (d := HandSHeadRun.topDef Lk59.R.prog 79) (kwd := []) Lk59.ob_eq
    Lk59.run (by kernel_rfl) (by kernel_rfl) (by kernel_rfl) (by rfl) (by first | assumption | decide +kernel) (by decide +kernel) ⟨rfl, rfl, rfl, rfl, rfl, by decide +kernel⟩ ?hw ?hc
  case hw => w_witness2
  case hc =>
    exact Lv.law_end (l := PySem.Challenge.rw_lotsdivisors_k59_across_ramanujan_sums) (n := 63) (k := 20) (x := "script") (ld := Lk59.d49) rfl (by decide) (by kernel_rfl) ⟨rfl, by decide, by decide⟩ rfl (by kernel_rfl) rfl rfl Lk59.binds Lk59.dfs_ok Lk59.dfs_cst Lk59_yes
