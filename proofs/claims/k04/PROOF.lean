import PyProof.Rows.All
import HandS.ForMost
import HandS.Flow
import HandS.SetKeys
import HandS.SetFor
import HandS.Rev
import HandS.RevRange
import HandS.Zip
import HandS.Deep
import HandS.SortInts
import HandS.TupAny
import HandS.TupLe
import HandS.Wide
import HandS.IsInst
import HandS.Gcd
import KE.GoesMore
import HandS.Small
import HandS.Text
import PySem.Challenge.RW_nonerunsdry_k04_parts_reached
set_option Elab.async false
set_option linter.all false
set_option maxRecDepth 100000
/-! A small machine of our own: Python's pure part with a store, as a function. -/
namespace Mi
open PySem L2

/-! ### data, store, slots -/
inductive D where
  | non | bl (b : Bool) | int (i : Int) | str (x : Str) | tup (xs : List D) | ptr (n : Nat)
  deriving Inhabited
inductive O where
  | lst (xs : List D)
  | frz (xs : List D)
  | dct (kvs : List (Key × D))
abbrev Sto := List O
inductive Ix where
  | z
  | s (i : Ix)
  deriving DecidableEq
def Ix.nat : Ix → Nat
  | .z => 0
  | .s i => i.nat + 1
abbrev Env := List (Option D)
def look : Env → Ix → Option D
  | [], _ => none
  | a :: _, .z => a
  | _ :: r, .s i => look r i
def put : Env → Ix → Option D → Env
  | [], _, _ => []
  | _ :: r, .z, d => d :: r
  | a :: r, .s i, d => a :: put r i d
def wip (ρ : Env) : List Ix → Env
  | [] => ρ
  | v :: vs => put (wip ρ vs) v none

/-! ### the text -/
inductive Tg where
  | name (i : Ix)
  | tup (ts : List Tg)
inductive Bt where
  | len | abs | int | bool | str | tuple | list | sorted | sum | any | all | max1 | min1 | max2 | min2 | listRange
  deriving DecidableEq
inductive Mt where
  | append | pop | popAt | extend | insert | join | get1 | get2
  deriving DecidableEq
inductive Ty where
  | int | bool | str | tuple | list | tupleList
  deriving DecidableEq
mutual
inductive IE where
  | var (i : Ix)
  | cst (d : D)
  | bin (op : Operator) (a b : IE)
  | neg (a : IE)
  | cmp (op : CmpOp) (a b : IE)
  | chn (op op' : CmpOp) (a b c : IE)
  | not (a : IE)
  | and (a b : IE)
  | or (a b : IE)
  | ite (c : IC) (a b : IE)
  | idx (a b : IE)
  | slc (a : IE) (lo hi : IP)
  | tup (es : IEs)
  | lst (es : IEs)
  | dsp (kvs : IKV)
  | call (f : Nat) (es : IEs)
  | callK (f : Nat) (es ks : IEs) (pm : List Nat)
  | blt (b : Bt) (es : IEs)
  | mth (m : Mt) (o : IE) (es : IEs)
  | isi (a : IE) (t : Ty)
  | lc (elt : IE) (tg : Tg) (it : II) (ifs : IO) (own : List Ix)
  | lc2 (elt : IE) (tg : Tg) (it : II) (ifs : IO) (tg1 : Tg) (it1 : II) (ifs1 : IO) (own own1 : List Ix)
inductive IC where
  | val (e : IE)
  | not (c : IC)
  | and (a b : IC)
  | or (a b : IC)
inductive IP where
  | no
  | yes (e : IE)
inductive IO where
  | yes
  | one (c : IC)
inductive IKV where
  | nil
  | cons (k v : IE) (r : IKV)
inductive IEs where
  | nil
  | cons (e : IE) (es : IEs)
inductive II where
  | seq (a : IE)
  | rng1 (a : IE)
  | rng2 (a b : IE)
  | enm (a : IE)
  | zip (a b : IE)
  | rev (a : IE)
end
mutual
inductive IS where
  | asg (t : Tg) (e : IE)
  | asgS (o i e : IE)
  | aug (i : Ix) (op : Operator) (e : IE)
  | augS (o i : IE) (op : Operator) (e : IE)
  | exp (e : IE)
  | ret (e : IE)
  | retN
  | ite (c : IC) (a b : ISs)
  | whl (c : IC) (b : ISs)
  | for (t : Tg) (it : II) (b : ISs)
  | brk
  | cnt
  | pas
inductive ISs where
  | nil
  | cons (s : IS) (r : ISs)
end

/-! ### operations -/
abbrev M (α : Type) := Option (α × Sto)
def mulOk (i j : Int) : Bool := (decide (-(2 ^ 64) < i) && decide (i < 2 ^ 64)) || (decide (-(2 ^ 64) < j) && decide (j < 2 ^ 64)) || decide (i.natAbs.log2 + j.natAbs.log2 < 1000000)
def divOk (j : Int) : Bool := decide (0 < j) && (decide (j < 1073741824) || decide (j.natAbs.log2 < 9000))
def powOk (i j : Int) : Bool := decide (0 ≤ j) && decide (j ≤ 1000000) && decide (i.natAbs < 2 ^ 64)
def lstOf (S : Sto) (n : Nat) : Option (List D) := match S[n]? with
  | some (.lst xs) => some xs
  | some (.frz xs) => some xs
  | _ => none
def mutOf (S : Sto) (n : Nat) : Option (List D) := match S[n]? with
  | some (.lst xs) => some xs
  | _ => none
def dctOf (S : Sto) (n : Nat) : Option (List (Key × D)) := match S[n]? with
  | some (.dct xs) => some xs
  | _ => none
def binD (op : Operator) (x y : D) (S : Sto) : M D :=
  match x, y with
  | .int i, .int j =>
    (match op with
    | .Add => some (.int (i + j), S)
    | .Sub => some (.int (i - j), S)
    | .Mult => if mulOk i j then some (.int (i * j), S) else none
    | .FloorDiv => if divOk j then some (.int (i / j), S) else none
    | .Mod => if decide (0 < j) then some (.int (i % j), S) else none
    | .Pow => if powOk i j then some (.int (i ^ j.toNat), S) else none
    | .LShift => if powOk i j then some (.int (i * 2 ^ j.toNat), S) else none
    | _ => none)
  | .str a, .str b =>
    (match op with
    | .Add => if decide (a.length + b.length ≤ sizeLine) then some (.str (a ++ b), S) else none
    | _ => none)
  | .tup a, .tup b =>
    (match op with
    | .Add => if decide (a.length + b.length ≤ sizeLine) then some (.tup (a ++ b), S) else none
    | _ => none)
  | .ptr a, .ptr b =>
    (match op with
    | .Add => (match mutOf S a, mutOf S b with
      | some xs, some ys => if decide (xs.length + ys.length ≤ sizeLine) then some (.ptr S.length, S ++ [.lst (xs ++ ys)]) else none
      | _, _ => none)
    | _ => none)
  | .ptr a, .int k =>
    (match op with
    | .Mult => (match mutOf S a with
      | some xs => if decide (-(2 ^ 63) ≤ k) && decide (k < 2 ^ 63) && decide (xs.length * k.toNat ≤ sizeLine) then some (.ptr S.length, S ++ [.lst (List.replicate k.toNat xs).flatten]) else none
      | _ => none)
    | _ => none)
  | _, _ => none
/-- scalars by == -/
def eqS : D → D → Option Bool
  | .non, .non => some true
  | .non, .int _ => some false
  | .int _, .non => some false
  | .non, .bl _ => some false
  | .bl _, .non => some false
  | .non, .str _ => some false
  | .str _, .non => some false
  | .int i, .int j => some (decide (i = j))
  | .bl i, .bl j => some (decide (i = j))
  | .str i, .str j => some (decide (i = j))
  | .int _, .str _ => some false
  | .str _, .int _ => some false
  | .bl _, .str _ => some false
  | .str _, .bl _ => some false
  | _, _ => none
def flatD : D → Bool
  | .non => true
  | .bl _ => true
  | .int _ => true
  | .str _ => true
  | _ => false
def b2z (b : Bool) : Int := if b then 1 else 0
def eqF : D → D → Bool
  | .non, .non => true
  | .bl a, .bl b => a == b
  | .bl a, .int b => b2z a == b
  | .int a, .bl b => a == b2z b
  | .int a, .int b => a == b
  | .str a, .str b => a == b
  | _, _ => false
mutual
def pd : D → Option PyData
  | .non => some .none
  | .bl b => some (.bool b)
  | .int i => some (.int i)
  | .str x => some (.str x)
  | .tup xs => (pds xs).map .tuple
  | .ptr _ => none
def pds : List D → Option (List PyData)
  | [] => some []
  | d :: ds => (pd d).bind fun a => (pds ds).map fun b => a :: b
end
/-- == of scalars, then of data at any depth -/
def eqA (x y : D) : Option Bool := match eqS x y with
  | some b => some b
  | none => (pd x).bind fun a => (pd y).bind fun b => if SeqAt.shaped a && SeqAt.shaped b then some (PyData.eqv a b) else none
def inF (t : Bool) (x : D) (xs : List D) : Option Bool := if flatD x && xs.all flatD then some (xs.any fun y => eqF y x) else
  (pd x).bind fun a => (pds xs).bind fun bs => if SeqAt.shaped a && SeqAt.shaped (if t then .tuple bs else .list bs) then some (bs.any fun z => PyData.eqv z a) else none
def keyOf : D → Option Key
  | .int i => some (.inl i)
  | .str x => some (.inr x)
  | _ => none
def getK (kvs : List (Key × D)) (k : Key) : Option D := (kvs.find? fun kv => decide (kv.1 = k)).map (·.2)
def putKD (kvs : List (Key × D)) (k : Key) (v : D) : List (Key × D) :=
  if (kvs.any fun kv => decide (kv.1 = k)) = true then kvs.map (fun kv => if kv.1 = k then (kv.1, v) else kv) else kvs ++ [(k, v)]
def inD (x y : D) (S : Sto) : Option Bool := match y with
  | .tup xs => inF true x xs
  | .ptr n => (match S[n]? with
    | some (.lst xs) => inF false x xs
    | some (.frz xs) => inF false x xs
    | some (.dct kvs) => (keyOf x).map fun k => (getK kvs k).isSome
    | _ => none)
  | _ => none
def cmpD (op : CmpOp) (x y : D) (S : Sto) : Option Bool :=
  match op with
  | .Eq => eqA x y
  | .NotEq => (eqA x y).map (!·)
  | .Lt => (match x, y with | .int i, .int j => some (decide (i < j)) | _, _ => none)
  | .LtE => (match x, y with | .int i, .int j => some (decide (i ≤ j)) | _, _ => none)
  | .Gt => (match x, y with | .int i, .int j => some (decide (j < i)) | _, _ => none)
  | .GtE => (match x, y with | .int i, .int j => some (decide (j ≤ i)) | _, _ => none)
  | .Is => (match x, y with | .non, .non => some true | _, .non => some false | _, _ => none)
  | .IsNot => (match x, y with | .non, .non => some false | _, .non => some true | _, _ => none)
  | .In => inD x y S
  | .NotIn => (inD x y S).map (!·)
def truD (x : D) (S : Sto) : Option Bool := match x with
  | .non => some false
  | .bl b => some b
  | .int i => some (i != 0)
  | .str y => if decide (y.length ≤ sizeLine) then some (((y.length : Nat) : Int) != 0) else none
  | .tup xs => some (!xs.isEmpty)
  | .ptr n => (lstOf S n).map fun xs => !xs.isEmpty
def intsOf : List D → Option (List Int)
  | [] => some []
  | .int i :: r => (intsOf r).map fun l => i :: l
  | _ :: _ => none
def bolsOf : List D → Option (List Bool)
  | [] => some []
  | .bl i :: r => (bolsOf r).map fun l => i :: l
  | _ :: _ => none
def strsOf : List D → Option (List Str)
  | [] => some []
  | .str i :: r => (strsOf r).map fun l => i :: l
  | _ :: _ => none
def ins (i : Int) : List Int → List Int
  | [] => [i]
  | j :: r => if i ≤ j then i :: j :: r else j :: ins i r
def isort : List Int → List Int
  | [] => []
  | i :: r => ins i (isort r)
def maxL : Int → List Int → Int
  | m, [] => m
  | m, j :: r => maxL (if j > m then j else m) r
def minL : Int → List Int → Int
  | m, [] => m
  | m, j :: r => minL (if j < m then j else m) r
def idxD (x y : D) (S : Sto) : Option D :=
  match x, y with
  | .tup xs, .int i => atI xs i
  | .str z, .int i => if decide (z.length ≤ sizeLine) then (atI z.cps.toList i).map fun c => .str ⟨#[c]⟩ else none
  | .ptr n, .int i => (match S[n]? with
    | some (.lst xs) => atI xs i
    | some (.frz xs) => atI xs i
    | some (.dct kvs) => getK kvs (.inl i)
    | _ => none)
  | .ptr n, .str k => (match S[n]? with
    | some (.dct kvs) => getK kvs (.inr k)
    | _ => none)
  | _, _ => none
def cutD (xs : List D) (lo hi : Option Int) : List D := (xs.drop (HT.sIx xs.length 0 lo)).take (HT.sIx xs.length xs.length hi - HT.sIx xs.length 0 lo)
def slcD (x : D) (l h : Option Int) (S : Sto) : M D :=
  match x with
    | .tup xs => some (.tup (cutD xs l h), S)
    | .str z => if decide (z.length ≤ sizeLine) then some (.str (cutS z l h), S) else none
    | .ptr n => (lstOf S n).map fun xs => (.ptr S.length, S ++ [.lst (cutD xs l h)])
    | _ => none
def bltD (b : Bt) (vs : List D) (S : Sto) : M D :=
  match b, vs with
  | .len, [.tup xs] => some (.int xs.length, S)
  | .len, [.str z] => if decide (z.length ≤ sizeLine) then some (.int z.length, S) else none
  | .len, [.ptr n] => (match S[n]? with
    | some (.lst xs) => some (.int xs.length, S)
    | some (.frz xs) => some (.int xs.length, S)
    | some (.dct kvs) => some (.int kvs.length, S)
    | _ => none)
  | .abs, [.int i] => some (.int (if i < 0 then -i else i), S)
  | .int, [.int i] => some (.int i, S)
  | .int, [.bl k] => some (.int (if k then 1 else 0), S)
  | .bool, [.int i] => some (.bl (i != 0), S)
  | .bool, [.bl k] => some (.bl k, S)
  | .str, [.int i] => if decide (i.natAbs.log2 < 1920) then some (.str (toString i), S) else none
  | .tuple, [.tup xs] => some (.tup xs, S)
  | .tuple, [.ptr n] => (lstOf S n).map fun xs => (.tup xs, S)
  | .list, [.tup xs] => some (.ptr S.length, S ++ [.lst xs])
  | .list, [.ptr n] => (lstOf S n).map fun xs => (.ptr S.length, S ++ [.lst xs])
  | .sorted, [.ptr n] => (lstOf S n).bind fun xs => (intsOf xs).map fun is => (.ptr S.length, S ++ [.lst ((isort is).map D.int)])
  | .sum, [.ptr n] => (lstOf S n).bind fun xs => (intsOf xs).map fun is => (.int is.sum, S)
  | .any, [.ptr n] => (lstOf S n).bind fun xs => (bolsOf xs).map fun is => (.bl (is.any id), S)
  | .all, [.ptr n] => (lstOf S n).bind fun xs => (bolsOf xs).map fun is => (.bl (is.all id), S)
  | .max1, [.ptr n] => (lstOf S n).bind fun xs => (intsOf xs).bind fun is => match is with
    | [] => none
    | i :: r => some (.int (maxL i r), S)
  | .min1, [.ptr n] => (lstOf S n).bind fun xs => (intsOf xs).bind fun is => match is with
    | [] => none
    | i :: r => some (.int (minL i r), S)
  | .max2, [.int i, .int j] => some (.int (if j > i then j else i), S)
  | .min2, [.int i, .int j] => some (.int (if j < i then j else i), S)
  | .listRange, [.int i] => if decide (-(2 ^ 62) ≤ i) && decide (i < 1000000) then some (.ptr S.length, S ++ [.lst ((List.range i.toNat).map fun k => D.int (k : Nat))]) else none
  | _, _ => none
/-- the receiver is of the method's kind -/
def rcvOk (m : Mt) (o : D) (S : Sto) : Bool := match m, o with
  | .join, .str _ => true
  | .get1, .ptr n => (dctOf S n).isSome
  | .get2, .ptr n => (dctOf S n).isSome
  | .join, _ => false
  | _, .ptr n => (mutOf S n).isSome
  | _, _ => false
def mthD (m : Mt) (o : D) (vs : List D) (S : Sto) : M D :=
  match m, o, vs with
  | .append, .ptr n, [y] => (mutOf S n).bind fun xs => if decide (xs.length < sizeLine) then some (.non, S.set n (.lst (xs ++ [y]))) else none
  | .pop, .ptr n, [] => (mutOf S n).bind fun xs => (xs[xs.length - 1]?).map fun y => (y, S.set n (.lst xs.dropLast))
  | .popAt, .ptr n, [.int i] => (mutOf S n).bind fun xs => (ixN xs.length i).bind fun k => if decide (xs.length ≤ sizeLine) then (xs[k]?).map fun y => (y, S.set n (.lst (xs.eraseIdx k))) else none
  | .extend, .ptr n, [.ptr k] => (mutOf S n).bind fun xs => (mutOf S k).bind fun ys => if decide (xs.length + ys.length ≤ sizeLine) then some (.non, S.set n (.lst (xs ++ ys))) else none
  | .insert, .ptr n, [.int i, y] => (mutOf S n).bind fun xs => if decide (xs.length < sizeLine) && decide (0 ≤ i) && decide (i < 2 ^ 63) then some (.non, S.set n (.lst (xs.take i.toNat ++ [y] ++ xs.drop i.toNat))) else none
  | .join, .str a, [.ptr n] => (lstOf S n).bind fun xs => (strsOf xs).bind fun ys => if decide ((ys.map (·.length)).sum + ys.length * a.length ≤ 16777216) then some (.str (Txt.join a ys), S) else none
  | .join, .str a, [.tup xs] => (strsOf xs).bind fun ys => if decide ((ys.map (·.length)).sum + ys.length * a.length ≤ 16777216) then some (.str (Txt.join a ys), S) else none
  | .get1, .ptr n, [k] => (dctOf S n).bind fun kvs => (keyOf k).map fun k => ((getK kvs k).getD .non, S)
  | .get2, .ptr n, [k, d] => (dctOf S n).bind fun kvs => (keyOf k).map fun k => ((getK kvs k).getD d, S)
  | _, _, _ => none
def tyOf (x : D) (S : Sto) : Option Ty := match x with
  | .bl _ => some .bool
  | .int _ => some .int
  | .str _ => some .str
  | .tup _ => some .tuple
  | .ptr n => (match S[n]? with
    | some (.lst _) => some .list
    | _ => none)
  | .non => none
def isT (t u : Ty) : Bool := match t with
  | .tupleList => decide (u = .tuple) || decide (u = .list)
  | .int => decide (u = .int) || decide (u = .bool)
  | t => decide (u = t)
def isiD (x : D) (t : Ty) (S : Sto) : Option Bool := match x with
  | .non => some false
  | x => (tyOf x S).map fun u => isT t u

/-! ### what is walked -/
inductive IT where
  | tup (xs : List D)
  | ptr (n : Nat)
  | rng (lo : Int) (n : Nat)
  | enmT (xs : List D)
  | enmP (n : Nat)
  | zipT (xs ys : List D)
  | zipP (n k : Nat)
  | str (z : Str)
  | revT (xs : List D)
def itm (it : IT) (i : Nat) (S : Sto) : Option (Option D) := match it with
  | .tup xs => some xs[i]?
  | .ptr n => (lstOf S n).map fun xs => xs[i]?
  | .rng lo n => some (if i < n then some (.int (lo + (i : Nat))) else none)
  | .enmT xs => some ((xs[i]?).map fun x => .tup [.int (i : Nat), x])
  | .enmP n => (lstOf S n).map fun xs => (xs[i]?).map fun x => .tup [.int (i : Nat), x]
  | .zipT xs ys => some (match xs[i]?, ys[i]? with | some x, some y => some (.tup [x, y]) | _, _ => none)
  | .zipP n k => (lstOf S n).bind fun xs => (lstOf S k).map fun ys => (match xs[i]?, ys[i]? with | some x, some y => some (.tup [x, y]) | _, _ => none)
  | .str z => some ((z.cps.toList[i]?).map fun c => .str ⟨#[c]⟩)
  | .revT xs => some (if i < xs.length then xs[xs.length - 1 - i]? else none)
/-- how many turns at most -/
def cntI (it : IT) (S : Sto) : Nat := match it with
  | .tup xs => xs.length
  | .ptr n => ((lstOf S n).getD []).length
  | .rng _ n => n
  | .enmT xs => xs.length
  | .enmP n => ((lstOf S n).getD []).length
  | .zipT xs _ => xs.length
  | .zipP n _ => ((lstOf S n).getD []).length
  | .str z => z.cps.toList.length
  | .revT xs => xs.length
mutual
def tgt : Tg → D → Env → Option Env
  | .name i, d, ρ => some (put ρ i (some d))
  | .tup ts, .tup ds, ρ => tgts ts ds ρ
  | .tup _, _, _ => none
def tgts : List Tg → List D → Env → Option Env
  | [], [], ρ => some ρ
  | t :: ts, d :: ds, ρ => (tgt t d ρ).bind fun ρ' => tgts ts ds ρ'
  | _, _, _ => none
end
/-- the turns of a walk over the store alone -/
def itLoop (it : IT) (turn : D → Sto → Option Sto) : Nat → Nat → Sto → Option Sto
  | 0, i, S => (itm it i S).bind fun o => match o with
    | none => some S
    | some _ => none
  | k + 1, i, S => (itm it i S).bind fun o => match o with
    | none => some S
    | some d => (turn d S).bind fun S1 => itLoop it turn k (i + 1) S1
def lcApp (l : Nat) (d : D) (S : Sto) : Option Sto := (mutOf S l).bind fun acc => if decide (acc.length < sizeLine) then some (S.set l (.lst (acc ++ [d]))) else none
abbrev CallT := Nat → List D → Sto → M D

mutual
def ev (C : CallT) : IE → Env → Sto → M D
  | .var i, ρ, S => (look ρ i).map fun d => (d, S)
  | .cst d, _, S => some (d, S)
  | .bin op a b, ρ, S => (ev C a ρ S).bind fun r => (ev C b ρ r.2).bind fun q => binD op r.1 q.1 q.2
  | .neg a, ρ, S => (ev C a ρ S).bind fun r => match r.1 with
    | .int i => some (.int (-i), r.2)
    | _ => none
  | .cmp op a b, ρ, S => (ev C a ρ S).bind fun r => (ev C b ρ r.2).bind fun q => (cmpD op r.1 q.1 q.2).map fun k => (.bl k, q.2)
  | .chn op op' a b c, ρ, S => (ev C a ρ S).bind fun r => (ev C b ρ r.2).bind fun q => (cmpD op r.1 q.1 q.2).bind fun k =>
      if k = true then (ev C c ρ q.2).bind fun p => (cmpD op' q.1 p.1 p.2).map fun k => (.bl k, p.2) else some (.bl false, q.2)
  | .not a, ρ, S => (ev C a ρ S).bind fun r => (truD r.1 r.2).map fun k => (.bl (!k), r.2)
  | .and a b, ρ, S => (ev C a ρ S).bind fun r => match r.1 with
    | .bl true => ev C b ρ r.2
    | .bl false => some (.bl false, r.2)
    | _ => none
  | .or a b, ρ, S => (ev C a ρ S).bind fun r => match r.1 with
    | .bl true => some (.bl true, r.2)
    | .bl false => ev C b ρ r.2
    | _ => none
  | .ite c a b, ρ, S => (tst C c ρ S).bind fun r => if r.1 = true then ev C a ρ r.2 else ev C b ρ r.2
  | .idx a b, ρ, S => (ev C a ρ S).bind fun r => (ev C b ρ r.2).bind fun q => (idxD r.1 q.1 q.2).map fun d => (d, q.2)
  | .slc a lo hi, ρ, S => (ev C a ρ S).bind fun r => (evp C lo ρ r.2).bind fun q => (evp C hi ρ q.2).bind fun p => slcD r.1 q.1 p.1 p.2
  | .tup es, ρ, S => (evs C es ρ S).bind fun r => if decide (r.1.length ≤ sizeLine) then some (.tup r.1, r.2) else none
  | .lst es, ρ, S => (evs C es ρ S).bind fun r => if decide (r.1.length ≤ sizeLine) then some (.ptr r.2.length, r.2 ++ [.lst r.1]) else none
  | .dsp kvs, ρ, S => (evd C kvs ρ (S ++ [.dct []])).bind fun r => match (r.2)[S.length]? with
    | some (.dct []) => some (.ptr S.length, r.2.set S.length (.dct (r.1.foldl (fun acc kv => putKD acc kv.1 kv.2) [])))
    | _ => none
  | .call f es, ρ, S => (evs C es ρ S).bind fun r => C f r.1 r.2
  | .callK f es ks pm, ρ, S => (evs C es ρ S).bind fun r => (evs C ks ρ r.2).bind fun q => C f (pm.map fun i => (r.1 ++ q.1).getD i .non) q.2
  | .blt b es, ρ, S => (evs C es ρ S).bind fun r => bltD b r.1 r.2
  | .mth m o es, ρ, S => (ev C o ρ S).bind fun r => if rcvOk m r.1 r.2 then (evs C es ρ r.2).bind fun q => mthD m r.1 q.1 q.2 else none
  | .isi a t, ρ, S => (ev C a ρ S).bind fun r => (isiD r.1 t r.2).map fun k => (.bl k, r.2)
  | .lc elt tg it ifs own, ρ, S => (evi C it ρ S).bind fun r =>
      (itLoop r.1 (fun d S1 => (tgt tg d (wip ρ own)).bind fun ρ1 => (tsts C ifs ρ1 S1).bind fun q => if q.1 = true then (ev C elt ρ1 q.2).bind fun p => lcApp r.2.length p.1 p.2 else some q.2)
        (cntI r.1 r.2) 0 (r.2 ++ [.lst []])).map fun S2 => (.ptr r.2.length, S2)
  | .lc2 elt tg it ifs tg1 it1 ifs1 own own1, ρ, S => (evi C it ρ S).bind fun r =>
      (itLoop r.1 (fun d S1 => (tgt tg d (wip ρ own)).bind fun ρ1 => (tsts C ifs ρ1 S1).bind fun q => if q.1 = true then
          (evi C it1 ρ1 q.2).bind fun r1 => itLoop r1.1 (fun d1 S2 => (tgt tg1 d1 (wip ρ1 own1)).bind fun ρ2 => (tsts C ifs1 ρ2 S2).bind fun q1 => if q1.1 = true then (ev C elt ρ2 q1.2).bind fun p => lcApp r.2.length p.1 p.2 else some q1.2) (cntI r1.1 r1.2) 0 r1.2
        else some q.2)
        (cntI r.1 r.2) 0 (r.2 ++ [.lst []])).map fun S2 => (.ptr r.2.length, S2)
def tst (C : CallT) : IC → Env → Sto → M Bool
  | .val e, ρ, S => (ev C e ρ S).bind fun r => (truD r.1 r.2).map fun k => (k, r.2)
  | .not a, ρ, S => (tst C a ρ S).map fun r => (!r.1, r.2)
  | .and a b, ρ, S => (tst C a ρ S).bind fun r => if r.1 = true then tst C b ρ r.2 else some (false, r.2)
  | .or a b, ρ, S => (tst C a ρ S).bind fun r => if r.1 = true then some (true, r.2) else tst C b ρ r.2
def evp (C : CallT) : IP → Env → Sto → M (Option Int)
  | .no, _, S => some (none, S)
  | .yes e, ρ, S => (ev C e ρ S).bind fun r => match r.1 with
    | .int i => some (some i, r.2)
    | _ => none
def tsts (C : CallT) : IO → Env → Sto → M Bool
  | .yes, _, S => some (true, S)
  | .one c, ρ, S => tst C c ρ S
def evs (C : CallT) : IEs → Env → Sto → M (List D)
  | .nil, _, S => some ([], S)
  | .cons e es, ρ, S => (ev C e ρ S).bind fun r => (evs C es ρ r.2).map fun q => (r.1 :: q.1, q.2)
def evd (C : CallT) : IKV → Env → Sto → M (List (Key × D))
  | .nil, _, S => some ([], S)
  | .cons k v r, ρ, S => (ev C k ρ S).bind fun x => (keyOf x.1).bind fun kk => (ev C v ρ x.2).bind fun q => (evd C r ρ q.2).map fun p => ((kk, q.1) :: p.1, p.2)
def evi (C : CallT) : II → Env → Sto → M IT
  | .seq a, ρ, S => (ev C a ρ S).bind fun r => match r.1 with
    | .tup xs => some (.tup xs, r.2)
    | .ptr n => (lstOf r.2 n).map fun _ => (.ptr n, r.2)
    | .str z => some (.str z, r.2)
    | _ => none
  | .rng1 a, ρ, S => (ev C a ρ S).bind fun r => match r.1 with
    | .int j => if decide (-(2 ^ 62) ≤ j) && decide (j < 2 ^ 62) then some (.rng 0 j.toNat, r.2) else none
    | _ => none
  | .rng2 a b, ρ, S => (ev C a ρ S).bind fun r => (ev C b ρ r.2).bind fun q => match r.1, q.1 with
    | .int i, .int j => if decide (-(2 ^ 62) ≤ i) && decide (i < 2 ^ 62) && decide (-(2 ^ 62) ≤ j) && decide (j < 2 ^ 62) then some (.rng i (j - i).toNat, q.2) else none
    | _, _ => none
  | .enm a, ρ, S => (ev C a ρ S).bind fun r => match r.1 with
    | .tup xs => some (.enmT xs, r.2)
    | .ptr n => (lstOf r.2 n).map fun _ => (.enmP n, r.2)
    | _ => none
  | .zip a b, ρ, S => (ev C a ρ S).bind fun r => (ev C b ρ r.2).bind fun q => match r.1, q.1 with
    | .tup xs, .tup ys => some (.zipT xs ys, q.2)
    | .ptr n, .ptr k => (lstOf q.2 n).bind fun _ => (lstOf q.2 k).map fun _ => (.zipP n k, q.2)
    | _, _ => none
  | .rev a, ρ, S => (ev C a ρ S).bind fun r => match r.1 with
    | .tup xs => some (.revT xs, r.2)
    | _ => none
end
/-! ### statements -/
inductive Fl where
  | nx | brk | cnt
  | ret (d : D)
abbrev R := Option (Fl × Env × Sto)
def setD (o i x : D) (S : Sto) : Option Sto := match o with
  | .ptr n => (match S[n]? with
    | some (.lst xs) => (match i with
      | .int i => (ixN xs.length i).map fun j => S.set n (.lst (xs.set j x))
      | _ => none)
    | some (.dct kvs) => (keyOf i).bind fun k => if decide (kvs.length < sizeLine) then some (S.set n (.dct (putKD kvs k x))) else none
    | _ => none)
  | _ => none
def augD (op : Operator) (x y : D) (S : Sto) : M D :=
  match x, y with
  | .int i, .int j =>
    (match op with
    | .Add => some (.int (i + j), S)
    | .Sub => some (.int (i - j), S)
    | _ => none)
  | _, _ => none
def whlF (c : Env → Sto → M Bool) (body : Env → Sto → R) : Nat → Env → Sto → R
  | 0, _, _ => none
  | k + 1, ρ, S => (c ρ S).bind fun r => if r.1 = true then (body ρ r.2).bind fun q => match q.1 with
      | .nx => whlF c body k q.2.1 q.2.2
      | .cnt => whlF c body k q.2.1 q.2.2
      | .brk => some (.nx, q.2.1, q.2.2)
      | .ret d => some (.ret d, q.2.1, q.2.2)
    else some (.nx, ρ, r.2)
def forF (it : IT) (body : D → Env → Sto → R) : Nat → Nat → Env → Sto → R
  | 0, i, ρ, S => (itm it i S).bind fun o => match o with
    | none => some (.nx, ρ, S)
    | some _ => none
  | k + 1, i, ρ, S => (itm it i S).bind fun o => match o with
    | none => some (.nx, ρ, S)
    | some d => (body d ρ S).bind fun q => match q.1 with
      | .nx => forF it body k (i + 1) q.2.1 q.2.2
      | .cnt => forF it body k (i + 1) q.2.1 q.2.2
      | .brk => some (.nx, q.2.1, q.2.2)
      | .ret d => some (.ret d, q.2.1, q.2.2)
mutual
def ex (C : CallT) (W : Nat) : IS → Env → Sto → R
  | .asg t e, ρ, S => (ev C e ρ S).bind fun r => (tgt t r.1 ρ).map fun ρ1 => (.nx, ρ1, r.2)
  | .asgS o i e, ρ, S => (ev C e ρ S).bind fun r => (ev C o ρ r.2).bind fun q => (ev C i ρ q.2).bind fun p => (setD q.1 p.1 r.1 p.2).map fun S1 => (.nx, ρ, S1)
  | .aug i op e, ρ, S => (look ρ i).bind fun x => (ev C e ρ S).bind fun r => (augD op x r.1 r.2).map fun q => (.nx, put ρ i (some q.1), q.2)
  | .augS o i op e, ρ, S => (ev C o ρ S).bind fun r => (ev C i ρ r.2).bind fun q => (idxD r.1 q.1 q.2).bind fun x => (ev C e ρ q.2).bind fun p => (augD op x p.1 p.2).bind fun z => (setD r.1 q.1 z.1 z.2).map fun S1 => (.nx, ρ, S1)
  | .exp e, ρ, S => (ev C e ρ S).map fun r => (.nx, ρ, r.2)
  | .ret e, ρ, S => (ev C e ρ S).map fun r => (.ret r.1, ρ, r.2)
  | .retN, ρ, S => some (.ret .non, ρ, S)
  | .ite c a b, ρ, S => (tst C c ρ S).bind fun r => if r.1 = true then exs C W a ρ r.2 else exs C W b ρ r.2
  | .whl c b, ρ, S => whlF (tst C c) (exs C W b) W ρ S
  | .for t it b, ρ, S => (evi C it ρ S).bind fun r => forF r.1 (fun d ρ1 S1 => (tgt t d ρ1).bind fun ρ2 => exs C W b ρ2 S1) (cntI r.1 r.2) 0 ρ r.2
  | .brk, ρ, S => some (.brk, ρ, S)
  | .cnt, ρ, S => some (.cnt, ρ, S)
  | .pas, ρ, S => some (.nx, ρ, S)
def exs (C : CallT) (W : Nat) : ISs → Env → Sto → R
  | .nil, ρ, S => some (.nx, ρ, S)
  | .cons s r, ρ, S => (ex C W s ρ S).bind fun q => match q.1 with
    | .nx => exs C W r q.2.1 q.2.2
    | f => some (f, q.2.1, q.2.2)
end
/-! ### the table -/
structure Fn where
  np : Nat
  ns : Nat
  body : ISs
def bgn (ns : Nat) (ds : List D) : Env := ds.map some ++ List.replicate (ns - ds.length) none
def run (Φ : List Fn) (W : Nat) : Nat → CallT
  | 0, _, _, _ => none
  | n + 1, f, ds, S => (Φ[f]?).bind fun fn => if ds.length = fn.np then (exs (run Φ W n) W fn.body (bgn fn.ns ds) S).bind fun q => match q.1 with
      | .nx => some (.non, q.2.2)
      | .ret d => some (d, q.2.2)
      | _ => none
    else none
end Mi

namespace Mi
open PySem L2
variable {K : PySem.W.Frag}

/-! ### what stands for what -/
mutual
def RV (K : PySem.W.Frag) (H : Hp) (m : List Addr) : D → V → Prop
  | .non, v => v = .non
  | .bl b, v => v = .bl b
  | .int i, v => v = .int i
  | .str x, v => v = .str x
  | .ptr n, v => ∃ a, m[n]? = some a ∧ v = .ref a
  | .tup ds, v => ∃ a xs, v = .ref a ∧ SqT K H a xs ∧ RVs K H m ds xs
def RVs (K : PySem.W.Frag) (H : Hp) (m : List Addr) : List D → List V → Prop
  | [], [] => True
  | d :: ds, v :: vs => RV K H m d v ∧ RVs K H m ds vs
  | [], _ :: _ => False
  | _ :: _, [] => False
end
def RKV (K : PySem.W.Frag) (H : Hp) (m : List Addr) : List (Key × D) → List (Key × V) → Prop
  | [], [] => True
  | d :: ds, v :: vs => d.1 = v.1 ∧ RV K H m d.2 v.2 ∧ RKV K H m ds vs
  | [], _ :: _ => False
  | _ :: _, [] => False
structure Ext (K : PySem.W.Frag) (H H' : Hp) (m m' : List Addr) : Prop where
  tup : ∀ a xs, SqT K H a xs → SqT K H' a xs
  pre : ∀ (n : Nat) (a : Addr), m[n]? = some a → m'[n]? = some a
theorem Ext.refl {H : Hp} {m : List Addr} : Ext K H H m m := ⟨fun _ _ h => h, fun _ _ h => h⟩
theorem Ext.trans {H H1 H2 : Hp} {m m1 m2 : List Addr} (a : Ext K H H1 m m1) (b : Ext K H1 H2 m1 m2) : Ext K H H2 m m2 :=
  ⟨fun x xs h => b.tup x xs (a.tup x xs h), fun n x h => b.pre n x (a.pre n x h)⟩
mutual
theorem RV.mono {H H' : Hp} {m m' : List Addr} (e : Ext K H H' m m') : ∀ {d : D} {v : V}, RV K H m d v → RV K H' m' d v
  | .non, _, h => by simp only [RV] at h ⊢; exact h
  | .bl _, _, h => by simp only [RV] at h ⊢; exact h
  | .int _, _, h => by simp only [RV] at h ⊢; exact h
  | .str _, _, h => by simp only [RV] at h ⊢; exact h
  | .ptr n, _, h => by
    simp only [RV] at h ⊢
    obtain ⟨a, h1, h2⟩ := h
    exact ⟨a, e.pre _ _ h1, h2⟩
  | .tup ds, _, h => by
    simp only [RV] at h ⊢
    obtain ⟨a, xs, h1, h2, h3⟩ := h
    exact ⟨a, xs, h1, e.tup _ _ h2, RVs.mono e h3⟩
theorem RVs.mono {H H' : Hp} {m m' : List Addr} (e : Ext K H H' m m') : ∀ {ds : List D} {vs : List V}, RVs K H m ds vs → RVs K H' m' ds vs
  | [], [], _ => by simp only [RVs]
  | d :: ds, v :: vs, h => by
    simp only [RVs] at h ⊢
    exact ⟨RV.mono e h.1, RVs.mono e h.2⟩
  | [], _ :: _, h => by simp only [RVs] at h
  | _ :: _, [], h => by simp only [RVs] at h
end
theorem RKV.mono {H H' : Hp} {m m' : List Addr} (e : Ext K H H' m m') : ∀ {ds : List (Key × D)} {vs : List (Key × V)}, RKV K H m ds vs → RKV K H' m' ds vs
  | [], [], _ => by simp only [RKV]
  | d :: ds, v :: vs, h => by
    simp only [RKV] at h ⊢
    exact ⟨h.1, RV.mono e h.2.1, RKV.mono e h.2.2⟩
  | [], _ :: _, h => by simp only [RKV] at h
  | _ :: _, [], h => by simp only [RKV] at h
section
variable {H : Hp} {m : List Addr}
theorem RVs.length : ∀ {ds : List D} {vs : List V}, RVs K H m ds vs → ds.length = vs.length
  | [], [], _ => rfl
  | d :: ds, v :: vs, h => by simp only [RVs] at h; simp only [List.length_cons, RVs.length h.2]
  | [], _ :: _, h => by simp only [RVs] at h
  | _ :: _, [], h => by simp only [RVs] at h
theorem RVs.get : ∀ {ds : List D} {vs : List V} {i : Nat} {d : D}, RVs K H m ds vs → ds[i]? = some d → ∃ v, vs[i]? = some v ∧ RV K H m d v
  | [], [], _, _, _, e => by simp at e
  | d :: ds, v :: vs, 0, _, h, e => by simp only [RVs] at h; simp at e; subst e; exact ⟨v, by simp, h.1⟩
  | d :: ds, v :: vs, i + 1, _, h, e => by
    simp only [RVs] at h
    obtain ⟨w, h1, h2⟩ := RVs.get (i := i) h.2 (by simpa using e)
    exact ⟨w, by simpa using h1, h2⟩
  | [], _ :: _, _, _, h, _ => by simp only [RVs] at h
  | _ :: _, [], _, _, h, _ => by simp only [RVs] at h
theorem RVs.get_none {ds : List D} {vs : List V} {i : Nat} (h : RVs K H m ds vs) (e : ds[i]? = none) : vs[i]? = none := by
  have := h.length
  rw [List.getElem?_eq_none_iff] at e ⊢
  omega
theorem RVs.append : ∀ {ds es : List D} {vs ws : List V}, RVs K H m ds vs → RVs K H m es ws → RVs K H m (ds ++ es) (vs ++ ws)
  | [], _, [], _, _, h => h
  | d :: ds, _, v :: vs, _, h, g => by
    simp only [List.cons_append]
    simp only [RVs] at h ⊢
    exact ⟨h.1, RVs.append h.2 g⟩
  | [], _, _ :: _, _, h, _ => by simp only [RVs] at h
  | _ :: _, _, [], _, h, _ => by simp only [RVs] at h
theorem RVs.take : ∀ {ds : List D} {vs : List V} (n : Nat), RVs K H m ds vs → RVs K H m (ds.take n) (vs.take n)
  | [], [], n, _ => by simp [RVs]
  | d :: ds, v :: vs, 0, _ => by simp [RVs]
  | d :: ds, v :: vs, n + 1, h => by
    simp only [List.take_succ_cons]
    simp only [RVs] at h ⊢
    exact ⟨h.1, RVs.take n h.2⟩
  | [], _ :: _, _, h => by simp only [RVs] at h
  | _ :: _, [], _, h => by simp only [RVs] at h
theorem RVs.drop : ∀ {ds : List D} {vs : List V} (n : Nat), RVs K H m ds vs → RVs K H m (ds.drop n) (vs.drop n)
  | ds, vs, 0, h => by simpa using h
  | [], [], n + 1, _ => by simp [RVs]
  | d :: ds, v :: vs, n + 1, h => by
    simp only [List.drop_succ_cons]
    simp only [RVs] at h
    exact RVs.drop n h.2
  | [], _ :: _, _ + 1, h => by simp only [RVs] at h
  | _ :: _, [], _ + 1, h => by simp only [RVs] at h
theorem RVs.set : ∀ {ds : List D} {vs : List V} (n : Nat) {d : D} {v : V}, RVs K H m ds vs → RV K H m d v → RVs K H m (ds.set n d) (vs.set n v)
  | [], [], _, _, _, _, _ => by simp [RVs]
  | d :: ds, v :: vs, 0, _, _, h, g => by
    simp only [List.set_cons_zero]
    simp only [RVs] at h ⊢
    exact ⟨g, h.2⟩
  | d :: ds, v :: vs, n + 1, _, _, h, g => by
    simp only [List.set_cons_succ]
    simp only [RVs] at h ⊢
    exact ⟨h.1, RVs.set n h.2 g⟩
  | [], _ :: _, _, _, _, h, _ => by simp only [RVs] at h
  | _ :: _, [], _, _, _, h, _ => by simp only [RVs] at h
theorem RVs.dropLast {ds : List D} {vs : List V} (h : RVs K H m ds vs) : RVs K H m ds.dropLast vs.dropLast := by
  rw [List.dropLast_eq_take, List.dropLast_eq_take, h.length]
  exact RVs.take _ h
theorem RVs.eraseIdx {ds : List D} {vs : List V} (n : Nat) (h : RVs K H m ds vs) : RVs K H m (ds.eraseIdx n) (vs.eraseIdx n) := by
  rw [List.eraseIdx_eq_take_drop_succ, List.eraseIdx_eq_take_drop_succ]
  exact RVs.append (RVs.take _ h) (RVs.drop _ h)
theorem RVs.one {d : D} {v : V} (h : RV K H m d v) : RVs K H m [d] [v] := by simp only [RVs]; exact ⟨h, trivial⟩
theorem RVs.two {d e : D} {v w : V} (h : RV K H m d v) (g : RV K H m e w) : RVs K H m [d, e] [v, w] := by simp only [RVs]; exact ⟨h, g, trivial⟩
theorem RVs.atI {ds : List D} {vs : List V} {i : Int} {d : D} (h : RVs K H m ds vs) (e : L2.atI ds i = some d) : ∃ v, L2.atI vs i = some v ∧ RV K H m d v := by
  unfold L2.atI at e ⊢
  rw [h.length] at e
  cases q : ixN vs.length i with
  | none => rw [q] at e; cases e
  | some j =>
    rw [q] at e
    exact RVs.get h e
theorem RVs.cut {ds : List D} {vs : List V} {lo hi : Option Int} (h : RVs K H m ds vs) : RVs K H m (cutD ds lo hi) (cutV vs lo hi) := by
  unfold cutD cutV
  rw [h.length]
  exact RVs.take _ (RVs.drop _ h)
theorem RVs.ints : ∀ {ds : List D} {vs : List V} {is : List Int}, RVs K H m ds vs → intsOf ds = some is → vs = is.map V.int
  | [], [], _, _, e => by simp only [intsOf, Option.some.injEq] at e; subst e; rfl
  | d :: ds, v :: vs, _, h, e => by
    simp only [RVs] at h
    cases d <;> simp only [intsOf] at e <;> try (cases e)
    rename_i i
    cases q : intsOf ds with
    | none => rw [q] at e; cases e
    | some l =>
      rw [q] at e
      simp only [Option.map_some, Option.some.injEq] at e
      subst e
      have h1 := h.1
      simp only [RV] at h1
      rw [h1, RVs.ints h.2 q]
      rfl
  | [], _ :: _, _, h, _ => by simp only [RVs] at h
  | _ :: _, [], _, h, _ => by simp only [RVs] at h
theorem RVs.bols : ∀ {ds : List D} {vs : List V} {is : List Bool}, RVs K H m ds vs → bolsOf ds = some is → vs = is.map V.bl
  | [], [], _, _, e => by simp only [bolsOf, Option.some.injEq] at e; subst e; rfl
  | d :: ds, v :: vs, _, h, e => by
    simp only [RVs] at h
    cases d <;> simp only [bolsOf] at e <;> try (cases e)
    rename_i i
    cases q : bolsOf ds with
    | none => rw [q] at e; cases e
    | some l =>
      rw [q] at e
      simp only [Option.map_some, Option.some.injEq] at e
      subst e
      have h1 := h.1
      simp only [RV] at h1
      rw [h1, RVs.bols h.2 q]
      rfl
  | [], _ :: _, _, h, _ => by simp only [RVs] at h
  | _ :: _, [], _, h, _ => by simp only [RVs] at h
theorem RVs.strs : ∀ {ds : List D} {vs : List V} {is : List Str}, RVs K H m ds vs → strsOf ds = some is → vs = is.map V.str
  | [], [], _, _, e => by simp only [strsOf, Option.some.injEq] at e; subst e; rfl
  | d :: ds, v :: vs, _, h, e => by
    simp only [RVs] at h
    cases d <;> simp only [strsOf] at e <;> try (cases e)
    rename_i i
    cases q : strsOf ds with
    | none => rw [q] at e; cases e
    | some l =>
      rw [q] at e
      simp only [Option.map_some, Option.some.injEq] at e
      subst e
      have h1 := h.1
      simp only [RV] at h1
      rw [h1, RVs.strs h.2 q]
      rfl
  | [], _ :: _, _, h, _ => by simp only [RVs] at h
  | _ :: _, [], _, h, _ => by simp only [RVs] at h
theorem RVs.ofInts : ∀ (is : List Int), RVs K H m (is.map D.int) (is.map V.int)
  | [] => by simp [RVs]
  | i :: is => by
    simp only [List.map_cons]
    simp only [RVs]
    exact ⟨by simp only [RV], RVs.ofInts is⟩
end

/-! ### the store -/
def KL (K : PySem.W.Frag) (a : Addr) (xs : List V) : Prop :=
  ∃ (o : Obj) (its : Array Value) (n : Nat), K.lookup a = some o ∧ o.cls = .type "list" ∧ o.dict = none ∧ o.data = .seq its n ∧ its.size ≤ sizeLine ∧ Vals xs its.toList
def FL (K : PySem.W.Frag) (H : Hp) (a : Addr) (xs : List V) : Prop := (∃ ob, H a = some (.frz ob (.lst xs))) ∨ KL K a xs
theorem FL.sq {H : Hp} {a : Addr} {xs : List V} (h : FL K H a xs) : SqL K H a xs := by
  rcases h with ⟨ob, h⟩ | h
  · exact .inl (.inr ⟨ob, h⟩)
  · exact .inr h
def RO (K : PySem.W.Frag) (H : Hp) (m : List Addr) (a : Addr) : O → Prop
  | .lst ds => ∃ xs, H a = some (.lst xs) ∧ RVs K H m ds xs
  | .frz ds => ∃ xs, FL K H a xs ∧ RVs K H m ds xs
  | .dct kvs => ∃ ks, H a = some (.dK ks) ∧ RKV K H m kvs ks
def fz : O → Bool
  | .frz _ => true
  | _ => false
structure SH (K : PySem.W.Frag) (m : List Addr) (H : Hp) (S : Sto) : Prop where
  len : m.length = S.length
  obj : ∀ (n : Nat) (a : Addr) (o : O), m[n]? = some a → S[n]? = some o → RO K H m a o
  inj : ∀ (i j : Nat) (a : Addr) (o p : O), m[i]? = some a → m[j]? = some a → S[i]? = some o → S[j]? = some p → fz o = false → fz p = false → i = j
theorem upd_tup {H : Hp} {p : Addr} {u : HO} (h : H p = none ∨ Mut (H p)) (a : Addr) (xs : List V) (q : SqT K H a xs) : SqT K (upd H p u) a xs := by
  rcases q with (q | ⟨o, q⟩) | q
  · have ne : a ≠ p := by
      rintro rfl
      rw [q] at h
      rcases h with h | h
      · cases h
      · exact h
    exact .inl (.inl (by rw [upd_ne ne]; exact q))
  · have ne : a ≠ p := by
      rintro rfl
      rw [q] at h
      rcases h with h | h
      · cases h
      · exact h
    exact .inl (.inr ⟨o, by rw [upd_ne ne]; exact q⟩)
  · exact .inr q
theorem upd_fl {H : Hp} {p : Addr} {u : HO} (h : H p = none ∨ Mut (H p)) {a : Addr} {xs : List V} (q : FL K H a xs) : FL K (upd H p u) a xs := by
  rcases q with ⟨o, q⟩ | q
  · have ne : a ≠ p := by
      rintro rfl
      rw [q] at h
      rcases h with h | h
      · cases h
      · exact h
    exact .inl ⟨o, by rw [upd_ne ne]; exact q⟩
  · exact .inr q
theorem RO.upd {H : Hp} {m m' : List Addr} {p a : Addr} {u : HO} {o : O} (h : H p = none ∨ Mut (H p)) (e : Ext K H (L2.upd H p u) m m') (ne : fz o = false → a ≠ p) (q : RO K H m a o) : RO K (L2.upd H p u) m' a o := by
  cases o with
  | lst ds =>
    obtain ⟨xs, q1, q2⟩ := q
    exact ⟨xs, by rw [upd_ne (ne rfl)]; exact q1, q2.mono e⟩
  | frz ds =>
    obtain ⟨xs, q1, q2⟩ := q
    exact ⟨xs, upd_fl h q1, q2.mono e⟩
  | dct kvs =>
    obtain ⟨xs, q1, q2⟩ := q
    exact ⟨xs, by rw [upd_ne (ne rfl)]; exact q1, q2.mono e⟩
theorem RO.some {H : Hp} {m : List Addr} {a : Addr} {o : O} (q : RO K H m a o) (h : fz o = false) : H a ≠ none ∧ Mut (H a) := by
  cases o with
  | lst ds =>
    obtain ⟨xs, q1, q2⟩ := q
    rw [q1]
    exact ⟨(fun z => nomatch z), trivial⟩
  | frz ds => cases h
  | dct kvs =>
    obtain ⟨xs, q1, q2⟩ := q
    rw [q1]
    exact ⟨(fun z => nomatch z), trivial⟩
section
variable {m : List Addr} {H : Hp} {S : Sto} {p : Addr} {u : HO} {o : O}
theorem SH.get (h : SH K m H S) {n : Nat} {o : O} (e : S[n]? = some o) : ∃ a, m[n]? = some a ∧ RO K H m a o := by
  have hn : n < m.length := by rw [h.len]; exact (List.getElem?_eq_some_iff.mp e).1
  exact ⟨m[n], List.getElem?_eq_getElem hn, h.obj _ _ _ (List.getElem?_eq_getElem hn) e⟩
theorem Ext.fresh (hp : H p = none) : Ext K H (upd H p u) m m := ⟨fun a xs q => upd_tup (.inl hp) a xs q, fun _ _ q => q⟩
theorem Ext.alloc (hp : H p = none) : Ext K H (upd H p u) m (m ++ [p]) := ⟨fun a xs q => upd_tup (.inl hp) a xs q, fun n a q => by
  rw [List.getElem?_append_left (List.getElem?_eq_some_iff.mp q).1]
  exact q⟩
/-- a new object that the store does not know -/
theorem SH.tmp (h : SH K m H S) (hp : H p = none) : SH K m (upd H p u) S :=
  ⟨h.len, fun n a o e1 e2 => (h.obj n a o e1 e2).upd (.inl hp) (Ext.fresh hp) fun z q => (((h.obj n a o e1 e2).some z).1 (by rw [q]; exact hp)).elim, h.inj⟩
/-- a new object of the store -/
theorem SH.alloc (h : SH K m H S) (hp : H p = none) (ho : RO K (upd H p u) (m ++ [p]) p o) : SH K (m ++ [p]) (upd H p u) (S ++ [o]) := by
  have hl := h.len
  have ne : ∀ (n : Nat) (a : Addr) (o : O), m[n]? = some a → S[n]? = some o → fz o = false → a ≠ p := fun n a o e1 e2 z q => ((h.obj n a o e1 e2).some z).1 (by rw [q]; exact hp)
  have split : ∀ (n : Nat) (a : Addr) (o' : O), (m ++ [p])[n]? = some a → (S ++ [o])[n]? = some o' → (m[n]? = some a ∧ S[n]? = some o') ∨ (n = m.length ∧ a = p ∧ o' = o) := by
    intro n a o' e1 e2
    by_cases hn : n < m.length
    · rw [List.getElem?_append_left hn] at e1
      rw [List.getElem?_append_left (by omega)] at e2
      exact .inl ⟨e1, e2⟩
    · have hn2 := (List.getElem?_eq_some_iff.mp e1).1
      rw [List.length_append, List.length_singleton] at hn2
      have e : n = m.length := by omega
      subst e
      rw [List.getElem?_append_right (Nat.le_refl _)] at e1
      rw [List.getElem?_append_right (by omega)] at e2
      simp at e1
      simp [hl] at e2
      exact .inr ⟨rfl, e1.symm, e2.symm⟩
  refine ⟨by simp [hl], fun n a o' e1 e2 => ?_, fun i j a o1 o2 a1 a2 s1 s2 z1 z2 => ?_⟩
  · rcases split n a o' e1 e2 with ⟨q1, q2⟩ | ⟨_, rfl, rfl⟩
    · exact (h.obj n a o' q1 q2).upd (.inl hp) (Ext.alloc hp) (ne n a o' q1 q2)
    · exact ho
  · rcases split i a o1 a1 s1 with ⟨q1, q2⟩ | ⟨ei, ea, eo⟩
    · rcases split j a o2 a2 s2 with ⟨r1, r2⟩ | ⟨ej, ea', eo'⟩
      · exact h.inj i j a o1 o2 q1 r1 q2 r2 z1 z2
      · exact absurd ea' (ne i a o1 q1 q2 z1)
    · rcases split j a o2 a2 s2 with ⟨r1, r2⟩ | ⟨ej, ea', eo'⟩
      · exact absurd ea (ne j a o2 r1 r2 z2)
      · omega
theorem Ext.write (hp : Mut (H p)) : Ext K H (upd H p u) m m := ⟨fun a xs q => upd_tup (.inr hp) a xs q, fun _ _ q => q⟩
/-- an object of the store is changed -/
theorem SH.set (h : SH K m H S) {n : Nat} {o₀ : O} (e : m[n]? = some p) (e2 : S[n]? = some o₀) (z : fz o₀ = false) (zo : fz o = false) (ho : RO K (upd H p u) m p o) : SH K m (upd H p u) (S.set n o) := by
  have hm := ((h.obj n p o₀ e e2).some z).2
  have hn := (List.getElem?_eq_some_iff.mp e2).1
  have split : ∀ (i : Nat) (o' : O), (S.set n o)[i]? = some o' → (i ≠ n ∧ S[i]? = some o') ∨ (i = n ∧ o' = o) := by
    intro i o' q
    by_cases hi : n = i
    · subst hi
      rw [List.getElem?_set_self hn] at q
      exact .inr ⟨rfl, (Option.some.inj q).symm⟩
    · rw [List.getElem?_set_ne hi] at q
      exact .inl ⟨fun r => hi r.symm, q⟩
  refine ⟨by rw [List.length_set]; exact h.len, fun i a o' e3 e4 => ?_, fun i j a o1 o2 a1 a2 s1 s2 z1 z2 => ?_⟩
  · rcases split i o' e4 with ⟨q1, q2⟩ | ⟨rfl, rfl⟩
    · refine (h.obj i a o' e3 q2).upd (.inr hm) (Ext.write hm) fun zz r => ?_
      subst r
      exact q1 (h.inj i n a o' o₀ e3 e q2 e2 zz z)
    · rw [e] at e3
      cases e3
      exact ho
  · rcases split i o1 s1 with ⟨q1, q2⟩ | ⟨rfl, rfl⟩
    · rcases split j o2 s2 with ⟨r1, r2⟩ | ⟨rfl, rfl⟩
      · exact h.inj i j a o1 o2 a1 a2 q2 r2 z1 z2
      · exact h.inj i j a o1 o₀ a1 a2 q2 e2 z1 z
    · rcases split j o2 s2 with ⟨r1, r2⟩ | ⟨rfl, rfl⟩
      · exact h.inj i j a o₀ o2 a1 a2 e2 r2 z z2
      · rfl
end

/-! ### the slots -/
structure SE (K : PySem.W.Frag) (m : List Addr) (H : Hp) (ρ : Env) (σ : L2.St) : Prop where
  len : ρ.length = σ.length
  val : ∀ (i : Nat) (d : D), ρ[i]? = some (some d) → ∃ v, σ[i]? = some (some v) ∧ RV K H m d v
theorem look_nat : ∀ (ρ : Env) (i : Ix) (d : D), look ρ i = some d → ρ[i.nat]? = some (some d)
  | [], _, _, h => by simp [look] at h
  | a :: r, .z, d, h => by
    simp only [look] at h
    simp [Ix.nat, h]
  | a :: r, .s i, d, h => by
    simp only [look] at h
    simp only [Ix.nat, List.getElem?_cons_succ]
    exact look_nat r i d h
theorem put_nat : ∀ (ρ : Env) (i : Ix) (d : Option D), put ρ i d = ρ.set i.nat d
  | [], _, _ => by simp [put]
  | a :: r, .z, d => by simp [put, Ix.nat]
  | a :: r, .s i, d => by simp [put, Ix.nat, put_nat r i d]
section
variable {m m' : List Addr} {H H' : Hp} {ρ : Env} {σ : L2.St}
theorem SE.mono (h : SE K m H ρ σ) (e : Ext K H H' m m') : SE K m' H' ρ σ := ⟨h.len, fun i d q => let ⟨v, h1, h2⟩ := h.val i d q; ⟨v, h1, h2.mono e⟩⟩
theorem SE.look (h : SE K m H ρ σ) {i : Ix} {d : D} (e : look ρ i = some d) : ∃ v, σ[i.nat]? = some (some v) ∧ RV K H m d v := h.val _ _ (look_nat ρ i d e)
theorem SE.put (h : SE K m H ρ σ) (i : Ix) {d : D} {v : V} (r : RV K H m d v) : SE K m H (put ρ i (some d)) (σ.set i.nat (some v)) := by
  rw [put_nat]
  refine ⟨by simp [h.len], fun j e q => ?_⟩
  by_cases hj : i.nat = j
  · subst hj
    by_cases hl : i.nat < ρ.length
    · rw [List.getElem?_set_self hl] at q
      simp only [Option.some.injEq] at q
      subst q
      exact ⟨v, by rw [List.getElem?_set_self (by rw [← h.len]; exact hl)], r⟩
    · rw [List.getElem?_eq_none (by simp; omega)] at q
      cases q
  · rw [List.getElem?_set_ne hj] at q
    rw [List.getElem?_set_ne hj]
    exact h.val j e q
theorem SE.wip (h : SE K m H ρ σ) : ∀ (vs : List Ix), SE K m H (wip ρ vs) (wipe σ (vs.map Ix.nat))
  | [] => h
  | v :: vs => by
    have ih := SE.wip h vs
    simp only [Mi.wip, List.map_cons, wipe]
    rw [put_nat]
    refine ⟨by simp [ih.len], fun j e q => ?_⟩
    by_cases hj : v.nat = j
    · subst hj
      by_cases hl : v.nat < (Mi.wip ρ vs).length
      · rw [List.getElem?_set_self hl] at q
        cases q
      · rw [List.getElem?_eq_none (by simp; omega)] at q
        cases q
    · rw [List.getElem?_set_ne hj] at q
      rw [List.getElem?_set_ne hj]
      exact ih.val j e q
end
end Mi

namespace Mi
open PySem L2

/-! ### compiling -/
structure Ct where
  N : List Str
  sc : Scope
  clf : Str → Bool
  funs : List (Str × List Str)
  kws : List (Nat × Nat × List Str × List Nat)
def ixOf : List Str → Str → Option Ix
  | [], _ => none
  | a :: r, x => if a = x then some .z else (ixOf r x).map .s
theorem ixOf_ok : ∀ {N : List Str} {x : Str} {i : Ix}, ixOf N x = some i → N[i.nat]? = some x
  | [], _, _, h => by simp [ixOf] at h
  | a :: r, x, i, h => by
    simp only [ixOf] at h
    by_cases e : a = x
    · rw [if_pos e] at h
      cases h
      simp [Ix.nat, e]
    · rw [if_neg e] at h
      cases q : ixOf r x with
      | none => rw [q] at h; cases h
      | some j =>
        rw [q] at h
        simp only [Option.map_some, Option.some.injEq] at h
        subst h
        simp only [Ix.nat, List.getElem?_cons_succ]
        exact ixOf_ok q
def fnIx : List (Str × List Str) → Str → Nat → Option Nat
  | [], _, _ => none
  | a :: r, x, n => if a.1 = x then some n else fnIx r x (n + 1)
theorem fnIx_ok : ∀ {l : List (Str × List Str)} {x : Str} {n f : Nat}, fnIx l x n = some f → ∃ ps, n ≤ f ∧ l[f - n]? = some (x, ps)
  | [], _, _, _, h => by simp [fnIx] at h
  | a :: r, x, n, f, h => by
    simp only [fnIx] at h
    by_cases e : a.1 = x
    · rw [if_pos e] at h
      cases h
      exact ⟨a.2, Nat.le_refl _, by simp [← e]⟩
    · rw [if_neg e] at h
      obtain ⟨ps, h1, h2⟩ := fnIx_ok h
      refine ⟨ps, by omega, ?_⟩
      have : f - n = (f - (n + 1)) + 1 := by omega
      rw [this, List.getElem?_cons_succ]
      exact h2
def kwIx : List (Nat × Nat × List Str × List Nat) → Nat → Nat → List Str → Option (List Nat)
  | [], _, _, _ => none
  | (f, n, ks, pm) :: r, f', n', ks' => if f = f' ∧ n = n' ∧ ks = ks' then some pm else kwIx r f' n' ks'
theorem kwIx_ok : ∀ {l : List (Nat × Nat × List Str × List Nat)} {f n : Nat} {ks : List Str} {pm : List Nat}, kwIx l f n ks = some pm → (f, n, ks, pm) ∈ l
  | [], _, _, _, _, h => by simp [kwIx] at h
  | (f0, n0, ks0, pm0) :: r, f, n, ks, pm, h => by
    simp only [kwIx] at h
    by_cases e : f0 = f ∧ n0 = n ∧ ks0 = ks
    · rw [if_pos e] at h
      obtain ⟨rfl, rfl, rfl⟩ := e
      cases h
      exact List.mem_cons_self
    · rw [if_neg e] at h
      exact List.mem_cons_of_mem _ (kwIx_ok h)
def visB (sc : Scope) (x : Str) : Bool := match sc.names.lookup x with
  | some .local => true
  | some .cell => true
  | some .free => true
  | _ => false
theorem vis_of {sc : Scope} {x : Str} (h : visB sc x = true) : Vis sc x := by
  unfold visB at h
  unfold Vis
  split at h
  · exact .inl (by assumption)
  · exact .inr (.inl (by assumption))
  · exact .inr (.inr (by assumption))
  · cases h
def glB (sc : Scope) (x : Str) : Bool := match sc.names.lookup x with
  | some .globalImplicit => true
  | _ => false
theorem gl_of {sc : Scope} {x : Str} (h : glB sc x = true) : sc.names.lookup x = some .globalImplicit := by
  unfold glB at h
  split at h
  · assumption
  · cases h
/-- a name that may be stored to -/
def stB (c : Ct) (x : Str) : Bool := match c.sc.names.lookup x with
  | some .local => true
  | some .cell => c.clf x
  | _ => false
def okN (x : Str) : Bool := !(x == ("__debug__" : Str)) && !(x == ("__classdict__" : Str)) && !(x == ("__name__" : Str))
/-- heads that stand for themselves -/
def plainE : Expr → Bool
  | .Starred _ _ => false
  | .Slice _ _ _ _ => false
  | .Set _ _ _ => false
  | _ => true
def plainT : Expr → Bool
  | .UnaryOp .Not _ _ => false
  | .BoolOp _ _ _ => false
  | .IfExp _ _ _ _ => false
  | .Compare _ _ _ _ => false
  | _ => true
def noComp : Expr → Bool
  | .ListComp _ _ _ _ => false
  | .SetComp _ _ _ _ => false
  | .DictComp _ _ _ _ _ => false
  | _ => true
def attrOk : Expr → Bool
  | .Call (.Name _ _) [] [] _ => false
  | _ => true
def bltNames : List Str := ["len", "abs", "int", "bool", "str", "tuple", "list", "sorted", "sum", "any", "all", "max", "min", "range", "enumerate", "zip", "reversed", "isinstance"]
def bltOf (x : Str) (n : Nat) : Option Bt :=
  if x = ("len" : Str) ∧ n = 1 then some .len
  else if x = ("abs" : Str) ∧ n = 1 then some .abs
  else if x = ("int" : Str) ∧ n = 1 then some .int
  else if x = ("bool" : Str) ∧ n = 1 then some .bool
  else if x = ("str" : Str) ∧ n = 1 then some .str
  else if x = ("tuple" : Str) ∧ n = 1 then some .tuple
  else if x = ("list" : Str) ∧ n = 1 then some .list
  else if x = ("sorted" : Str) ∧ n = 1 then some .sorted
  else if x = ("sum" : Str) ∧ n = 1 then some .sum
  else if x = ("any" : Str) ∧ n = 1 then some .any
  else if x = ("all" : Str) ∧ n = 1 then some .all
  else if x = ("max" : Str) ∧ n = 1 then some .max1
  else if x = ("min" : Str) ∧ n = 1 then some .min1
  else if x = ("max" : Str) ∧ n = 2 then some .max2
  else if x = ("min" : Str) ∧ n = 2 then some .min2
  else none
def mthOf (x : Str) (n : Nat) : Option Mt :=
  if x = ("append" : Str) ∧ n = 1 then some .append
  else if x = ("pop" : Str) ∧ n = 0 then some .pop
  else if x = ("pop" : Str) ∧ n = 1 then some .popAt
  else if x = ("extend" : Str) ∧ n = 1 then some .extend
  else if x = ("insert" : Str) ∧ n = 2 then some .insert
  else if x = ("join" : Str) ∧ n = 1 then some .join
  else if x = ("get" : Str) ∧ n = 1 then some .get1
  else if x = ("get" : Str) ∧ n = 2 then some .get2
  else none
def tyIx (sc : Scope) : Expr → Option Ty
  | .Name x _ => if glB sc x then
      (if x = ("int" : Str) then some .int else if x = ("bool" : Str) then some .bool else if x = ("str" : Str) then some .str
      else if x = ("tuple" : Str) then some .tuple else if x = ("list" : Str) then some .list else none) else none
  | .Tuple [.Name x _, .Name y _] _ _ => if glB sc x && glB sc y then (if x = ("tuple" : Str) ∧ y = ("list" : Str) then some .tupleList else none) else none
  | _ => none
mutual
def cmpTg (c : Ct) : Nat → Expr → Option Tg
  | 0, _ => none
  | n + 1, .Name x _ => if stB c x then (ixOf c.N x).map Tg.name else none
  | n + 1, .Tuple es _ _ => if es.all plainE then (cmpTgs c n es).map Tg.tup else none
  | _, _ => none
def cmpTgs (c : Ct) : Nat → List Expr → Option (List Tg)
  | 0, _ => none
  | n + 1, [] => some []
  | n + 1, e :: es => (cmpTg c n e).bind fun t => (cmpTgs c n es).map fun ts => t :: ts
end
mutual
def tgIx : Tg → List Ix
  | .name i => [i]
  | .tup ts => tgsIx ts
def tgsIx : List Tg → List Ix
  | [] => []
  | t :: ts => tgIx t ++ tgsIx ts
end
/-- the names of a comprehension's block that are its own, with their slots -/
def ownOf (N : List Str) (scope : Scope) : List (Str × Ix) := scope.names.filterMap fun y => match y.2 with
  | .local => (ixOf N y.1).map fun i => (y.1, i)
  | .cell => (ixOf N y.1).map fun i => (y.1, i)
  | _ => none
def blkCt (c : Ct) (scope : Scope) : Ct := { c with sc := relS scope c.sc, clf := fun x => scope.names.lookup x == some .cell }
def ordOp : CmpOp → Bool
  | .In => false
  | .NotIn => false
  | _ => true
def arity (c : Ct) (f : Nat) : Nat := match c.funs[f]? with
  | some p => p.2.length
  | none => 0
def isTup : Expr → Bool
  | .Tuple _ _ _ => true
  | _ => false
/-- the argument of a sole range(a) -/
def rgArg (c : Ct) : List Expr → Option Expr
  | [.Call (.Name y _) [a] [] _] => if glB c.sc y && (fnIx c.funs y 0).isNone && y = ("range" : Str) then some a else none
  | _ => none
mutual
def cE (c : Ct) : Nat → Expr → Option IE
  | 0, _ => none
  | n + 1, e => match e with
    | .Name x _ => if visB c.sc x && okN x then (ixOf c.N x).map .var else none
    | .Constant (.int i) _ _ => some (.cst (.int i))
    | .Constant (.bool b) _ _ => some (.cst (.bl b))
    | .Constant .none _ _ => some (.cst .non)
    | .Constant (.str x) _ _ => some (.cst (.str x))
    | .BinOp a op b _ => (cE c n a).bind fun ca => (cE c n b).map fun cb => .bin op ca cb
    | .UnaryOp .USub a _ => (cE c n a).map .neg
    | .UnaryOp .Not a _ => (cE c n a).map .not
    | .Compare a [op] [b] _ => if plainE b then (cE c n a).bind fun ca => (cE c n b).map fun cb => .cmp op ca cb else none
    | .Compare a [op, op'] [b, d] _ => if ordOp op && ordOp op' then (cE c n a).bind fun ca => (cE c n b).bind fun cb => (cE c n d).map fun cd => .chn op op' ca cb cd else none
    | .BoolOp op [a] _ => cE c n a
    | .BoolOp .And (a :: b :: r) p => (cE c n a).bind fun ca => (cE c n (.BoolOp .And (b :: r) p)).map fun cb => .and ca cb
    | .BoolOp .Or (a :: b :: r) p => (cE c n a).bind fun ca => (cE c n (.BoolOp .Or (b :: r) p)).map fun cb => .or ca cb
    | .IfExp t a b _ => (cC c n t).bind fun ct => (cE c n a).bind fun ca => (cE c n b).map fun cb => .ite ct ca cb
    | .Subscript a (.Slice lo hi none _) _ => (cE c n a).bind fun ca => (cP c n lo).bind fun cl => (cP c n hi).map fun ch => .slc ca cl ch
    | .Subscript a b _ => if plainE b then (cE c n a).bind fun ca => (cE c n b).map fun cb => .idx ca cb else none
    | .Tuple es _ _ => (cEs c n es).map .tup
    | .List es _ => (cEs c n es).map .lst
    | .Dict ks vs _ => if decide (ks.length ≤ 15) then (cKV c n ks vs).map .dsp else none
    | .Call (.Name x _) es [] _ =>
      if glB c.sc x && okN x then
        (match fnIx c.funs x 0 with
        | some f => if es.length = arity c f then (cEs c n es).map (.call f) else none
        | none =>
          if x = ("isinstance" : Str) then (match es with
            | [a, t] => if plainE a then (cE c n a).bind fun ca => (tyIx c.sc t).map fun ty => .isi ca ty else none
            | _ => none)
          else (match rgArg c es with
            | some a => if x = ("list" : Str) ∧ plainE a = true then (cE c n a).map fun ca => .blt .listRange (.cons ca .nil) else none
            | none => (bltOf x es.length).bind fun b => (cEs c n es).map (.blt b)))
      else none
    | .Call (.Name x _) es kws _ =>
      if glB c.sc x && okN x && kws.all (fun k => k.arg.isSome) then
        (fnIx c.funs x 0).bind fun f => (kwIx c.kws f es.length (kws.filterMap (·.arg))).bind fun pm =>
          (cEs c n es).bind fun ces => (cKs c n kws).map fun cks => .callK f ces cks pm
      else none
    | .Call (.Attribute o m ap) es [] cp =>
      if attrOk o && ap.endLine == cp.line then (mthOf m es.length).bind fun mt => (cE c n o).bind fun co => (cEs c n es).map (.mth mt co) else none
    | .ListComp elt [⟨tg, it, ifs, 0⟩] scope _ =>
      let own := ownOf c.N scope
      if blkC c.N c.sc scope (own.map fun p => (p.1, p.2.nat)) && plainE it then
        (cI c n tg it).bind fun ci => (cmpTg (blkCt c scope) n tg).bind fun ct => (cO (blkCt c scope) n ifs).bind fun cf => (cE (blkCt c scope) n elt).bind fun ce =>
          if (tgIx ct).all fun i => (own.map (·.2)).contains i then some (.lc ce ct ci cf (own.map (·.2))) else none
      else none
    | .ListComp elt [⟨tg, it, ifs, 0⟩, ⟨tg1, it1, ifs1, 0⟩] scope _ =>
      let own := ownOf c.N scope
      if blkC c.N c.sc scope (own.map fun p => (p.1, p.2.nat)) && plainE it && plainE it1 then
        (cI c n tg it).bind fun ci => (cmpTg (blkCt c scope) n tg).bind fun ct => (cO (blkCt c scope) n ifs).bind fun cf =>
        (cI (blkCt c scope) n tg1 it1).bind fun ci1 => (cmpTg (blkCt c scope) n tg1).bind fun ct1 => (cO (blkCt c scope) n ifs1).bind fun cf1 => (cE (blkCt c scope) n elt).bind fun ce =>
          if (tgIx ct).all (fun i => (own.map (·.2)).contains i) && (tgIx ct1).all fun i => (own.map (·.2)).contains i then some (.lc2 ce ct ci cf ct1 ci1 cf1 (own.map (·.2)) (tgIx ct1)) else none
      else none
    | _ => none
def cC (c : Ct) : Nat → Expr → Option IC
  | 0, _ => none
  | n + 1, e => match e with
    | .UnaryOp .Not a _ => (cC c n a).map .not
    | .BoolOp _ [a] _ => cC c n a
    | .BoolOp .And (a :: b :: r) p => (cC c n a).bind fun ca => (cC c n (.BoolOp .And (b :: r) p)).map fun cb => .and ca cb
    | .BoolOp .Or (a :: b :: r) p => (cC c n a).bind fun ca => (cC c n (.BoolOp .Or (b :: r) p)).map fun cb => .or ca cb
    | .IfExp _ _ _ _ => none
    | .Compare a ops bs p => (cE c n (.Compare a ops bs p)).map .val
    | e => if plainT e then (cE c n e).map .val else none
def cO (c : Ct) : Nat → List Expr → Option IO
  | 0, _ => none
  | n + 1, [] => some .yes
  | n + 1, [e] => (cC c n e).map .one
  | _, _ => none
def cP (c : Ct) : Nat → Option Expr → Option IP
  | 0, _ => none
  | n + 1, none => some .no
  | n + 1, some e => (cE c n e).map .yes
def cEs (c : Ct) : Nat → List Expr → Option IEs
  | 0, _ => none
  | n + 1, [] => some .nil
  | n + 1, e :: es => if plainE e then (cE c n e).bind fun ce => (cEs c n es).map fun ces => .cons ce ces else none
def cKs (c : Ct) : Nat → List Keyword → Option IEs
  | 0, _ => none
  | n + 1, [] => some .nil
  | n + 1, k :: ks => (cE c n k.value).bind fun ce => (cKs c n ks).map fun ces => .cons ce ces
def cKV (c : Ct) : Nat → List (Option Expr) → List Expr → Option IKV
  | 0, _, _ => none
  | n + 1, [], [] => some .nil
  | n + 1, some k :: ks, v :: vs => (cE c n k).bind fun ck => (cE c n v).bind fun cv => (cKV c n ks vs).map fun r => .cons ck cv r
  | _, _, _ => none
def cI (c : Ct) : Nat → Expr → Expr → Option II
  | 0, _, _ => none
  | n + 1, tg, e => match e with
    | .Call (.Name x p) es kws q =>
      if glB c.sc x && (fnIx c.funs x 0).isNone && kws.isEmpty && x = ("range" : Str) then (match es with
        | [a] => if plainE a then (cE c n a).map .rng1 else none
        | [a, b] => if plainE a && plainE b then (cE c n a).bind fun ca => (cE c n b).map fun cb => .rng2 ca cb else none
        | _ => none)
      else if glB c.sc x && (fnIx c.funs x 0).isNone && kws.isEmpty && x = ("enumerate" : Str) then (match es with
        | [a] => if isTup tg && plainE a then (cE c n a).map .enm else none
        | _ => none)
      else if glB c.sc x && (fnIx c.funs x 0).isNone && kws.isEmpty && x = ("zip" : Str) then (match es with
        | [a, b] => if isTup tg && (plainE a && plainE b) then (cE c n a).bind fun ca => (cE c n b).map fun cb => .zip ca cb else none
        | _ => none)
      else (cE c n (.Call (.Name x p) es kws q)).map .seq
    | e => (cE c n e).map .seq
end
end Mi

namespace Mi
open PySem L2

/-! ### the readings -/
section
variable (K : PySem.W.Frag) (C : CallT)
def rE (e : IE) : TE := fun σ H Q => ∃ m ρ S d S', SE K m H ρ σ ∧ SH K m H S ∧ ev C e ρ S = some (d, S') ∧ ∀ m' H' v, Ext K H H' m m' → SH K m' H' S' → RV K H' m' d v → Q v H'
def rC (e : IC) : TT := fun σ H Q => ∃ m ρ S d S', SE K m H ρ σ ∧ SH K m H S ∧ tst C e ρ S = some (d, S') ∧ ∀ m' H', Ext K H H' m m' → SH K m' H' S' → Q d H'
def rO (e : IO) : TT := fun σ H Q => ∃ m ρ S d S', SE K m H ρ σ ∧ SH K m H S ∧ tsts C e ρ S = some (d, S') ∧ ∀ m' H', Ext K H H' m m' → SH K m' H' S' → Q d H'
def rP (e : IP) : TO := fun σ H Q => ∃ m ρ S d S', SE K m H ρ σ ∧ SH K m H S ∧ evp C e ρ S = some (d, S') ∧ ∀ m' H', Ext K H H' m m' → SH K m' H' S' → Q d H'
def rEs (es : IEs) : TA := fun σ H Q => ∃ m ρ S ds S', SE K m H ρ σ ∧ SH K m H S ∧ evs C es ρ S = some (ds, S') ∧ ∀ m' H' vs, Ext K H H' m m' → SH K m' H' S' → RVs K H' m' ds vs → Q vs H'
end
/-- a walk's turns are told by itm -/
def ITR (K : PySem.W.Frag) (H0 : Hp) (m : List Addr) (it : IT) (J : It) : Prop :=
  ∀ (m1 : List Addr) (H : Hp) (S : Sto) (i : Nat), Ext K H0 H m m1 → SH K m1 H S →
    (itm it i S = some none → J.stop i H) ∧ (∀ d, itm it i S = some (some d) → J.go i H ∧ ∀ x H', J.yld i H x H' → Ext K H H' m1 m1 ∧ SH K m1 H' S ∧ RV K H' m1 d x)
def rI (K : PySem.W.Frag) (C : CallT) (e : II) : TI := fun σ H R => ∃ m ρ S it S', SE K m H ρ σ ∧ SH K m H S ∧ evi C e ρ S = some (it, S') ∧ ∀ m' H' J, Ext K H H' m m' → SH K m' H' S' → ITR K H' m' it J → R J H'
/-- what a def of the table promises -/
def spC (K : PySem.W.Frag) (C : CallT) (f : Nat) (n : Nat) : Sp := fun vs H Q _ => vs.length = n ∧ ∃ m S ds d S', SH K m H S ∧ RVs K H m ds vs ∧ C f ds S = some (d, S') ∧ ∀ m' H' v, Ext K H H' m m' → SH K m' H' S' → RV K H' m' d v → Q v H'
def permV {α : Type} (z : α) (pm : List Nat) (xs : List α) : List α := pm.map fun i => xs.getD i z
structure FnG (C : CallT) (f : Nat) (x : Str) (ps : List Str) (kws : List (Nat × Nat × List Str × List Nat)) (X : Cx) : Prop where
  ok : ∃ (a : Addr) (fd : FuncData) (k : Nat), X.mg x = some (.ref a) ∧ PySem.W.keepIn X.K (.ref a) = true ∧ Binds X.K fd ps [] ∧ Room k X.A ∧ FnOk X.prog X.w X.K X.mg X.base CX0 k a fd ps (spC X.K C f ps.length) ∧
    ∀ (n : Nat) (ks : List Str) (pm : List Nat), (f, n, ks, pm) ∈ kws → pm.length = ps.length ∧ ∀ (s : Shared) (us ws : List Value), us.length = n → ws.length = ks.length → BindsTo s fd ⟨us, ks.zip ws⟩ (ps.zip (permV Value.none pm (us ++ ws)))
structure Gd (C : CallT) (c : Ct) (X : Cx) : Prop where
  N : X.N = c.N
  nd : c.N.Nodup
  sc : X.env.scope = c.sc
  kd : c.sc.kind = .function
  calm : X.calm = true
  fn : ∀ x, c.clf x = true → X.fn x = true
  blt : ∀ x ∈ bltNames, X.mg x = none
  hu : X.A.units + 65 < cLine
  fns : ∀ (f : Nat) (x : Str) (ps : List Str), c.funs[f]? = some (x, ps) → FnG C f x ps c.kws X

section
variable {X : Cx} {C : CallT} {c : Ct}
theorem PE.star {e : Expr} {t : TE} (h : ∀ σ H Q, t σ H Q → ∃ t', PE X e t' ∧ t' σ H Q) : PE X e t := ⟨fun pins s σ H Q I hq => let ⟨_, h1, h2⟩ := h σ H Q hq; h1.run pins s σ H Q I h2⟩
theorem PT.star {e : Expr} {t : TT} (h : ∀ σ H Q, t σ H Q → ∃ t', PT X e t' ∧ t' σ H Q) : PT X e t := ⟨fun pins s σ H Q I hq => let ⟨_, h1, h2⟩ := h σ H Q hq; h1.run pins s σ H Q I h2⟩
theorem PW.star {e : Expr} {t : TT} (h : ∀ σ H Q, t σ H Q → ∃ t', PW X e t' ∧ t' σ H Q) : PW X e t := ⟨fun whole pins s σ H Q I hq => let ⟨_, h1, h2⟩ := h σ H Q hq; h1.run whole pins s σ H Q I h2⟩
theorem PTs.star {e : List Expr} {t : TT} (h : ∀ σ H Q, t σ H Q → ∃ t', PTs X e t' ∧ t' σ H Q) : PTs X e t := ⟨fun pins s σ H Q I hq => let ⟨_, h1, h2⟩ := h σ H Q hq; h1.run pins s σ H Q I h2⟩
theorem PA.star {e : List Expr} {t : TA} (h : ∀ σ H Q, t σ H Q → ∃ t', PA X e t' ∧ t' σ H Q) : PA X e t := ⟨fun pos pins s σ H Q I hq => let ⟨_, h1, h2⟩ := h σ H Q hq; h1.run pos pins s σ H Q I h2⟩
theorem PK.star {e : List Keyword} {t : TA} (h : ∀ σ H Q, t σ H Q → ∃ t', PK X e t' ∧ t' σ H Q) : PK X e t := ⟨fun pos pins s σ H Q I hq => let ⟨_, h1, h2⟩ := h σ H Q hq; h1.run pos pins s σ H Q I h2⟩
theorem PO.star {e : Option Expr} {t : TO} (h : ∀ σ H Q, t σ H Q → ∃ t', PO X e t' ∧ t' σ H Q) : PO X e t := ⟨fun pins s σ H Q I hq => let ⟨_, h1, h2⟩ := h σ H Q hq; h1.run pins s σ H Q I h2⟩
theorem PI.star {tg e : Expr} {t : TI} (h : ∀ σ H Q, t σ H Q → ∃ t', PI X tg e t' ∧ t' σ H Q) : PI X tg e t := ⟨fun pins s σ H Q I hq => let ⟨_, h1, h2⟩ := h σ H Q hq; h1.run pins s σ H Q I h2⟩
theorem PG.star {tg : Expr} {t : TG} (h : ∀ v σ H Q, t v σ H Q → ∃ t', PG X tg t' ∧ t' v σ H Q) : PG X tg t := ⟨fun pins s σ H v u Q I r hq => let ⟨_, h1, h2⟩ := h v σ H Q hq; h1.run pins s σ H v u Q I r h2⟩
theorem PGs.star {tg : List Expr} {t : TGs} (h : ∀ v σ H Q, t v σ H Q → ∃ t', PGs X tg t' ∧ t' v σ H Q) : PGs X tg t := ⟨fun pins s σ H v u Q I r hq => let ⟨_, h1, h2⟩ := h v σ H Q hq; h1.run pins s σ H v u Q I r h2⟩
theorem PS.star {e : Stmt} {t : TS} (h : ∀ D σ H, t D σ H → ∃ t', PS X e t' ∧ t' D σ H) : PS X e t := ⟨fun pins s σ H D I hq => let ⟨_, h1, h2⟩ := h D σ H hq; h1.run pins s σ H D I h2⟩
theorem PSs.star {e : List Stmt} {t : TS} (h : ∀ D σ H, t D σ H → ∃ t', PSs X e t' ∧ t' D σ H) : PSs X e t := ⟨fun pins s σ H D I hq => let ⟨_, h1, h2⟩ := h D σ H hq; h1.run pins s σ H D I h2⟩

theorem bind_some {α β : Type} {x : Option α} {f : α → Option β} {b : β} (h : x.bind f = some b) : ∃ a, x = some a ∧ f a = some b := Option.bind_eq_some_iff.mp h
theorem map_some {α β : Type} {x : Option α} {f : α → β} {b : β} (h : x.map f = some b) : ∃ a, x = some a ∧ f a = b := by
  cases x with
  | none => cases h
  | some a => exact ⟨a, rfl, Option.some.inj h⟩
theorem ite_some {α : Type} {p : Prop} [Decidable p] {x : Option α} {a : α} (h : (if p then x else none) = some a) : p ∧ x = some a := by
  by_cases e : p
  · rw [if_pos e] at h
    exact ⟨e, h⟩
  · rw [if_neg e] at h
    cases h

/-! ### names, constants -/
theorem ok_var {x : Str} {pos : Pos} {i : Ix} (G : Gd C c X) (hv : visB c.sc x = true) (ho : okN x = true) (hi : ixOf c.N x = some i) : PE X (.Name x pos) (rE X.K C (.var i)) := by
  refine PE.star fun σ H Q h => ?_
  obtain ⟨m, ρ, S, d, S', se, sh, he, q⟩ := h
  simp only [ev] at he
  obtain ⟨d', e1, e2⟩ := map_some he
  cases e2
  obtain ⟨v, hσ, r⟩ := se.look e1
  simp only [okN, Bool.and_eq_true, Bool.not_eq_true'] at ho
  refine ⟨_, pe_var (i := i.nat) (by rw [G.N]; exact ixOf_ok hi) (by rw [G.sc]; exact vis_of hv) ho.1.1 ho.1.2, v, hσ, q m H v Ext.refl sh r⟩
theorem ok_cst {e : Expr} {d : D} {v : V} (h : PE X e (tC v)) (r : ∀ H m, RV X.K H m d v) : PE X e (rE X.K C (.cst d)) := by
  refine PE.star fun σ H Q hq => ⟨_, h, ?_⟩
  obtain ⟨m, ρ, S, d', S', se, sh, he, q⟩ := hq
  simp only [ev, Option.some.injEq, Prod.mk.injEq] at he
  obtain ⟨rfl, rfl⟩ := he
  exact q m H v Ext.refl sh (r H m)

/-! ### operators -/
theorem mul_of {i j : Int} (h : mulOk i j = true) : CMul i j ∨ CMulW i j := by
  simp only [mulOk, Bool.or_eq_true, Bool.and_eq_true, decide_eq_true_eq] at h
  rcases h with (h | h) | h
  · exact .inl (.inl h)
  · exact .inl (.inr h)
  · exact .inr h
theorem bin_int {op : Operator} {H : Hp} {S S' : Sto} {i j : Int} {z : D} {Q : VK} (h : binD op (.int i) (.int j) S = some (z, S')) (q : S' = S → ∀ k, z = .int k → Q (.int k) H) :
    ∃ r, OpR X (binaryOp op) r ∧ r (.int i) (.int j) H Q := by
  have fin : ∀ {k : Int}, some (D.int k, S) = some (z, S') → Q (.int k) H := fun {k} e => by
    have e' := Option.some.inj e
    have e1 : D.int k = z := congrArg Prod.fst e'
    have e2 : S = S' := congrArg Prod.snd e'
    exact q e2.symm k e1.symm
  match op, h with
  | .Add, h => exact ⟨_, op_add, i, j, rfl, rfl, fin h⟩
  | .Sub, h => exact ⟨_, op_sub, i, j, rfl, rfl, fin h⟩
  | .Mult, h =>
    obtain ⟨h1, h2⟩ := ite_some (show (if mulOk i j then some (D.int (i * j), S) else none) = some (z, S') from h)
    rcases mul_of h1 with g | g
    · exact ⟨_, op_mul, i, j, rfl, rfl, g, fin h2⟩
    · exact ⟨_, op_mulW, i, j, rfl, rfl, g, fin h2⟩
  | .Mod, h =>
    obtain ⟨h1, h2⟩ := ite_some (show (if decide (0 < j) then some (D.int (i % j), S) else none) = some (z, S') from h)
    exact ⟨_, op_mod, i, j, rfl, rfl, of_decide_eq_true h1, fin h2⟩
  | .Pow, h =>
    obtain ⟨h1, h2⟩ := ite_some (show (if powOk i j then some (D.int (i ^ j.toNat), S) else none) = some (z, S') from h)
    simp only [powOk, Bool.and_eq_true, decide_eq_true_eq] at h1
    exact ⟨_, op_pow, i, j, rfl, rfl, ⟨h1.1.1, h1.1.2, h1.2⟩, fin h2⟩
  | .LShift, h =>
    obtain ⟨h1, h2⟩ := ite_some (show (if powOk i j then some (D.int (i * 2 ^ j.toNat), S) else none) = some (z, S') from h)
    simp only [powOk, Bool.and_eq_true, decide_eq_true_eq] at h1
    exact ⟨_, op_shl, i, j, rfl, rfl, ⟨h1.1.1, h1.1.2, h1.2⟩, fin h2⟩
  | .FloorDiv, h =>
    obtain ⟨h1, h2⟩ := ite_some (show (if divOk j then some (D.int (i / j), S) else none) = some (z, S') from h)
    simp only [divOk, Bool.and_eq_true, Bool.or_eq_true, decide_eq_true_eq] at h1
    rcases h1.2 with g | g
    · exact ⟨_, op_fdiv, i, j, rfl, rfl, ⟨h1.1, g⟩, fin h2⟩
    · exact ⟨_, op_fdivW, i, j, rfl, rfl, ⟨h1.1, g⟩, fin h2⟩
  | .MatMult, h => cases (show none = some (z, S') from h)
  | .Div, h => cases (show none = some (z, S') from h)
  | .RShift, h => cases (show none = some (z, S') from h)
  | .BitOr, h => cases (show none = some (z, S') from h)
  | .BitXor, h => cases (show none = some (z, S') from h)
  | .BitAnd, h => cases (show none = some (z, S') from h)
theorem rv_ptr {m : List Addr} {H : Hp} {S : Sto} {p : Addr} {K : PySem.W.Frag} (sh : SH K m H S) {H' : Hp} : RV K H' (m ++ [p]) (.ptr S.length) (.ref p) := by
  simp only [RV]
  exact ⟨p, by rw [← sh.len, List.getElem?_append_right (Nat.le_refl _)]; simp, rfl⟩
theorem bin_ok {op : Operator} {m : List Addr} {H : Hp} {S S' : Sto} {d e z : D} {x y : V} {Q : VK} (sh : SH X.K m H S) (r1 : RV X.K H m d x) (r2 : RV X.K H m e y) (h : binD op d e S = some (z, S'))
    (q : ∀ m' H' v, Ext X.K H H' m m' → SH X.K m' H' S' → RV X.K H' m' z v → Q v H') : ∃ r, OpR X (binaryOp op) r ∧ r x y H Q := by
  match d, e, r1, r2, h with
  | .int i, .int j, r1, r2, h =>
    simp only [RV] at r1 r2
    subst r1 r2
    exact bin_int h fun e k ez => by subst e ez; exact q m H _ Ext.refl sh (by simp only [RV])
  | .str a, .str b, r1, r2, h =>
    simp only [RV] at r1 r2
    subst r1 r2
    cases op with
    | Add =>
      obtain ⟨h1, h2⟩ := ite_some (show (if decide (a.length + b.length ≤ sizeLine) then some (D.str (a ++ b), S) else none) = some (z, S') from h)
      cases h2
      exact ⟨_, op_add_str, a, b, rfl, rfl, of_decide_eq_true h1, q m H _ Ext.refl sh (by simp only [RV])⟩
    | _ => cases (show none = some (z, S') from h)
  | .tup ds, .tup es, r1, r2, h =>
    simp only [RV] at r1 r2
    obtain ⟨a, xs, rfl, q1, q2⟩ := r1
    obtain ⟨b, ys, rfl, q3, q4⟩ := r2
    cases op with
    | Add =>
      obtain ⟨h1, h2⟩ := ite_some (show (if decide (ds.length + es.length ≤ sizeLine) then some (D.tup (ds ++ es), S) else none) = some (z, S') from h)
      cases h2
      refine ⟨_, op_catA, a, b, xs, ys, rfl, rfl, q1, q3, by rw [← q2.length, ← q4.length]; exact of_decide_eq_true h1, fun e0 => ?_, fun _ e0 => ?_, fun _ _ p hp => ?_⟩
      · subst e0
        have : ds = [] := List.length_eq_zero_iff.mp q2.length
        subst this
        exact q m H _ Ext.refl sh (by simp only [RV]; exact ⟨b, ys, rfl, q3, q4⟩)
      · subst e0
        have : es = [] := List.length_eq_zero_iff.mp q4.length
        subst this
        exact q m H _ Ext.refl sh (by simp only [RV, List.append_nil]; exact ⟨a, xs, rfl, q1, q2⟩)
      · refine q m _ _ (Ext.fresh hp) (sh.tmp hp) ?_
        simp only [RV]
        exact ⟨p, _, rfl, .inl (.inl upd_same), (q2.mono (Ext.fresh hp)).append (q4.mono (Ext.fresh hp))⟩
    | _ => cases (show none = some (z, S') from h)
  | .ptr n, .ptr k, r1, r2, h =>
    simp only [RV] at r1 r2
    obtain ⟨a, ea, rfl⟩ := r1
    obtain ⟨b, eb, rfl⟩ := r2
    cases op with
    | Add =>
      have h' : (match mutOf S n, mutOf S k with
        | some xs, some ys => if decide (xs.length + ys.length ≤ sizeLine) then some (D.ptr S.length, S ++ [O.lst (xs ++ ys)]) else none
        | _, _ => none) = some (z, S') := h
      split at h'
      · rename_i xs ys hx hy
        obtain ⟨h1, h2⟩ := ite_some h'
        cases h2
        unfold mutOf at hx hy
        split at hx <;> cases hx
        split at hy <;> cases hy
        rename_i s1 _ s2
        obtain ⟨vs, w1, w2⟩ := sh.obj n a _ ea s1
        obtain ⟨us, w3, w4⟩ := sh.obj k b _ eb s2
        refine ⟨_, op_cat, a, b, vs, us, rfl, rfl, w1, w3, by rw [← w2.length, ← w4.length]; exact of_decide_eq_true h1, fun p hp => ?_⟩
        exact q (m ++ [p]) _ _ (Ext.alloc hp) (sh.alloc hp ⟨_, upd_same, (w2.mono (Ext.alloc hp)).append (w4.mono (Ext.alloc hp))⟩) (rv_ptr sh)
      · cases h'
    | _ => cases (show none = some (z, S') from h)
  | .ptr n, .int k, r1, r2, h =>
    simp only [RV] at r1 r2
    obtain ⟨a, ea, rfl⟩ := r1
    subst r2
    cases op with
    | Mult =>
      have h' : (match mutOf S n with
        | some xs => if decide (-(2 ^ 63) ≤ k) && decide (k < 2 ^ 63) && decide (xs.length * k.toNat ≤ sizeLine) then some (D.ptr S.length, S ++ [O.lst (List.replicate k.toNat xs).flatten]) else none
        | _ => none) = some (z, S') := h
      split at h'
      · rename_i xs hx
        obtain ⟨h1, h2⟩ := ite_some h'
        cases h2
        simp only [Bool.and_eq_true, decide_eq_true_eq] at h1
        unfold mutOf at hx
        split at hx <;> cases hx
        rename_i s1
        obtain ⟨vs, w1, w2⟩ := sh.obj n a _ ea s1
        refine ⟨_, op_rep, a, k, vs, rfl, rfl, w1, h1.1.1, h1.1.2, by rw [← w2.length]; exact h1.2, fun p hp => ?_⟩
        have rep : ∀ (t : Nat), RVs X.K (upd H p (.lst (List.replicate k.toNat vs).flatten)) (m ++ [p]) (List.replicate t xs).flatten (List.replicate t vs).flatten := by
          intro t
          induction t with
          | zero => simp [RVs]
          | succ t ih =>
            rw [List.replicate_succ, List.replicate_succ, List.flatten_cons, List.flatten_cons]
            exact (w2.mono (Ext.alloc hp)).append ih
        exact q (m ++ [p]) _ _ (Ext.alloc hp) (sh.alloc hp ⟨_, upd_same, rep _⟩) (rv_ptr sh)
      · cases h'
    | _ => cases (show none = some (z, S') from h)
  | .non, _, _, _, h => cases (show none = some (z, S') from h)
  | .bl _, _, _, _, h => cases (show none = some (z, S') from h)
  | .int _, .non, _, _, h => cases (show none = some (z, S') from h)
  | .int _, .bl _, _, _, h => cases (show none = some (z, S') from h)
  | .int _, .str _, _, _, h => cases (show none = some (z, S') from h)
  | .int _, .tup _, _, _, h => cases (show none = some (z, S') from h)
  | .int _, .ptr _, _, _, h => cases (show none = some (z, S') from h)
  | .str _, .non, _, _, h => cases (show none = some (z, S') from h)
  | .str _, .bl _, _, _, h => cases (show none = some (z, S') from h)
  | .str _, .int _, _, _, h => cases (show none = some (z, S') from h)
  | .str _, .tup _, _, _, h => cases (show none = some (z, S') from h)
  | .str _, .ptr _, _, _, h => cases (show none = some (z, S') from h)
  | .tup _, .non, _, _, h => cases (show none = some (z, S') from h)
  | .tup _, .bl _, _, _, h => cases (show none = some (z, S') from h)
  | .tup _, .int _, _, _, h => cases (show none = some (z, S') from h)
  | .tup _, .str _, _, _, h => cases (show none = some (z, S') from h)
  | .tup _, .ptr _, _, _, h => cases (show none = some (z, S') from h)
  | .ptr _, .non, _, _, h => cases (show none = some (z, S') from h)
  | .ptr _, .bl _, _, _, h => cases (show none = some (z, S') from h)
  | .ptr _, .str _, _, _, h => cases (show none = some (z, S') from h)
  | .ptr _, .tup _, _, _, h => cases (show none = some (z, S') from h)
theorem ok_bin {op : Operator} {a b : Expr} {pos : Pos} {ca cb : IE} (ha : PE X a (rE X.K C ca)) (hb : PE X b (rE X.K C cb)) : PE X (.BinOp a op b pos) (rE X.K C (.bin op ca cb)) := by
  refine PE.star fun σ H Q h => ?_
  obtain ⟨m, ρ, S, d, S', se, sh, he, q⟩ := h
  simp only [ev] at he
  obtain ⟨⟨x, S1⟩, e1, he⟩ := bind_some he
  obtain ⟨⟨y, S2⟩, e2, he⟩ := bind_some he
  refine ⟨_, pe_op (r := fun x y H Q => ∃ r, OpR X (binaryOp op) r ∧ r x y H Q) (fun pins s σ H x y v u Q I rx ry ⟨r, h1, h2⟩ => h1 pins s σ H x y v u Q I rx ry h2) ha hb, ?_⟩
  refine ⟨m, ρ, S, x, S1, se, sh, e1, fun m1 H1 vx x1 sh1 r1 => ⟨m1, ρ, S1, y, S2, se.mono x1, sh1, e2, fun m2 H2 vy x2 sh2 r2 => ?_⟩⟩
  exact bin_ok sh2 (r1.mono x2) r2 he fun m' H' v x3 sh3 r3 => q m' H' v ((x1.trans x2).trans x3) sh3 r3
theorem ok_neg {a : Expr} {pos : Pos} {ca : IE} (ha : PE X a (rE X.K C ca)) : PE X (.UnaryOp .USub a pos) (rE X.K C (.neg ca)) := by
  refine PE.star fun σ H Q h => ?_
  obtain ⟨m, ρ, S, d, S', se, sh, he, q⟩ := h
  simp only [ev] at he
  obtain ⟨⟨x, S1⟩, e1, he⟩ := bind_some he
  cases x with
  | int i =>
    simp only [Option.some.injEq, Prod.mk.injEq] at he
    obtain ⟨rfl, rfl⟩ := he
    refine ⟨_, pe_un un_neg ha, m, ρ, S, .int i, S1, se, sh, e1, fun m1 H1 vx x1 sh1 r1 => ?_⟩
    simp only [RV] at r1
    subst r1
    exact ⟨i, rfl, q m1 H1 _ x1 sh1 (by simp only [RV])⟩
  | _ => cases he
/-! ### truth -/
theorem tru_of {m : List Addr} {H : Hp} {S : Sto} {d : D} {x : V} {k : Bool} (sh : SH X.K m H S) (r : RV X.K H m d x) (h : truD d S = some k) : TruV X.K x H k := by
  cases d with
  | non => simp only [RV] at r; subst r; simp only [truD, Option.some.injEq] at h; exact h.symm
  | bl b => simp only [RV] at r; subst r; simp only [truD, Option.some.injEq] at h; exact h.symm
  | int i => simp only [RV] at r; subst r; simp only [truD, Option.some.injEq] at h; exact h.symm
  | str y =>
    simp only [RV] at r
    subst r
    simp only [truD] at h
    obtain ⟨h1, h2⟩ := ite_some h
    exact ⟨of_decide_eq_true h1, (Option.some.inj h2).symm⟩
  | tup ds =>
    simp only [RV] at r
    obtain ⟨a, xs, rfl, q1, q2⟩ := r
    simp only [truD, Option.some.injEq] at h
    refine .inr (.inl ⟨xs, q1, ?_⟩)
    rw [← h]
    cases ds <;> cases xs <;> simp_all [RVs]
  | ptr n =>
    simp only [RV] at r
    obtain ⟨a, ea, rfl⟩ := r
    simp only [truD] at h
    obtain ⟨ds, h1, h2⟩ := map_some h
    have fin : ∀ {xs : List V}, RVs X.K H m ds xs → SqL X.K H a xs → TruV X.K (.ref a) H k := fun {xs} w1 w2 => by
      refine .inl ⟨xs, w2, ?_⟩
      rw [← h2]
      cases ds <;> cases xs <;> simp_all [RVs]
    unfold lstOf at h1
    split at h1 <;> cases h1
    · rename_i s1
      obtain ⟨vs, w1, w2⟩ := sh.obj n a _ ea s1
      exact fin w2 (.inl (.inl w1))
    · rename_i s1
      obtain ⟨vs, w1, w2⟩ := sh.obj n a _ ea s1
      exact fin w2 w1.sq
/-- the list at a, read -/
theorem lst_of {m : List Addr} {H : Hp} {S : Sto} {n : Nat} {a : Addr} {ds : List D} (sh : SH X.K m H S) (ea : m[n]? = some a) (h : lstOf S n = some ds) : ∃ xs, SqL X.K H a xs ∧ RVs X.K H m ds xs := by
  unfold lstOf at h
  split at h <;> cases h
  · rename_i s1
    obtain ⟨vs, w1, w2⟩ := sh.obj n a _ ea s1
    exact ⟨vs, .inl (.inl w1), w2⟩
  · rename_i s1
    obtain ⟨vs, w1, w2⟩ := sh.obj n a _ ea s1
    exact ⟨vs, w1.sq, w2⟩
theorem mut_of {m : List Addr} {H : Hp} {S : Sto} {n : Nat} {a : Addr} {ds : List D} (sh : SH X.K m H S) (ea : m[n]? = some a) (h : mutOf S n = some ds) : S[n]? = some (.lst ds) ∧ ∃ xs, H a = some (.lst xs) ∧ RVs X.K H m ds xs := by
  unfold mutOf at h
  split at h <;> cases h
  rename_i s1
  exact ⟨s1, sh.obj n a _ ea s1⟩
theorem dct_of {m : List Addr} {H : Hp} {S : Sto} {n : Nat} {a : Addr} {ds : List (Key × D)} (sh : SH X.K m H S) (ea : m[n]? = some a) (h : dctOf S n = some ds) : S[n]? = some (.dct ds) ∧ ∃ xs, H a = some (.dK xs) ∧ RKV X.K H m ds xs := by
  unfold dctOf at h
  split at h <;> cases h
  rename_i s1
  exact ⟨s1, sh.obj n a _ ea s1⟩
theorem ok_not {a : Expr} {pos : Pos} {ca : IE} (ha : PE X a (rE X.K C ca)) : PE X (.UnaryOp .Not a pos) (rE X.K C (.not ca)) := by
  refine PE.star fun σ H Q h => ?_
  obtain ⟨m, ρ, S, d, S', se, sh, he, q⟩ := h
  simp only [ev] at he
  obtain ⟨⟨x, S1⟩, e1, he⟩ := bind_some he
  obtain ⟨k, e2, e3⟩ := map_some he
  cases e3
  exact ⟨_, pe_notT ha, m, ρ, S, x, S1, se, sh, e1, fun m1 H1 vx x1 sh1 r1 => ⟨k, tru_of sh1 r1 e2, q m1 H1 _ x1 sh1 (by simp only [RV])⟩⟩
theorem ok_and {a b : Expr} {rest : List Expr} {pos : Pos} {ca cb : IE} (ha : PE X a (rE X.K C ca)) (hb : PE X (.BoolOp .And (b :: rest) pos) (rE X.K C cb)) : PE X (.BoolOp .And (a :: b :: rest) pos) (rE X.K C (.and ca cb)) := by
  refine PE.star fun σ H Q h => ?_
  obtain ⟨m, ρ, S, d, S', se, sh, he, q⟩ := h
  simp only [ev] at he
  obtain ⟨⟨x, S1⟩, e1, he⟩ := bind_some he
  refine ⟨_, pe_and ha hb, m, ρ, S, x, S1, se, sh, e1, fun m1 H1 vx x1 sh1 r1 => ?_⟩
  cases x with
  | bl k =>
    simp only [RV] at r1
    subst r1
    refine ⟨k, rfl, ?_⟩
    cases k with
    | true =>
      rw [if_pos rfl]
      exact ⟨m1, ρ, S1, d, S', se.mono x1, sh1, he, fun m2 H2 v x2 sh2 r2 => q m2 H2 v (x1.trans x2) sh2 r2⟩
    | false =>
      rw [if_neg Bool.false_ne_true]
      cases he
      exact q m1 H1 _ x1 sh1 (by simp only [RV])
  | _ => cases he
theorem ok_or {a b : Expr} {rest : List Expr} {pos : Pos} {ca cb : IE} (ha : PE X a (rE X.K C ca)) (hb : PE X (.BoolOp .Or (b :: rest) pos) (rE X.K C cb)) : PE X (.BoolOp .Or (a :: b :: rest) pos) (rE X.K C (.or ca cb)) := by
  refine PE.star fun σ H Q h => ?_
  obtain ⟨m, ρ, S, d, S', se, sh, he, q⟩ := h
  simp only [ev] at he
  obtain ⟨⟨x, S1⟩, e1, he⟩ := bind_some he
  refine ⟨_, pe_or ha hb, m, ρ, S, x, S1, se, sh, e1, fun m1 H1 vx x1 sh1 r1 => ?_⟩
  cases x with
  | bl k =>
    simp only [RV] at r1
    subst r1
    refine ⟨k, rfl, ?_⟩
    cases k with
    | false =>
      rw [if_neg Bool.false_ne_true]
      exact ⟨m1, ρ, S1, d, S', se.mono x1, sh1, he, fun m2 H2 v x2 sh2 r2 => q m2 H2 v (x1.trans x2) sh2 r2⟩
    | true =>
      rw [if_pos rfl]
      cases he
      exact q m1 H1 _ x1 sh1 (by simp only [RV])
  | _ => cases he
theorem ok_ite {t a b : Expr} {pos : Pos} {ct : IC} {ca cb : IE} (ht : PT X t (rC X.K C ct)) (ha : PE X a (rE X.K C ca)) (hb : PE X b (rE X.K C cb)) : PE X (.IfExp t a b pos) (rE X.K C (.ite ct ca cb)) := by
  refine PE.star fun σ H Q h => ?_
  obtain ⟨m, ρ, S, d, S', se, sh, he, q⟩ := h
  simp only [ev] at he
  obtain ⟨⟨k, S1⟩, e1, he⟩ := bind_some he
  refine ⟨_, pe_ifExp ht ha hb, m, ρ, S, k, S1, se, sh, e1, fun m1 H1 x1 sh1 => ?_⟩
  cases k with
  | true =>
    rw [if_pos rfl] at he ⊢
    exact ⟨m1, ρ, S1, d, S', se.mono x1, sh1, he, fun m2 H2 v x2 sh2 r2 => q m2 H2 v (x1.trans x2) sh2 r2⟩
  | false =>
    rw [if_neg Bool.false_ne_true] at he ⊢
    exact ⟨m1, ρ, S1, d, S', se.mono x1, sh1, he, fun m2 H2 v x2 sh2 r2 => q m2 H2 v (x1.trans x2) sh2 r2⟩
end
end Mi

namespace Mi
open PySem L2
section
variable {X : Cx} {C : CallT} {c : Ct}
/-! ### data -/
mutual
theorem pd_ok {K : PySem.W.Frag} {H : Hp} {m : List Addr} : ∀ {d : D} {v : V} {p : PyData}, RV K H m d v → pd d = some p → Dp K H v p
  | .non, _, _, r, h => by simp only [RV] at r; simp only [pd, Option.some.injEq] at h; subst r h; exact .non
  | .bl _, _, _, r, h => by simp only [RV] at r; simp only [pd, Option.some.injEq] at h; subst r h; exact .bl _
  | .int _, _, _, r, h => by simp only [RV] at r; simp only [pd, Option.some.injEq] at h; subst r h; exact .int _
  | .str _, _, _, r, h => by simp only [RV] at r; simp only [pd, Option.some.injEq] at h; subst r h; exact .str _
  | .tup ds, _, _, r, h => by
    simp only [RV] at r
    obtain ⟨a, xs, rfl, q1, q2⟩ := r
    simp only [pd] at h
    obtain ⟨ps, h1, rfl⟩ := map_some h
    exact .tup q1 (pds_ok q2 h1)
  | .ptr _, _, _, _, h => by simp only [pd] at h; cases h
theorem pds_ok {K : PySem.W.Frag} {H : Hp} {m : List Addr} : ∀ {ds : List D} {vs : List V} {ps : List PyData}, RVs K H m ds vs → pds ds = some ps → DpAll K H vs ps
  | [], [], _, _, h => by simp only [pds, Option.some.injEq] at h; subst h; exact .nil
  | d :: ds, v :: vs, _, r, h => by
    simp only [RVs] at r
    simp only [pds] at h
    obtain ⟨a, h1, h⟩ := bind_some h
    obtain ⟨b, h2, rfl⟩ := map_some h
    exact .cons (pd_ok r.1 h1) (pds_ok r.2 h2)
  | [], _ :: _, _, r, _ => by simp only [RVs] at r
  | _ :: _, [], _, r, _ => by simp only [RVs] at r
end
/-- x in a tuple of data -/
def rInDT (K : PySem.W.Frag) : R2 := fun x y H Q => ∃ d ds, Dp K H x d ∧ Dp K H y (.tuple ds) ∧ SeqAt.shaped d = true ∧ SeqAt.shaped (.tuple ds) = true ∧ Q (.bl (ds.any fun z => PyData.eqv z d)) H
def rNotInDT (K : PySem.W.Frag) : R2 := fun x y H Q => ∃ d ds, Dp K H x d ∧ Dp K H y (.tuple ds) ∧ SeqAt.shaped d = true ∧ SeqAt.shaped (.tuple ds) = true ∧ Q (.bl (!ds.any fun z => PyData.eqv z d)) H
theorem op_inDT (hu : X.A.units + 65 < cLine) : OpR X (compareOp .In) (rInDT X.K) := by
  intro pins s σ H x y v u Q I rx ry h
  obtain ⟨d, ds, hd, he, sd, se, q⟩ := h
  obtain ⟨as, r1⟩ := Dp.reads I d x v hd rx
  obtain ⟨bs, r2⟩ := Dp.reads I (.tuple ds) y u he ry
  exact SeqAt.in_tuple_reads r2 r1 (SeqAt.canLay_of_shaped se) (SeqAt.canLay_of_shaped sd) (PyProof.Rows.room_in_shaped sd hu) ⟨.bl _, H, I, rfl, q⟩
theorem op_notInDT (hu : X.A.units + 65 < cLine) : OpR X (compareOp .NotIn) (rNotInDT X.K) := by
  intro pins s σ H x y v u Q I rx ry h
  obtain ⟨d, ds, hd, he, sd, se, q⟩ := h
  obtain ⟨as, r1⟩ := Dp.reads I d x v hd rx
  obtain ⟨bs, r2⟩ := Dp.reads I (.tuple ds) y u he ry
  exact SeqAt.notIn_tuple_reads r2 r1 (SeqAt.canLay_of_shaped se) (SeqAt.canLay_of_shaped sd) (PyProof.Rows.room_in_shaped sd hu) ⟨.bl _, H, I, rfl, q⟩

theorem eqS_ok {K : PySem.W.Frag} {m : List Addr} {H : Hp} {d e : D} {x y : V} {b : Bool} (r1 : RV K H m d x) (r2 : RV K H m e y) (h : eqS d e = some b) : scal x y = true ∧ b = decide (x = y) := by
  cases d <;> cases e <;> simp only [eqS] at h <;> first
    | cases h; done
    | (simp only [RV] at r1 r2
       subst r1 r2
       simp only [Option.some.injEq] at h
       subst h
       refine ⟨rfl, ?_⟩
       simp)
theorem eq_ok {m : List Addr} {H : Hp} {d e : D} {x y : V} {b : Bool} {Q : VK} (G : Gd C c X) (r1 : RV X.K H m d x) (r2 : RV X.K H m e y) (h : eqA d e = some b) (q : Q (.bl b) H) :
    ∃ r, OpR X (compareOp .Eq) r ∧ r x y H Q := by
  unfold eqA at h
  cases hs : eqS d e with
  | some b' =>
    rw [hs] at h
    obtain ⟨h1, h2⟩ := eqS_ok r1 r2 hs
    have e1 : b' = b := Option.some.inj h
    subst e1
    subst h2
    exact ⟨_, op_eq, h1, q⟩
  | none =>
    rw [hs] at h
    obtain ⟨p1, h1, h⟩ := bind_some h
    obtain ⟨p2, h2, h⟩ := bind_some h
    obtain ⟨h3, h4⟩ := ite_some h
    simp only [Bool.and_eq_true] at h3
    refine ⟨_, op_eqD (by have := G.hu; omega), p1, p2, pd_ok r1 h1, pd_ok r2 h2, h3.1, h3.2, ?_⟩
    rw [Option.some.inj h4]
    exact q
theorem ne_ok {m : List Addr} {H : Hp} {d e : D} {x y : V} {b : Bool} {Q : VK} (G : Gd C c X) (r1 : RV X.K H m d x) (r2 : RV X.K H m e y) (h : eqA d e = some b) (q : Q (.bl (!b)) H) :
    ∃ r, OpR X (compareOp .NotEq) r ∧ r x y H Q := by
  unfold eqA at h
  cases hs : eqS d e with
  | some b' =>
    rw [hs] at h
    obtain ⟨h1, h2⟩ := eqS_ok r1 r2 hs
    have e1 : b' = b := Option.some.inj h
    subst e1
    subst h2
    exact ⟨_, op_ne, h1, q⟩
  | none =>
    rw [hs] at h
    obtain ⟨p1, h1, h⟩ := bind_some h
    obtain ⟨p2, h2, h⟩ := bind_some h
    obtain ⟨h3, h4⟩ := ite_some h
    simp only [Bool.and_eq_true] at h3
    refine ⟨_, op_neD (by have := G.hu; omega), p1, p2, pd_ok r1 h1, pd_ok r2 h2, h3.1, h3.2, ?_⟩
    rw [Option.some.inj h4]
    exact q
theorem flat_ok {K : PySem.W.Frag} {m : List Addr} {H : Hp} : ∀ {d : D} {x : V}, RV K H m d x → flatD d = true → flatV x = true ∧ ∀ {e : D} {y : V}, RV K H m e y → flatD e = true → eqF e d = eqV y x := by
  intro d x r h
  have key : ∀ {e : D} {y : V}, RV K H m e y → flatD e = true → eqF e d = eqV y x := by
    intro e y r' h'
    cases d <;> cases e <;> first
      | (cases h; done)
      | (cases h'; done)
      | (simp only [RV] at r r'
         subst r r'
         rfl)
  refine ⟨?_, key⟩
  cases d <;> first
    | (cases h; done)
    | (simp only [RV] at r
       subst r
       rfl)
theorem flats_ok {K : PySem.W.Frag} {m : List Addr} {H : Hp} {d : D} {x : V} (r : RV K H m d x) (h : flatD d = true) : ∀ {ds : List D} {vs : List V}, RVs K H m ds vs → ds.all flatD = true →
    vs.all flatV = true ∧ (ds.any fun y => eqF y d) = inV x vs
  | [], [], _, _ => ⟨rfl, rfl⟩
  | e :: ds, y :: vs, rs, hs => by
    simp only [RVs] at rs
    simp only [List.all_cons, Bool.and_eq_true] at hs
    obtain ⟨h1, h2⟩ := flats_ok r h rs.2 hs.2
    refine ⟨by simp only [List.all_cons, Bool.and_eq_true]; exact ⟨(flat_ok rs.1 hs.1).1, h1⟩, ?_⟩
    have e1 := (flat_ok r h).2 rs.1 hs.1
    unfold inV at h2 ⊢
    rw [List.any_cons, List.any_cons, e1, h2]
  | [], _ :: _, rs, _ => by simp only [RVs] at rs
  | _ :: _, [], rs, _ => by simp only [RVs] at rs
/-- in, not in: a list or a tuple -/
theorem in_ok {m : List Addr} {H : Hp} {d : D} {ds : List D} {x : V} {a : Addr} {xs : List V} {t b : Bool} {Q : VK} (G : Gd C c X) (r : RV X.K H m d x) (rs : RVs X.K H m ds xs) (hq : if t = true then SqT X.K H a xs else SqL X.K H a xs)
    (h : inF t d ds = some b) (q : Q (.bl b) H) : ∃ r, OpR X (compareOp .In) r ∧ r x (.ref a) H Q := by
  unfold inF at h
  by_cases hf : (flatD d && ds.all flatD) = true
  · rw [if_pos hf] at h
    simp only [Bool.and_eq_true] at hf
    obtain ⟨h1, h2⟩ := flats_ok r hf.1 rs hf.2
    refine ⟨_, op_in_seq, a, xs, rfl, ?_, (flat_ok r hf.1).1, h1, ?_⟩
    · cases t with
      | true => exact .inr hq
      | false => exact .inl hq
    · rw [if_neg Bool.false_ne_true, ← h2, Option.some.inj h]
      exact q
  · rw [if_neg hf] at h
    obtain ⟨p1, h1, h⟩ := bind_some h
    obtain ⟨p2, h2, h⟩ := bind_some h
    obtain ⟨h3, h4⟩ := ite_some h
    simp only [Bool.and_eq_true] at h3
    cases t with
    | true => exact ⟨_, op_inDT G.hu, p1, p2, pd_ok r h1, .tup hq (pds_ok rs h2), h3.1, h3.2, by rw [Option.some.inj h4]; exact q⟩
    | false => exact ⟨_, op_inD G.hu, p1, p2, pd_ok r h1, .lst hq (pds_ok rs h2), h3.1, h3.2, by rw [Option.some.inj h4]; exact q⟩
theorem notin_ok {m : List Addr} {H : Hp} {d : D} {ds : List D} {x : V} {a : Addr} {xs : List V} {t b : Bool} {Q : VK} (G : Gd C c X) (r : RV X.K H m d x) (rs : RVs X.K H m ds xs) (hq : if t = true then SqT X.K H a xs else SqL X.K H a xs)
    (h : inF t d ds = some b) (q : Q (.bl (!b)) H) : ∃ r, OpR X (compareOp .NotIn) r ∧ r x (.ref a) H Q := by
  unfold inF at h
  by_cases hf : (flatD d && ds.all flatD) = true
  · rw [if_pos hf] at h
    simp only [Bool.and_eq_true] at hf
    obtain ⟨h1, h2⟩ := flats_ok r hf.1 rs hf.2
    refine ⟨_, op_notIn_seq, a, xs, rfl, ?_, (flat_ok r hf.1).1, h1, ?_⟩
    · cases t with
      | true => exact .inr hq
      | false => exact .inl hq
    · rw [if_pos rfl, ← h2, Option.some.inj h]
      exact q
  · rw [if_neg hf] at h
    obtain ⟨p1, h1, h⟩ := bind_some h
    obtain ⟨p2, h2, h⟩ := bind_some h
    obtain ⟨h3, h4⟩ := ite_some h
    simp only [Bool.and_eq_true] at h3
    cases t with
    | true => exact ⟨_, op_notInDT G.hu, p1, p2, pd_ok r h1, .tup hq (pds_ok rs h2), h3.1, h3.2, by rw [Option.some.inj h4]; exact q⟩
    | false => exact ⟨_, op_notInD G.hu, p1, p2, pd_ok r h1, .lst hq (pds_ok rs h2), h3.1, h3.2, by rw [Option.some.inj h4]; exact q⟩
/-! ### dicts -/
theorem key_ok {K : PySem.W.Frag} {m : List Addr} {H : Hp} {d : D} {x : V} {k : Key} (r : RV K H m d x) (h : keyOf d = some k) : x = kV k := by
  cases d <;> simp only [keyOf] at h <;> first
    | (cases h; done)
    | (cases h
       simp only [RV] at r
       exact r)
theorem getK_ok {K : PySem.W.Frag} {m : List Addr} {H : Hp} (k : Key) : ∀ {ks : List (Key × D)} {vs : List (Key × V)}, RKV K H m ks vs →
    (∀ d, getK ks k = some d → ∃ v, valV vs k = some v ∧ RV K H m d v) ∧ (getK ks k = none → valV vs k = none)
  | [], [], _ => ⟨fun d h => by simp [getK] at h, fun _ => rfl⟩
  | p :: ks, w :: vs, r => by
    simp only [RKV] at r
    obtain ⟨h1, h2⟩ := getK_ok k r.2.2
    by_cases e : p.1 = k
    · have e' : w.1 = k := r.1.symm.trans e
      have g : getK (p :: ks) k = some p.2 := by simp [getK, List.find?_cons, e]
      rw [g, valV_pos e']
      exact ⟨fun d h => ⟨w.2, rfl, by rw [← Option.some.inj h]; exact r.2.1⟩, fun h => by cases h⟩
    · have e' : ¬ w.1 = k := fun z => e (r.1.trans z)
      have g : getK (p :: ks) k = getK ks k := by simp [getK, List.find?_cons, e]
      rw [g, valV_neg e']
      exact ⟨h1, h2⟩
  | [], _ :: _, r => by simp only [RKV] at r
  | _ :: _, [], r => by simp only [RKV] at r
theorem RKV.length {K : PySem.W.Frag} {m : List Addr} {H : Hp} : ∀ {ks : List (Key × D)} {vs : List (Key × V)}, RKV K H m ks vs → ks.length = vs.length
  | [], [], _ => rfl
  | p :: ks, w :: vs, r => by simp only [RKV] at r; simp only [List.length_cons, RKV.length r.2.2]
  | [], _ :: _, r => by simp only [RKV] at r
  | _ :: _, [], r => by simp only [RKV] at r
theorem RKV.any {K : PySem.W.Frag} {m : List Addr} {H : Hp} (k : Key) : ∀ {ks : List (Key × D)} {vs : List (Key × V)}, RKV K H m ks vs → (ks.any fun kv => decide (kv.1 = k)) = (vs.any fun kv => decide (kv.1 = k))
  | [], [], _ => rfl
  | p :: ks, w :: vs, r => by
    simp only [RKV] at r
    rw [List.any_cons, List.any_cons, RKV.any k r.2.2, r.1]
  | [], _ :: _, r => by simp only [RKV] at r
  | _ :: _, [], r => by simp only [RKV] at r
theorem RKV.repl {K : PySem.W.Frag} {m : List Addr} {H : Hp} (k : Key) {d : D} {v : V} (rv : RV K H m d v) : ∀ {ks : List (Key × D)} {vs : List (Key × V)}, RKV K H m ks vs →
    RKV K H m (ks.map fun kv => if kv.1 = k then (kv.1, d) else kv) (vs.map fun kv => if kv.1 = k then (kv.1, v) else kv)
  | [], [], _ => by simp [RKV]
  | p :: ks, w :: vs, r => by
    simp only [RKV] at r
    simp only [List.map_cons]
    simp only [RKV]
    refine ⟨?_, ?_, RKV.repl k rv r.2.2⟩
    · by_cases e : p.1 = k
      · rw [if_pos e, if_pos (r.1.symm.trans e)]; exact r.1
      · rw [if_neg e, if_neg (fun z => e (r.1.trans z))]; exact r.1
    · by_cases e : p.1 = k
      · rw [if_pos e, if_pos (r.1.symm.trans e)]; exact rv
      · rw [if_neg e, if_neg (fun z => e (r.1.trans z))]; exact r.2.1
  | [], _ :: _, r => by simp only [RKV] at r
  | _ :: _, [], r => by simp only [RKV] at r
theorem RKV.append {K : PySem.W.Frag} {m : List Addr} {H : Hp} {k : Key} {d : D} {v : V} (rv : RV K H m d v) : ∀ {ks : List (Key × D)} {vs : List (Key × V)}, RKV K H m ks vs → RKV K H m (ks ++ [(k, d)]) (vs ++ [(k, v)])
  | [], [], _ => by simp [RKV, rv]
  | p :: ks, w :: vs, r => by
    simp only [RKV] at r
    simp only [List.cons_append]
    simp only [RKV]
    exact ⟨r.1, r.2.1, RKV.append rv r.2.2⟩
  | [], _ :: _, r => by simp only [RKV] at r
  | _ :: _, [], r => by simp only [RKV] at r
theorem RKV.put {K : PySem.W.Frag} {m : List Addr} {H : Hp} {k : Key} {d : D} {v : V} {ks : List (Key × D)} {vs : List (Key × V)} (r : RKV K H m ks vs) (rv : RV K H m d v) : RKV K H m (putKD ks k d) (putK vs k v) := by
  unfold putKD putK
  rw [← r.any k]
  by_cases e : (ks.any fun kv => decide (kv.1 = k)) = true
  · rw [if_pos e, if_pos e]
    exact r.repl k rv
  · rw [if_neg e, if_neg e]
    exact r.append rv

/-! ### comparisons -/
theorem cmp_ok {op : CmpOp} {m : List Addr} {H : Hp} {S : Sto} {d e : D} {x y : V} {b : Bool} {Q : VK} (G : Gd C c X) (sh : SH X.K m H S) (r1 : RV X.K H m d x) (r2 : RV X.K H m e y) (h : cmpD op d e S = some b) (q : Q (.bl b) H)
    (nd : op = .In ∨ op = .NotIn → ∀ n kvs, e = .ptr n → S[n]? ≠ some (.dct kvs)) : ∃ r, OpR X (compareOp op) r ∧ r x y H Q := by
  have seq : ∀ {b'}, (op = .In ∨ op = .NotIn) → inD d e S = some b' → ∃ (t : Bool) (ds : List D) (a : Addr) (xs : List V), y = .ref a ∧ RVs X.K H m ds xs ∧ (if t = true then SqT X.K H a xs else SqL X.K H a xs) ∧ inF t d ds = some b' := by
    intro b' ho h
    have nd := nd ho
    clear q ho
    match e, r2, h, nd with
    | .tup ds, r2, h, nd =>
      simp only [inD] at h
      simp only [RV] at r2
      obtain ⟨a, xs, rfl, q1, q2⟩ := r2
      exact ⟨true, ds, a, xs, rfl, q2, q1, h⟩
    | .ptr n, r2, h, nd =>
      simp only [inD] at h
      simp only [RV] at r2
      obtain ⟨a, ea, rfl⟩ := r2
      split at h
      · rename_i ds s1
        obtain ⟨vs, w1, w2⟩ := sh.obj n a _ ea s1
        exact ⟨false, ds, a, vs, rfl, w2, .inl (.inl w1), h⟩
      · rename_i ds s1
        obtain ⟨vs, w1, w2⟩ := sh.obj n a _ ea s1
        exact ⟨false, ds, a, vs, rfl, w2, w1.sq, h⟩
      · rename_i kvs s1
        exact absurd s1 (nd n kvs rfl)
      · cases h
    | .non, _, h, _ => simp only [inD] at h; cases h
    | .bl _, _, h, _ => simp only [inD] at h; cases h
    | .int _, _, h, _ => simp only [inD] at h; cases h
    | .str _, _, h, _ => simp only [inD] at h; cases h
  cases op with
  | Eq => exact eq_ok G r1 r2 h q
  | NotEq =>
    obtain ⟨b', h1, rfl⟩ := map_some (show (eqA d e).map (!·) = some b from h)
    exact ne_ok G r1 r2 h1 q
  | Lt =>
    cases d <;> cases e <;> simp only [cmpD] at h <;> try (cases h; done)
    simp only [RV] at r1 r2
    subst r1 r2
    cases h
    exact ⟨_, op_lt, _, _, rfl, rfl, q⟩
  | LtE =>
    cases d <;> cases e <;> simp only [cmpD] at h <;> try (cases h; done)
    simp only [RV] at r1 r2
    subst r1 r2
    cases h
    exact ⟨_, op_le, _, _, rfl, rfl, q⟩
  | Gt =>
    cases d <;> cases e <;> simp only [cmpD] at h <;> try (cases h; done)
    simp only [RV] at r1 r2
    subst r1 r2
    cases h
    exact ⟨_, op_gt, _, _, rfl, rfl, q⟩
  | GtE =>
    cases d <;> cases e <;> simp only [cmpD] at h <;> try (cases h; done)
    simp only [RV] at r1 r2
    subst r1 r2
    cases h
    exact ⟨_, op_ge, _, _, rfl, rfl, q⟩
  | Is =>
    cases e <;> simp only [cmpD] at h <;> try (cases d <;> cases h; done)
    simp only [RV] at r2
    subst r2
    refine ⟨_, op_isN, rfl, ?_⟩
    cases d <;> simp only [Option.some.injEq] at h <;> subst h <;> simp only [RV] at r1
    · subst r1; exact q
    · subst r1; exact q
    · subst r1; exact q
    · subst r1; exact q
    · obtain ⟨a, xs, rfl, _⟩ := r1; exact q
    · obtain ⟨a, _, rfl⟩ := r1; exact q
  | IsNot =>
    cases e <;> simp only [cmpD] at h <;> try (cases d <;> cases h; done)
    simp only [RV] at r2
    subst r2
    refine ⟨_, op_notN, rfl, ?_⟩
    cases d <;> simp only [Option.some.injEq] at h <;> subst h <;> simp only [RV] at r1
    · subst r1; exact q
    · subst r1; exact q
    · subst r1; exact q
    · subst r1; exact q
    · obtain ⟨a, xs, rfl, _⟩ := r1; exact q
    · obtain ⟨a, _, rfl⟩ := r1; exact q
  | In =>
    obtain ⟨t, ds, a, xs, rfl, rs, hq, h'⟩ := seq (.inl rfl) (show inD d e S = some b from h)
    exact in_ok G r1 rs hq h' q
  | NotIn =>
    obtain ⟨b', h1, rfl⟩ := map_some (show (inD d e S).map (!·) = some b from h)
    obtain ⟨t, ds, a, xs, rfl, rs, hq, h'⟩ := seq (.inr rfl) h1
    exact notin_ok G r1 rs hq h' q
theorem noMark {b : Expr} (h : plainE b = true) (op : CmpOp) : behindInMarks op b = false := by cases b <;> first | rfl | cases h
theorem star_cmp {op : CmpOp} {a b : Expr} {pos : Pos} {ca cb : IE} (G : Gd C c X) (hp : plainE b = true) (ha : PE X a (rE X.K C ca)) (hb : PE X b (rE X.K C cb)) {σ : L2.St} {H : Hp} {Q : VK} (h : rE X.K C (.cmp op ca cb) σ H Q) :
    ∃ t', (PE X (.Compare a [op] [b] pos) t' ∧ PT X (.Compare a [op] [b] pos) (tB t')) ∧ t' σ H Q := by
  obtain ⟨m, ρ, S, d, S', se, sh, he, q⟩ := h
  simp only [ev] at he
  obtain ⟨⟨x, S1⟩, e1, he⟩ := bind_some he
  obtain ⟨⟨y, S2⟩, e2, he⟩ := bind_some he
  obtain ⟨k, e3, e4⟩ := map_some he
  cases e4
  have hu : X.A.units + 1 < cLine := by have := G.hu; omega
  by_cases hd : ∃ n kvs, y = .ptr n ∧ S2[n]? = some (.dct kvs)
  · obtain ⟨n, kvs, rfl, hn⟩ := hd
    have core : ∀ {b' : Bool}, inD x (.ptr n) S2 = some b' → ∃ kk, keyOf x = some kk ∧ (getK kvs kk).isSome = b' := fun {b'} hh => by
      simp only [inD, hn] at hh
      exact map_some hh
    have run : ∀ (b' : Bool), inD x (.ptr n) S2 = some b' → ∀ (R : Bool → Hp → Prop), (∀ m2 H2, Ext X.K H H2 m m2 → SH X.K m2 H2 S2 → R b' H2) →
        rE X.K C ca σ H fun y H1 => rE X.K C cb σ H1 fun x H2 => ∃ a o, x = .ref a ∧ DGet H2 a y o ∧ R o.isSome H2 := fun b' hb' R hR => by
      obtain ⟨kk, hk, hg⟩ := core hb'
      refine ⟨m, ρ, S, x, S1, se, sh, e1, fun m1 H1 vx x1 sh1 r1 => ⟨m1, ρ, S1, .ptr n, S2, se.mono x1, sh1, e2, fun m2 H2 vy x2 sh2 r2 => ?_⟩⟩
      simp only [RV] at r2
      obtain ⟨a, ea, rfl⟩ := r2
      obtain ⟨ks, w1, w2⟩ := sh2.obj n a _ ea hn
      have ek := key_ok (r1.mono x2) hk
      subst ek
      refine ⟨a, _, rfl, DGet.k w1, ?_⟩
      have gk := getK_ok kk w2
      have : (valV ks kk).isSome = b' := by
        rw [← hg]
        cases hgk : getK kvs kk with
        | none => rw [gk.2 hgk] <;> rfl
        | some d =>
          obtain ⟨v, hv, _⟩ := gk.1 d hgk
          rw [hv] <;> rfl
      rw [this]
      exact hR m2 H2 (x1.trans x2) sh2
    cases op with
    | In => exact ⟨_, ⟨pe_cmp (pc_din hu ha hb) (noMark hp _), pt_cmp (pc_din hu ha hb) (noMark hp _)⟩, run k e3 (fun k H2 => Q (.bl k) H2) fun m2 H2 x2 sh2 => q m2 H2 _ x2 sh2 (by simp only [RV])⟩
    | NotIn =>
      obtain ⟨b', h1, h2⟩ := map_some (show (inD x (.ptr n) S2).map (!·) = some k from e3)
      subst h2
      exact ⟨_, ⟨pe_cmp (pc_dnotin hu ha hb) (noMark hp _), pt_cmp (pc_dnotin hu ha hb) (noMark hp _)⟩, run b' h1 (fun k H2 => Q (.bl (!k)) H2) fun m2 H2 x2 sh2 => q m2 H2 _ x2 sh2 (by simp only [RV])⟩
    | Eq => cases x <;> simp [cmpD, eqA, eqS, pd] at e3
    | NotEq => cases x <;> simp [cmpD, eqA, eqS, pd] at e3
    | Lt => cases x <;> simp only [cmpD] at e3 <;> cases e3
    | LtE => cases x <;> simp only [cmpD] at e3 <;> cases e3
    | Gt => cases x <;> simp only [cmpD] at e3 <;> cases e3
    | GtE => cases x <;> simp only [cmpD] at e3 <;> cases e3
    | Is => cases x <;> simp only [cmpD] at e3 <;> cases e3
    | IsNot => cases x <;> simp only [cmpD] at e3 <;> cases e3
  · have st : OpR X (compareOp op) (fun x y H Q => ∃ r, OpR X (compareOp op) r ∧ r x y H Q) := fun pins s σ H x y v u Q I rx ry ⟨r, h1, h2⟩ => h1 pins s σ H x y v u Q I rx ry h2
    refine ⟨_, ⟨pe_cmpR st ha hb (noMark hp _), pt_cmpR st ha hb (noMark hp _)⟩, ?_⟩
    refine ⟨m, ρ, S, x, S1, se, sh, e1, fun m1 H1 vx x1 sh1 r1 => ⟨m1, ρ, S1, y, S2, se.mono x1, sh1, e2, fun m2 H2 vy x2 sh2 r2 => ?_⟩⟩
    exact cmp_ok G sh2 (r1.mono x2) r2 e3 (q m2 H2 _ (x1.trans x2) sh2 (by simp only [RV])) fun _ n kvs e1 e2 => hd ⟨n, kvs, e1, e2⟩
theorem ok_cmp {op : CmpOp} {a b : Expr} {pos : Pos} {ca cb : IE} (G : Gd C c X) (hp : plainE b = true) (ha : PE X a (rE X.K C ca)) (hb : PE X b (rE X.K C cb)) : PE X (.Compare a [op] [b] pos) (rE X.K C (.cmp op ca cb)) :=
  PE.star fun σ H Q h => let ⟨t, g1, g2⟩ := star_cmp G hp ha hb h; ⟨t, g1.1, g2⟩
theorem ord_of {op : CmpOp} (h : ordOp op = true) : ¬ (op = .In ∨ op = .NotIn) := by cases op <;> simp_all [ordOp]
theorem star_chn {op op' : CmpOp} {a b d : Expr} {pos : Pos} {ca cb cd : IE} (G : Gd C c X) (h1 : ordOp op = true) (h2 : ordOp op' = true) (ha : PE X a (rE X.K C ca)) (hb : PE X b (rE X.K C cb)) (hd : PE X d (rE X.K C cd)) {σ : L2.St} {H : Hp} {Q : VK} (h : rE X.K C (.chn op op' ca cb cd) σ H Q) :
    ∃ t', (PE X (.Compare a [op, op'] [b, d] pos) t' ∧ PT X (.Compare a [op, op'] [b, d] pos) (tB t')) ∧ t' σ H Q := by
  obtain ⟨m, ρ, S, z, S', se, sh, he, q⟩ := h
  simp only [ev] at he
  obtain ⟨⟨x, S1⟩, e1, he⟩ := bind_some he
  obtain ⟨⟨y, S2⟩, e2, he⟩ := bind_some he
  obtain ⟨k, e3, he⟩ := bind_some he
  have st : ∀ op, OpR X (compareOp op) (fun x y H Q => ∃ r, OpR X (compareOp op) r ∧ r x y H Q) := fun op pins s σ H x y v u Q I rx ry ⟨r, h1, h2⟩ => h1 pins s σ H x y v u Q I rx ry h2
  have hm : lastMarks [op, op'] [b, d] = false := by show behindInMarks op' d = false; exact nobehind d (fun z => ord_of h2 (.inl z)) (fun z => ord_of h2 (.inr z))
  refine ⟨_, ⟨pe_chain (st op) (st op') ha hb hd hm, pt_chain (st op) (st op') ha hb hd hm⟩, ?_⟩
  refine ⟨m, ρ, S, x, S1, se, sh, e1, fun m1 H1 vx x1 sh1 r1 => ⟨m1, ρ, S1, y, S2, se.mono x1, sh1, e2, fun m2 H2 vy x2 sh2 r2 => ?_⟩⟩
  refine cmp_ok G sh2 (r1.mono x2) r2 e3 ⟨k, rfl, ?_⟩ fun z => absurd z (ord_of h1)
  cases k with
  | true =>
    rw [if_pos rfl] at he ⊢
    obtain ⟨⟨w, S3⟩, e4, he⟩ := bind_some he
    obtain ⟨k2, e5, e6⟩ := map_some he
    cases e6
    refine ⟨m2, ρ, S2, w, S3, (se.mono x1).mono x2, sh2, e4, fun m3 H3 vw x3 sh3 r3 => ?_⟩
    exact cmp_ok G sh3 (r2.mono x3) r3 e5 (q m3 H3 _ ((x1.trans x2).trans x3) sh3 (by simp only [RV])) fun z => absurd z (ord_of h2)
  | false =>
    rw [if_neg Bool.false_ne_true] at he ⊢
    cases he
    exact q m2 H2 _ (x1.trans x2) sh2 (by simp only [RV])
theorem ok_chn {op op' : CmpOp} {a b d : Expr} {pos : Pos} {ca cb cd : IE} (G : Gd C c X) (h1 : ordOp op = true) (h2 : ordOp op' = true) (ha : PE X a (rE X.K C ca)) (hb : PE X b (rE X.K C cb)) (hd : PE X d (rE X.K C cd)) :
    PE X (.Compare a [op, op'] [b, d] pos) (rE X.K C (.chn op op' ca cb cd)) :=
  PE.star fun σ H Q h => let ⟨t, g1, g2⟩ := star_chn G h1 h2 ha hb hd h; ⟨t, g1.1, g2⟩
/-- a comparison as a test -/
theorem ev_cmp_bl {op : CmpOp} {ca cb : IE} {ρ : Env} {S S' : Sto} {d : D} (h : ev C (.cmp op ca cb) ρ S = some (d, S')) : ∃ k, d = .bl k := by
  simp only [ev] at h
  obtain ⟨_, _, h⟩ := bind_some h
  obtain ⟨_, _, h⟩ := bind_some h
  obtain ⟨k, _, h⟩ := map_some h
  cases h
  exact ⟨k, rfl⟩
theorem ev_chn_bl {op op' : CmpOp} {ca cb cd : IE} {ρ : Env} {S S' : Sto} {d : D} (h : ev C (.chn op op' ca cb cd) ρ S = some (d, S')) : ∃ k, d = .bl k := by
  simp only [ev] at h
  obtain ⟨_, _, h⟩ := bind_some h
  obtain ⟨_, _, h⟩ := bind_some h
  obtain ⟨k, _, h⟩ := bind_some h
  by_cases g : k = true
  · rw [if_pos g] at h
    obtain ⟨_, _, h⟩ := bind_some h
    obtain ⟨k, _, h⟩ := map_some h
    cases h
    exact ⟨k, rfl⟩
  · rw [if_neg g] at h
    cases h
    exact ⟨_, rfl⟩
theorem val_bl {e : Expr} {ce : IE} (hb : ∀ ρ S d S', ev C ce ρ S = some (d, S') → ∃ k, d = .bl k) (st : ∀ {σ : L2.St} {H : Hp} {Q : VK}, rE X.K C ce σ H Q → ∃ t', (PE X e t' ∧ PT X e (tB t')) ∧ t' σ H Q) : PT X e (rC X.K C (.val ce)) := by
  refine PT.star fun σ H Q h => ?_
  obtain ⟨m, ρ, S, d, S', se, sh, he, q⟩ := h
  simp only [tst] at he
  obtain ⟨⟨x, S1⟩, e1, he⟩ := bind_some he
  obtain ⟨k, e2, e3⟩ := map_some he
  cases e3
  obtain ⟨k', rfl⟩ := hb _ _ _ _ e1
  simp only [truD, Option.some.injEq] at e2
  subst e2
  have h2 : rE X.K C ce σ H (fun v H' => ∃ k, v = .bl k ∧ Q k H') := ⟨m, ρ, S, _, _, se, sh, e1, fun m' H' v x1 sh1 r1 => by
    simp only [RV] at r1
    exact ⟨_, r1, q m' H' x1 sh1⟩⟩
  obtain ⟨t, g1, g2⟩ := st h2
  exact ⟨_, g1.2, g2⟩
theorem ok_cmpT {op : CmpOp} {a b : Expr} {pos : Pos} {ca cb : IE} (G : Gd C c X) (hp : plainE b = true) (ha : PE X a (rE X.K C ca)) (hb : PE X b (rE X.K C cb)) : PT X (.Compare a [op] [b] pos) (rC X.K C (.val (.cmp op ca cb))) :=
  val_bl (fun _ _ _ _ h => ev_cmp_bl h) fun h => star_cmp G hp ha hb h
theorem ok_chnT {op op' : CmpOp} {a b d : Expr} {pos : Pos} {ca cb cd : IE} (G : Gd C c X) (h1 : ordOp op = true) (h2 : ordOp op' = true) (ha : PE X a (rE X.K C ca)) (hb : PE X b (rE X.K C cb)) (hd : PE X d (rE X.K C cd)) :
    PT X (.Compare a [op, op'] [b, d] pos) (rC X.K C (.val (.chn op op' ca cb cd))) :=
  val_bl (fun _ _ _ _ h => ev_chn_bl h) fun h => star_chn G h1 h2 ha hb hd h
theorem ok_val {a : Expr} {ca : IE} (ha : PE X a (rE X.K C ca)) (hp : plainT a = true) : PT X a (rC X.K C (.val ca)) := by
  refine PT.star fun σ H Q h => ?_
  obtain ⟨m, ρ, S, d, S', se, sh, he, q⟩ := h
  simp only [tst] at he
  obtain ⟨⟨x, S1⟩, e1, he⟩ := bind_some he
  obtain ⟨k, e2, e3⟩ := map_some he
  cases e3
  refine ⟨_, pt_truth ha (fun _ => by cases a <;> first | rfl | (rename_i op _ _; cases op <;> first | rfl | cases hp) | cases hp), m, ρ, S, x, S1, se, sh, e1, fun m1 H1 vx x1 sh1 r1 => ⟨_, tru_of sh1 r1 e2, q m1 H1 x1 sh1⟩⟩
theorem ok_notT {a : Expr} {pos : Pos} {ca : IC} (ha : PT X a (rC X.K C ca)) : PT X (.UnaryOp .Not a pos) (rC X.K C (.not ca)) := by
  refine PT.star fun σ H Q h => ?_
  obtain ⟨m, ρ, S, d, S', se, sh, he, q⟩ := h
  simp only [tst] at he
  obtain ⟨⟨k, S1⟩, e1, e2⟩ := map_some he
  cases e2
  exact ⟨_, pt_not ha, m, ρ, S, k, S1, se, sh, e1, fun m1 H1 x1 sh1 => q m1 H1 x1 sh1⟩
theorem ok_andT {a b : Expr} {rest : List Expr} {pos : Pos} {ca cb : IC} (ha : PT X a (rC X.K C ca)) (hb : PW X (.BoolOp .And (b :: rest) pos) (rC X.K C cb)) : PW X (.BoolOp .And (a :: b :: rest) pos) (rC X.K C (.and ca cb)) := by
  refine PW.star fun σ H Q h => ?_
  obtain ⟨m, ρ, S, d, S', se, sh, he, q⟩ := h
  simp only [tst] at he
  obtain ⟨⟨k, S1⟩, e1, he⟩ := bind_some he
  refine ⟨_, pw_and ha hb, m, ρ, S, k, S1, se, sh, e1, fun m1 H1 x1 sh1 => ?_⟩
  cases k with
  | true =>
    rw [if_pos rfl] at he ⊢
    exact ⟨m1, ρ, S1, d, S', se.mono x1, sh1, he, fun m2 H2 x2 sh2 => q m2 H2 (x1.trans x2) sh2⟩
  | false =>
    rw [if_neg Bool.false_ne_true] at he ⊢
    cases he
    exact q m1 H1 x1 sh1
theorem ok_orT {a b : Expr} {rest : List Expr} {pos : Pos} {ca cb : IC} (ha : PT X a (rC X.K C ca)) (hb : PW X (.BoolOp .Or (b :: rest) pos) (rC X.K C cb)) : PW X (.BoolOp .Or (a :: b :: rest) pos) (rC X.K C (.or ca cb)) := by
  refine PW.star fun σ H Q h => ?_
  obtain ⟨m, ρ, S, d, S', se, sh, he, q⟩ := h
  simp only [tst] at he
  obtain ⟨⟨k, S1⟩, e1, he⟩ := bind_some he
  refine ⟨_, pw_or ha hb, m, ρ, S, k, S1, se, sh, e1, fun m1 H1 x1 sh1 => ?_⟩
  cases k with
  | true =>
    rw [if_pos rfl] at he ⊢
    cases he
    exact q m1 H1 x1 sh1
  | false =>
    rw [if_neg Bool.false_ne_true] at he ⊢
    exact ⟨m1, ρ, S1, d, S', se.mono x1, sh1, he, fun m2 H2 x2 sh2 => q m2 H2 (x1.trans x2) sh2⟩
end
end Mi

namespace Mi
open PySem L2
section
variable {X : Cx} {C : CallT} {c : Ct}
theorem noStar {e : Expr} {es : List Expr} {env : PySem.Env} (h : plainE e = true) : starEach (e :: es) env = (false, eval e env) :: starEach es env := by cases e <;> first | rfl | cases h
theorem plainIx {b : Expr} (h : plainE b = true) : PlainIx b := by cases b <;> first | exact fun _ _ => rfl | cases h
theorem ptr_a {K : PySem.W.Frag} {H : Hp} {m : List Addr} {n : Nat} {v : V} (r : RV K H m (.ptr n) v) : ∃ a, m[n]? = some a ∧ v = .ref a := by simpa only [RV] using r
theorem tup_a {K : PySem.W.Frag} {H : Hp} {m : List Addr} {ds : List D} {v : V} (r : RV K H m (.tup ds) v) : ∃ a xs, v = .ref a ∧ SqT K H a xs ∧ RVs K H m ds xs := by simpa only [RV] using r
theorem int_a {K : PySem.W.Frag} {H : Hp} {m : List Addr} {i : Int} {v : V} (r : RV K H m (.int i) v) : v = .int i := by simpa only [RV] using r
theorem str_a {K : PySem.W.Frag} {H : Hp} {m : List Addr} {i : Str} {v : V} (r : RV K H m (.str i) v) : v = .str i := by simpa only [RV] using r
theorem bl_a {K : PySem.W.Frag} {H : Hp} {m : List Addr} {i : Bool} {v : V} (r : RV K H m (.bl i) v) : v = .bl i := by simpa only [RV] using r
theorem non_a {K : PySem.W.Frag} {H : Hp} {m : List Addr} {v : V} (r : RV K H m .non v) : v = .non := by simpa only [RV] using r
theorem rv_int {K : PySem.W.Frag} {H : Hp} {m : List Addr} {i : Int} : RV K H m (.int i) (.int i) := by simp only [RV]
theorem rv_str {K : PySem.W.Frag} {H : Hp} {m : List Addr} {i : Str} : RV K H m (.str i) (.str i) := by simp only [RV]
theorem rv_bl {K : PySem.W.Frag} {H : Hp} {m : List Addr} {i : Bool} : RV K H m (.bl i) (.bl i) := by simp only [RV]
theorem rv_non {K : PySem.W.Frag} {H : Hp} {m : List Addr} : RV K H m .non .non := by simp only [RV]
theorem rv_tup {K : PySem.W.Frag} {H : Hp} {m : List Addr} {ds : List D} {a : Addr} {xs : List V} (h : SqT K H a xs) (r : RVs K H m ds xs) : RV K H m (.tup ds) (.ref a) := by simp only [RV]; exact ⟨a, xs, rfl, h, r⟩

/-! ### a[i] -/
theorem ok_idx {a b : Expr} {pos : Pos} {ca cb : IE} (G : Gd C c X) (hp : plainE b = true) (ha : PE X a (rE X.K C ca)) (hb : PE X b (rE X.K C cb)) : PE X (.Subscript a b pos) (rE X.K C (.idx ca cb)) := by
  refine PE.star fun σ H Q h => ?_
  obtain ⟨m, ρ, S, d, S', se, sh, he, q⟩ := h
  simp only [ev] at he
  obtain ⟨⟨x, S1⟩, e1, he1⟩ := bind_some he
  obtain ⟨⟨y, S2⟩, e2, he2⟩ := bind_some he1
  obtain ⟨d', e3, e4⟩ := map_some he2
  clear he he1 he2
  cases e4
  have hu : X.A.units + 1 < cLine := by have := G.hu; omega
  have run : ∀ (R : V → V → Hp → Prop), (∀ m2 H2 vx vy, Ext X.K H H2 m m2 → SH X.K m2 H2 S2 → RV X.K H2 m2 x vx → RV X.K H2 m2 y vy → R vx vy H2) → rE X.K C ca σ H fun x H1 => rE X.K C cb σ H1 fun y H2 => R x y H2 := fun R hR =>
    ⟨m, ρ, S, x, S1, se, sh, e1, fun m1 H1 vx x1 sh1 r1 => ⟨m1, ρ, S1, y, S2, se.mono x1, sh1, e2, fun m2 H2 vy x2 sh2 r2 => hR m2 H2 vx vy (x1.trans x2) sh2 (r1.mono x2) r2⟩⟩
  have viaList : ∀ {n : Nat} {i : Int}, x = .ptr n → y = .int i → (∃ ds, lstOf S2 n = some ds ∧ atI ds i = some d) → ∃ t', PE X (.Subscript a b pos) t' ∧ t' σ H Q := fun {n i} ex ey ⟨ds, h1, h2⟩ => by
    subst ex ey
    refine ⟨_, pe_ix ix_list ha hb (plainIx hp), run _ fun m2 H2 vx vy x2 sh2 r1 r2 => ?_⟩
    obtain ⟨ad, ea, rfl⟩ := ptr_a r1
    obtain rfl := int_a r2
    obtain ⟨xs, w1, w2⟩ := lst_of sh2 ea h1
    obtain ⟨v, w3, w4⟩ := w2.atI h2
    exact ⟨ad, xs, i, v, rfl, rfl, w1, w3, q m2 H2 v x2 sh2 w4⟩
  have viaDict : ∀ {n : Nat} {k : Key} {kvs : List (Key × D)}, x = .ptr n → keyOf y = some k → S2[n]? = some (.dct kvs) → getK kvs k = some d → ∃ t', PE X (.Subscript a b pos) t' ∧ t' σ H Q := fun {n k kvs} ex ey h1 h2 => by
    subst ex
    refine ⟨_, pe_dget hu ha hb (plainIx hp), run _ fun m2 H2 vx vy x2 sh2 r1 r2 => ?_⟩
    obtain ⟨ad, ea, rfl⟩ := ptr_a r1
    have ek := key_ok r2 ey
    subst ek
    obtain ⟨ks, w1, w2⟩ := sh2.obj n ad _ ea h1
    obtain ⟨v, w3, w4⟩ := (getK_ok k w2).1 d h2
    exact ⟨ad, v, rfl, by rw [← w3]; exact DGet.k w1, q m2 H2 v x2 sh2 w4⟩
  cases x with
  | tup ds =>
    cases y <;> simp only [idxD] at e3 <;> try (cases e3; done)
    rename_i i
    refine ⟨_, pe_ix ix_tup ha hb (plainIx hp), run _ fun m2 H2 vx vy x2 sh2 r1 r2 => ?_⟩
    obtain ⟨ad, xs, rfl, w1, w2⟩ := tup_a r1
    obtain rfl := int_a r2
    obtain ⟨v, w3, w4⟩ := w2.atI e3
    exact ⟨ad, xs, i, v, rfl, rfl, w1, w3, q m2 H2 v x2 sh2 w4⟩
  | str z =>
    cases y <;> simp only [idxD] at e3 <;> try (cases e3; done)
    rename_i i
    obtain ⟨h1, h2⟩ := ite_some e3
    obtain ⟨k, h3, rfl⟩ := map_some h2
    refine ⟨_, pe_ix ix_str ha hb (plainIx hp), run _ fun m2 H2 vx vy x2 sh2 r1 r2 => ?_⟩
    obtain rfl := str_a r1
    obtain rfl := int_a r2
    exact ⟨z, i, k, rfl, rfl, of_decide_eq_true h1, h3, q m2 H2 _ x2 sh2 rv_str⟩
  | ptr n =>
    cases y <;> simp only [idxD] at e3 <;> try (cases e3; done)
    · rename_i i
      split at e3
      · rename_i xs s1
        exact viaList rfl rfl ⟨xs, by unfold lstOf; rw [s1], e3⟩
      · rename_i xs s1
        exact viaList rfl rfl ⟨xs, by unfold lstOf; rw [s1], e3⟩
      · rename_i kvs s1
        exact viaDict (k := .inl i) rfl rfl s1 e3
      · cases e3
    · rename_i i
      split at e3
      · rename_i kvs s1
        exact viaDict (k := .inr i) rfl rfl s1 e3
      · cases e3
  | _ => cases y <;> simp only [idxD] at e3 <;> cases e3
theorem ok_P {o : Option Expr} {cp : IP} (h : (o = none ∧ cp = .no) ∨ ∃ e ce, o = some e ∧ cp = .yes ce ∧ PE X e (rE X.K C ce)) : PO X o (rP X.K C cp) := by
  rcases h with ⟨rfl, rfl⟩ | ⟨e, ce, rfl, rfl, he⟩
  · refine PO.star fun σ H Q hq => ⟨_, po_none, ?_⟩
    obtain ⟨m, ρ, S, d, S', se, sh, h, q⟩ := hq
    simp only [evp, Option.some.injEq, Prod.mk.injEq] at h
    obtain ⟨rfl, rfl⟩ := h
    exact q m H Ext.refl sh
  · refine PO.star fun σ H Q hq => ⟨_, po_some he, ?_⟩
    obtain ⟨m, ρ, S, d, S', se, sh, h, q⟩ := hq
    simp only [evp] at h
    obtain ⟨⟨x, S1⟩, e1, h⟩ := bind_some h
    cases x with
    | int i =>
      simp only [Option.some.injEq, Prod.mk.injEq] at h
      obtain ⟨rfl, rfl⟩ := h
      refine ⟨m, ρ, S, .int i, S1, se, sh, e1, fun m1 H1 v x1 sh1 r1 => ?_⟩
      obtain rfl := int_a r1
      exact ⟨i, rfl, q m1 H1 x1 sh1⟩
    | _ => cases h
theorem cut_all {K : PySem.W.Frag} {H : Hp} {m : List Addr} {ds : List D} {xs : List V} {lo hi : Option Int} (h1 : HT.sIx xs.length 0 lo = 0) (h2 : HT.sIx xs.length xs.length hi = xs.length) (r : RVs K H m ds xs) : cutD ds lo hi = ds := by
  unfold cutD
  rw [r.length, h1, h2, List.drop_zero, Nat.sub_zero, ← r.length, List.take_length]
theorem ok_slc {a : Expr} {lo hi : Option Expr} {pos p2 : Pos} {ca : IE} {cl ch : IP} (ha : PE X a (rE X.K C ca)) (hl : PO X lo (rP X.K C cl)) (hh : PO X hi (rP X.K C ch)) : PE X (.Subscript a (.Slice lo hi none p2) pos) (rE X.K C (.slc ca cl ch)) := by
  refine PE.star fun σ H Q h => ?_
  obtain ⟨m, ρ, S, d, S', se, sh, he, q⟩ := h
  simp only [ev] at he
  obtain ⟨⟨x, S1⟩, e1, he⟩ := bind_some he
  obtain ⟨⟨l, S2⟩, e2, he⟩ := bind_some he
  obtain ⟨⟨u, S3⟩, e3, he⟩ := bind_some he
  have run : ∀ (R : V → Option Int → Option Int → Hp → Prop), (∀ m2 H2 vx, Ext X.K H H2 m m2 → SH X.K m2 H2 S3 → RV X.K H2 m2 x vx → R vx l u H2) → rE X.K C ca σ H fun x H1 => rP X.K C cl σ H1 fun l H2 => rP X.K C ch σ H2 fun u H3 => R x l u H3 := fun R hR =>
    ⟨m, ρ, S, x, S1, se, sh, e1, fun m1 H1 vx x1 sh1 r1 => ⟨m1, ρ, S1, l, S2, se.mono x1, sh1, e2, fun m2 H2 x2 sh2 => ⟨m2, ρ, S2, u, S3, (se.mono x1).mono x2, sh2, e3, fun m3 H3 x3 sh3 => hR m3 H3 vx ((x1.trans x2).trans x3) sh3 ((r1.mono x2).mono x3)⟩⟩⟩
  cases x with
  | tup ds =>
    cases (show some (D.tup (cutD ds l u), S3) = some (d, S') from he)
    refine ⟨_, pe_slice sl_tupA ha hl hh, run _ fun m2 H2 vx x2 sh2 r1 => ?_⟩
    obtain ⟨ad, xs, rfl, w1, w2⟩ := tup_a r1
    refine ⟨ad, xs, rfl, w1, fun hw => ?_, fun hw p hp => ?_⟩
    · exact q m2 H2 _ x2 sh2 (by rw [cut_all hw.1 hw.2 w2]; exact r1)
    · exact q m2 _ _ (x2.trans (Ext.fresh hp)) (sh2.tmp hp) (rv_tup (.inl (.inl upd_same)) ((w2.mono (Ext.fresh hp)).cut))
  | str z =>
    obtain ⟨h1, h2⟩ := ite_some (show (if decide (z.length ≤ sizeLine) then some (D.str (cutS z l u), S3) else none) = some (d, S') from he)
    cases h2
    refine ⟨_, pe_slice sl_str ha hl hh, run _ fun m2 H2 vx x2 sh2 r1 => ?_⟩
    obtain rfl := str_a r1
    exact ⟨z, rfl, of_decide_eq_true h1, q m2 H2 _ x2 sh2 rv_str⟩
  | ptr n =>
    obtain ⟨ds, h1, h2⟩ := map_some (show (lstOf S3 n).map (fun xs => (D.ptr S3.length, S3 ++ [O.lst (cutD xs l u)])) = some (d, S') from he)
    cases h2
    refine ⟨_, pe_slice sl_list ha hl hh, run _ fun m2 H2 vx x2 sh2 r1 => ?_⟩
    obtain ⟨ad, ea, rfl⟩ := ptr_a r1
    obtain ⟨xs, w1, w2⟩ := lst_of sh2 ea h1
    exact ⟨ad, xs, rfl, w1, fun p hp => q (m2 ++ [p]) _ _ (x2.trans (Ext.alloc hp)) (sh2.alloc hp ⟨_, upd_same, (w2.mono (Ext.alloc hp)).cut⟩) (rv_ptr sh2)⟩
  | _ => cases he
/-! ### arguments, displays -/
theorem ok_nil : PA X [] (rEs X.K C .nil) := by
  refine PA.star fun σ H Q h => ⟨_, pa_nil, ?_⟩
  obtain ⟨m, ρ, S, ds, S', se, sh, he, q⟩ := h
  simp only [evs, Option.some.injEq, Prod.mk.injEq] at he
  obtain ⟨rfl, rfl⟩ := he
  exact q m H [] Ext.refl sh (by simp [RVs])
theorem ok_cons {e : Expr} {es : List Expr} {ce : IE} {ces : IEs} (hp : plainE e = true) (he : PE X e (rE X.K C ce)) (hes : PA X es (rEs X.K C ces)) : PA X (e :: es) (rEs X.K C (.cons ce ces)) := by
  refine PA.star fun σ H Q h => ⟨_, pa_cons he hes (noStar hp), ?_⟩
  obtain ⟨m, ρ, S, ds, S', se, sh, hv, q⟩ := h
  simp only [evs] at hv
  obtain ⟨⟨x, S1⟩, e1, hv⟩ := bind_some hv
  obtain ⟨⟨xs, S2⟩, e2, hv⟩ := map_some hv
  cases hv
  refine ⟨m, ρ, S, x, S1, se, sh, e1, fun m1 H1 vx x1 sh1 r1 => ⟨m1, ρ, S1, xs, S2, se.mono x1, sh1, e2, fun m2 H2 vs x2 sh2 r2 => ?_⟩⟩
  exact q m2 H2 _ (x1.trans x2) sh2 (by simp only [RVs]; exact ⟨r1.mono x2, r2⟩)
theorem ok_tup {es : List Expr} {k : Nat} {pos : Pos} {ces : IEs} (h : PA X es (rEs X.K C ces)) : PE X (.Tuple es k pos) (rE X.K C (.tup ces)) := by
  refine PE.star fun σ H Q hq => ⟨_, pe_tup h, ?_⟩
  obtain ⟨m, ρ, S, d, S', se, sh, he, q⟩ := hq
  simp only [ev] at he
  obtain ⟨⟨ds, S1⟩, e1, he⟩ := bind_some he
  obtain ⟨h1, h2⟩ := ite_some he
  cases h2
  refine ⟨m, ρ, S, ds, S1, se, sh, e1, fun m1 H1 vs x1 sh1 r1 => ⟨by rw [← r1.length]; exact of_decide_eq_true h1, fun p hp => ?_⟩⟩
  exact q m1 _ _ (x1.trans (Ext.fresh hp)) (sh1.tmp hp) (rv_tup (.inl (.inl upd_same)) (r1.mono (Ext.fresh hp)))
theorem ok_lst {es : List Expr} {pos : Pos} {ces : IEs} (h : PA X es (rEs X.K C ces)) : PE X (.List es pos) (rE X.K C (.lst ces)) := by
  refine PE.star fun σ H Q hq => ⟨_, pe_lst h, ?_⟩
  obtain ⟨m, ρ, S, d, S', se, sh, he, q⟩ := hq
  simp only [ev] at he
  obtain ⟨⟨ds, S1⟩, e1, he⟩ := bind_some he
  obtain ⟨h1, h2⟩ := ite_some he
  cases h2
  refine ⟨m, ρ, S, ds, S1, se, sh, e1, fun m1 H1 vs x1 sh1 r1 => ⟨by rw [← r1.length]; exact of_decide_eq_true h1, fun p hp => ?_⟩⟩
  exact q (m1 ++ [p]) _ _ (x1.trans (Ext.alloc hp)) (sh1.alloc hp ⟨_, upd_same, r1.mono (Ext.alloc hp)⟩) (rv_ptr sh1)
/-! ### dict displays -/
def rKV (K : PySem.W.Frag) (C : CallT) (kvs : IKV) : St → Hp → (List (V × V) → Hp → Prop) → Prop := fun σ H Q => ∃ m ρ S ps S', SE K m H ρ σ ∧ SH K m H S ∧ evd C kvs ρ S = some (ps, S') ∧
  ∀ m' H' (vs : List (Key × V)), Ext K H H' m m' → SH K m' H' S' → RKV K H' m' ps vs → Q (vs.map fun kv => (kV kv.1, kv.2)) H'
/-- what a display's pairs come to -/
inductive PKV (X : Cx) (C : CallT) : List (Option Expr) → List Expr → IKV → Prop
  | nil : PKV X C [] [] .nil
  | cons {k v : Expr} {ks : List (Option Expr)} {vs : List Expr} {ck cv : IE} {r : IKV} : PE X k (rE X.K C ck) → PE X v (rE X.K C cv) → PKV X C ks vs r → PKV X C (some k :: ks) (v :: vs) (.cons ck cv r)
theorem PKV.pps {ks : List (Option Expr)} {vs : List Expr} {r : IKV} (h : PKV X C ks vs r) (pos : Pos) : ∃ trs, PPs X pos ks vs trs ∧ (∀ σ H Q, rKV X.K C r σ H Q → tPairs trs σ H Q) ∧ ks.all (·.isSome) = true ∧ ks.length = vs.length ∧ (ks = [] → r = .nil) := by
  induction h with
  | nil =>
    refine ⟨[], pps_nil, fun σ H Q hq => ?_, rfl, rfl, fun _ => rfl⟩
    obtain ⟨m, ρ, S, ps, S', se, sh, he, q⟩ := hq
    simp only [evd, Option.some.injEq, Prod.mk.injEq] at he
    obtain ⟨rfl, rfl⟩ := he
    exact q m H [] Ext.refl sh (by simp [RKV])
  | @cons k v ks vs ck cv r hk hv _ ih =>
    obtain ⟨trs, h1, h2, h3, h4, _⟩ := ih
    refine ⟨_, pps_cons hk hv h1, fun σ H Q hq => ?_, by simp [h3], by simp [h4], fun z => nomatch z⟩
    obtain ⟨m, ρ, S, ps, S', se, sh, he, q⟩ := hq
    simp only [evd] at he
    obtain ⟨⟨x, S1⟩, e1, he⟩ := bind_some he
    obtain ⟨kk, e2, he⟩ := bind_some he
    obtain ⟨⟨y, S2⟩, e3, he⟩ := bind_some he
    obtain ⟨⟨zs, S3⟩, e4, he⟩ := map_some he
    cases he
    refine ⟨m, ρ, S, x, S1, se, sh, e1, fun m1 H1 vx x1 sh1 r1 => ⟨m1, ρ, S1, y, S2, se.mono x1, sh1, e3, fun m2 H2 vy x2 sh2 r2 => ?_⟩⟩
    refine h2 _ _ _ ⟨m2, ρ, S2, zs, _, (se.mono x1).mono x2, sh2, e4, fun m3 H3 vs x3 sh3 r3 => ?_⟩
    have ek := key_ok r1 e2
    subst ek
    exact q m3 H3 ((kk, vy) :: vs) ((x1.trans x2).trans x3) sh3 (by simp only [RKV]; exact ⟨trivial, r2.mono x3, r3⟩)
theorem RKV.merge {K : PySem.W.Frag} {m : List Addr} {H : Hp} : ∀ {qs : List (Key × D)} {ws : List (Key × V)} {ks : List (Key × D)} {vs : List (Key × V)}, RKV K H m qs ws → RKV K H m ks vs →
    RKV K H m (qs.foldl (fun acc kv => putKD acc kv.1 kv.2) ks) (mergeK vs ws)
  | [], [], _, _, _, r => r
  | p :: qs, w :: ws, ks, vs, h, r => by
    simp only [RKV] at h
    have e : p.1 = w.1 := h.1
    show RKV K H m (qs.foldl _ (putKD ks p.1 p.2)) (mergeK (putK vs w.1 w.2) ws)
    rw [← e]
    exact RKV.merge h.2.2 (r.put h.2.1)
  | [], _ :: _, _, _, h, _ => by simp only [RKV] at h
  | _ :: _, [], _, _, h, _ => by simp only [RKV] at h
theorem ok_dsp {ks : List (Option Expr)} {vs : List Expr} {pos : Pos} {r : IKV} (h : PKV X C ks vs r) (h15 : ks.length ≤ 15) : PE X (.Dict ks vs pos) (rE X.K C (.dsp r)) := by
  refine PE.star fun σ H Q hq => ?_
  obtain ⟨m, ρ, S, d, S', se, sh, he, q⟩ := hq
  simp only [ev] at he
  obtain ⟨⟨ps, S1⟩, e1, he⟩ := bind_some he
  obtain ⟨trs, h1, h2, h3, h4, h5⟩ := h.pps pos
  have alloc : ∀ p, H p = none → SH X.K (m ++ [p]) (upd H p (.dK [])) (S ++ [.dct []]) := fun p hp => sh.alloc hp ⟨[], upd_same, by simp [RKV]⟩
  have fin : ∀ {p : Addr} {m' : List Addr} {H' : Hp} {ws : List (Key × V)}, H p = none → Ext X.K (upd H p (.dK [])) H' (m ++ [p]) m' → SH X.K m' H' S1 → RKV X.K H' m' ps ws →
      H' p = some (.dK []) ∧ Q (.ref p) (upd H' p (.dK (mergeK [] ws))) := fun {p m' H' ws} hp x1 sh1 r1 => by
    have hm : m'[S.length]? = some p := x1.pre _ _ (by rw [← sh.len, List.getElem?_append_right (Nat.le_refl _)]; simp)
    simp only at he
    split at he
    · rename_i s1
      cases he
      obtain ⟨ks', w1, w2⟩ := sh1.obj _ _ _ hm s1
      have : ks' = [] := by
        cases ks' with
        | nil => rfl
        | cons a b => simp only [RKV] at w2
      subst this
      have hmu : Mut (H' p) := by rw [w1]; exact trivial
      have x2 : Ext X.K H' (upd H' p (.dK (mergeK [] ws))) m' m' := Ext.write hmu
      refine ⟨w1, q m' _ _ (((Ext.alloc hp).trans x1).trans x2) (sh1.set hm s1 rfl rfl ⟨_, upd_same, ?_⟩) (by simp only [RV]; exact ⟨p, hm, rfl⟩)⟩
      exact RKV.merge (r1.mono x2) (by simp [RKV])
    · cases he
  cases ks with
  | nil =>
    cases h
    simp only [evd, Option.some.injEq, Prod.mk.injEq] at e1
    obtain ⟨rfl, rfl⟩ := e1
    refine ⟨_, pe_dnewK, fun p hp => ?_⟩
    have := (fin (ws := []) hp Ext.refl (alloc p hp) (by simp [RKV])).2
    rw [upd_upd] at this
    exact this
  | cons k ks =>
    refine ⟨_, pe_disp h1 h3 h4 (by simp) h15, fun p hp => h2 _ _ _ ?_⟩
    refine ⟨m ++ [p], ρ, S ++ [.dct []], ps, S1, se.mono (Ext.alloc hp), alloc p hp, e1, fun m' H' ws x1 sh1 r1 => ?_⟩
    obtain ⟨g1, g2⟩ := fin hp x1 sh1 r1
    refine ⟨g1, ws, rfl, ?_, g2⟩
    have : ∀ {r : IKV} {kk : List (Option Expr)} {vv : List Expr} {S S1 : Sto} {ps : List (Key × D)}, PKV X C kk vv r → evd C r ρ S = some (ps, S1) → ps.length = kk.length := by
      intro r kk vv S S1 ps hh
      induction hh generalizing S S1 ps with
      | nil => intro e; simp only [evd, Option.some.injEq, Prod.mk.injEq] at e; obtain ⟨rfl, _⟩ := e; rfl
      | cons _ _ _ ih =>
        intro e
        simp only [evd] at e
        obtain ⟨⟨x, S1⟩, e1, e⟩ := bind_some e
        obtain ⟨kk, e2, e⟩ := bind_some e
        obtain ⟨⟨y, S2⟩, e3, e⟩ := bind_some e
        obtain ⟨⟨zs, S3⟩, e4, e⟩ := map_some e
        cases e
        simp only [List.length_cons, ih e4]
    rw [← r1.length, this h e1]
    exact h15
end
end Mi

namespace Mi
open PySem L2
section
variable {X : Cx} {C : CallT} {c : Ct}
theorem noStars {pos : Pos} {env : PySem.Env} : ∀ {es : List Expr}, es.all plainE = true → (backTo pos (starEach es env)).any (·.1) = false
  | [], _ => rfl
  | e :: es, h => by
    simp only [List.all_cons, Bool.and_eq_true] at h
    rw [noStar h.1]
    show (false || (backTo pos (starEach es env)).any (·.1)) = false
    rw [noStars h.2, Bool.false_or]
/-- arguments, as many as told -/
structure PAn (X : Cx) (C : CallT) (es : List Expr) (ces : IEs) : Prop where
  pa : PA X es (rEs X.K C ces)
  pl : es.all plainE = true
  len : ∀ ρ S ds S', evs C ces ρ S = some (ds, S') → ds.length = es.length
  nl : es = [] → ces = .nil
theorem PAn.nil : PAn X C [] .nil := ⟨ok_nil, rfl, fun ρ S ds S' h => by simp only [evs, Option.some.injEq, Prod.mk.injEq] at h; rw [← h.1]; rfl, fun _ => rfl⟩
theorem PAn.cons {e : Expr} {es : List Expr} {ce : IE} {ces : IEs} (hp : plainE e = true) (he : PE X e (rE X.K C ce)) (hes : PAn X C es ces) : PAn X C (e :: es) (.cons ce ces) :=
  ⟨ok_cons hp he hes.pa, by simp [hp, hes.pl], fun ρ S ds S' h => by
    simp only [evs] at h
    obtain ⟨⟨x, S1⟩, e1, h⟩ := bind_some h
    obtain ⟨⟨xs, S2⟩, e2, h⟩ := map_some h
    cases h
    simp only [List.length_cons, hes.len _ _ _ _ e2], fun z => nomatch z⟩
theorem gl_X {x : Str} (G : Gd C c X) (hg : glB c.sc x = true) : Gl X x := by
  show X.env.scope.names.lookup x = some .globalImplicit
  rw [G.sc]
  exact gl_of hg
/-! ### calls -/
theorem ok_call {x : Str} {p pos : Pos} {es : List Expr} {f : Nat} {ces : IEs} (G : Gd C c X) (hg : glB c.sc x = true) (ho : okN x = true) (hf : fnIx c.funs x 0 = some f) (ha : es.length = arity c f) (he : PAn X C es ces) :
    PE X (.Call (.Name x p) es [] pos) (rE X.K C (.call f ces)) := by
  obtain ⟨ps, _, hq⟩ := fnIx_ok hf
  have hq' : c.funs[f]? = some (x, ps) := by simpa using hq
  obtain ⟨a, fd, k, h1, h2, h3, h4, h5, _⟩ := (G.fns f x ps hq').ok
  have ha' : es.length = ps.length := by rw [ha]; unfold arity; rw [hq']
  simp only [okN, Bool.and_eq_true, Bool.not_eq_true'] at ho
  refine PE.star fun σ H Q h => ?_
  obtain ⟨m, ρ, S, d, S', se, sh, hv, q⟩ := h
  simp only [ev] at hv
  obtain ⟨⟨ds, S1⟩, e1, hv⟩ := bind_some hv
  have hl := he.len _ _ _ _ e1
  have run : rEs X.K C ces σ H fun vs H1 => spC X.K C f ps.length (vs ++ []) H1 Q E0 :=
    ⟨m, ρ, S, ds, S1, se, sh, e1, fun m1 H1 vs x1 sh1 r1 => ⟨by rw [List.append_nil, ← r1.length, hl, ha'], m1, S1, ds, d, S', sh1, by rw [List.append_nil]; exact r1, hv, fun m' H' v x2 sh2 r2 => q m' H' v (x1.trans x2) sh2 r2⟩⟩
  cases es with
  | nil =>
    obtain rfl := he.nl rfl
    simp only [evs, Option.some.injEq, Prod.mk.injEq] at e1
    obtain ⟨rfl, rfl⟩ := e1
    exact ⟨_, pe_call0 h5 h4 (gl_X G hg) h1 h2 h3 .nil pass0 ho.1.1, by simpa using ha', m, S, [], d, S', sh, by simp [RVs], hv, q⟩
  | cons e es =>
    have hpl := he.pl
    simp only [List.all_cons, Bool.and_eq_true] at hpl
    exact ⟨_, pe_call h5 h4 (gl_X G hg) h1 h2 h3 .nil pass0 he.pa ho.1.1 (noStar hpl.1) (noStars hpl.2), run⟩
/-- keywords' values -/
structure PKn (X : Cx) (C : CallT) (kws : List Keyword) (ces : IEs) : Prop where
  pk : PK X kws (rEs X.K C ces)
  len : ∀ ρ S ds S', evs C ces ρ S = some (ds, S') → ds.length = kws.length
theorem PKn.nil : PKn X C [] .nil := by
  refine ⟨PK.star fun σ H Q h => ⟨_, pk_nil, ?_⟩, fun ρ S ds S' h => by simp only [evs, Option.some.injEq, Prod.mk.injEq] at h; rw [← h.1]; rfl⟩
  obtain ⟨m, ρ, S, ds, S', se, sh, he, q⟩ := h
  simp only [evs, Option.some.injEq, Prod.mk.injEq] at he
  obtain ⟨rfl, rfl⟩ := he
  exact q m H [] Ext.refl sh (by simp [RVs])
theorem PKn.cons {k : Keyword} {ks : List Keyword} {ce : IE} {ces : IEs} (he : PE X k.value (rE X.K C ce)) (hes : PKn X C ks ces) : PKn X C (k :: ks) (.cons ce ces) := by
  obtain ⟨ka, kv, kp⟩ := k
  refine ⟨PK.star fun σ H Q h => ⟨_, pk_cons he hes.pk, ?_⟩, fun ρ S ds S' h => ?_⟩
  · obtain ⟨m, ρ, S, ds, S', se, sh, hv, q⟩ := h
    simp only [evs] at hv
    obtain ⟨⟨x, S1⟩, e1, hv⟩ := bind_some hv
    obtain ⟨⟨xs, S2⟩, e2, hv⟩ := map_some hv
    cases hv
    refine ⟨m, ρ, S, x, S1, se, sh, e1, fun m1 H1 vx x1 sh1 r1 => ⟨m1, ρ, S1, xs, S2, se.mono x1, sh1, e2, fun m2 H2 vs x2 sh2 r2 => ?_⟩⟩
    exact q m2 H2 _ (x1.trans x2) sh2 (by simp only [RVs]; exact ⟨r1.mono x2, r2⟩)
  · simp only [evs] at h
    obtain ⟨⟨x, S1⟩, e1, h⟩ := bind_some h
    obtain ⟨⟨xs, S2⟩, e2, h⟩ := map_some h
    cases h
    simp only [List.length_cons, hes.len _ _ _ _ e2]
theorem perm_vals {vs : List V} {us : List Value} (r : Vals vs us) : ∀ pm : List Nat, Vals (permV V.non pm vs) (permV Value.none pm us)
  | [] => .nil
  | i :: pm => by
    refine .cons ?_ (perm_vals r pm)
    cases h : vs[i]? with
    | some v =>
      obtain ⟨u, h1, h2⟩ := r.get h
      simp only [List.getD_eq_getElem?_getD, h, h1, Option.getD_some]
      exact h2
    | none =>
      simp only [List.getD_eq_getElem?_getD, h, r.none_of h, Option.getD_none]
      rfl
theorem perm_rvs {K : PySem.W.Frag} {H : Hp} {m : List Addr} {ds : List D} {vs : List V} (r : RVs K H m ds vs) : ∀ pm : List Nat, RVs K H m (pm.map fun i => ds.getD i .non) (permV V.non pm vs)
  | [] => by simp [permV, RVs]
  | i :: pm => by
    show RVs K H m (ds.getD i .non :: pm.map fun i => ds.getD i .non) (vs.getD i V.non :: permV V.non pm vs)
    simp only [RVs]
    refine ⟨?_, perm_rvs r pm⟩
    cases h : ds[i]? with
    | some d =>
      obtain ⟨u, h1, h2⟩ := r.get h
      simp only [List.getD_eq_getElem?_getD, h, h1, Option.getD_some]
      exact h2
    | none =>
      simp only [List.getD_eq_getElem?_getD, h, r.get_none h, Option.getD_none]
      exact rv_non
theorem kw_all {pos : Pos} {env : PySem.Env} : ∀ {kws : List Keyword}, kws.all (fun k => k.arg.isSome) = true → (backToKw pos (keywordEach kws env)).all (·.1.isSome) = true ∧ (backToKw pos (keywordEach kws env)).any (·.1.isNone) = false ∧
    (backToKw pos (keywordEach kws env)).filterMap (·.1) = kws.filterMap (·.arg)
  | [], _ => ⟨rfl, rfl, rfl⟩
  | ⟨a, v, p⟩ :: ks, h => by
    simp only [List.all_cons, Bool.and_eq_true] at h
    obtain ⟨h1, h2, h3⟩ := kw_all (pos := pos) (env := env) h.2
    cases a with
    | none => simp at h
    | some a =>
      refine ⟨?_, ?_, ?_⟩
      · show (true && (backToKw pos (keywordEach ks env)).all (·.1.isSome)) = true
        rw [h1] <;> rfl
      · show (false || (backToKw pos (keywordEach ks env)).any (·.1.isNone)) = false
        rw [h2] <;> rfl
      · show a :: (backToKw pos (keywordEach ks env)).filterMap (·.1) = a :: ks.filterMap (·.arg)
        rw [h3]
theorem kw_len : ∀ {kws : List Keyword}, kws.all (fun k => k.arg.isSome) = true → (kws.filterMap (·.arg)).length = kws.length
  | [], _ => rfl
  | ⟨a, v, p⟩ :: ks, h => by
    simp only [List.all_cons, Bool.and_eq_true] at h
    cases a with
    | none => simp at h
    | some a =>
      show (a :: ks.filterMap (·.arg)).length = ks.length + 1
      rw [List.length_cons, kw_len h.2]
theorem ok_callK {x : Str} {p pos : Pos} {es : List Expr} {kws : List Keyword} {f : Nat} {ces cks : IEs} {pm : List Nat} (G : Gd C c X) (hg : glB c.sc x = true) (ho : okN x = true) (hk : kws.all (fun k => k.arg.isSome) = true) (hf : fnIx c.funs x 0 = some f)
    (hi : kwIx c.kws f es.length (kws.filterMap (·.arg)) = some pm) (he : PAn X C es ces) (hks : PKn X C kws cks) : PE X (.Call (.Name x p) es kws pos) (rE X.K C (.callK f ces cks pm)) := by
  obtain ⟨ps, _, hq⟩ := fnIx_ok hf
  have hq' : c.funs[f]? = some (x, ps) := by simpa using hq
  obtain ⟨a, fd, k, h1, h2, h3, h4, F, h6⟩ := (G.fns f x ps hq').ok
  obtain ⟨hpm, hb⟩ := h6 _ _ _ (kwIx_ok hi)
  simp only [okN, Bool.and_eq_true, Bool.not_eq_true'] at ho
  obtain ⟨k1, k2, k3⟩ := kw_all (pos := pos) (env := X.env) hk
  refine ⟨fun pins s σ H Q I h => ?_⟩
  obtain ⟨m, ρ, S, d, S', se, sh, hv, q⟩ := h
  simp only [ev] at hv
  obtain ⟨⟨ds, S1⟩, e1, hv⟩ := bind_some hv
  obtain ⟨⟨es', S2⟩, e2, hv⟩ := bind_some hv
  have l1 := he.len _ _ _ _ e1
  have l2 := hks.len _ _ _ _ e2
  -- the call itself
  have run : ∀ {s2 : Shared} {us ws : List Value} {vs zs : List V} {m2 : List Addr} {H2 : Hp}, Inv X pins σ H2 s2 → Vals vs us → Vals zs ws → Ext X.K H H2 m m2 → SH X.K m2 H2 S2 → RVs X.K H2 m2 ds vs → RVs X.K H2 m2 es' zs →
      wpAny (model X.prog X.w) X.A (call (.ref a) us ((kws.filterMap (·.arg)).zip ws)) (EP X pins σ Q) X.xe s2 := fun {s2 us ws vs zs m2 H2} I2 r rz x2 sh2 r1 r2 => by
    have hsp : spC X.K C f ps.length (permV V.non pm (vs ++ zs)) H2 Q E0 := ⟨by unfold permV; rw [List.length_map, hpm], m2, S2, _, d, S', sh2, perm_rvs (r1.append r2) pm, hv, fun m' H' v x3 sh3 r3 => q m' H' v (x2.trans x3) sh3 r3⟩
    have hl1 : us.length = es.length := by rw [← r.length, ← r1.length, l1]
    have hl2 : ws.length = (kws.filterMap (·.arg)).length := by rw [← rz.length, ← r2.length, l2, kw_len hk]
    refine wpAny_call (codeAny_mono (F.run X.A X.stack s2 H2 ⟨us, (kws.filterMap (·.arg)).zip ws⟩ (permV Value.none pm (us ++ ws)) (permV V.non pm (vs ++ zs)) Q E0 h4 I2.env0 (hb s2 us ws hl1 hl2) (perm_vals (r.append rz) pm) hsp) fun r s' hq => ?_)
    cases r with
    | error e => exact hq.elim
    | ok fl =>
      cases fl with
      | ret u => exact I2.after hq
      | next => exact False.elim hq
      | brk => exact False.elim hq
      | cont => exact False.elim hq
  refine wpAny_Call_Name_kw (ld_glob I (gl_X G hg) h1 ?_ ho.1.1)
  cases es with
  | nil =>
    obtain rfl := he.nl rfl
    simp only [evs, Option.some.injEq, Prod.mk.injEq] at e1
    obtain ⟨rfl, rfl⟩ := e1
    refine PySem.W.callWith_KW0 (h₀ := X.base) I.ok.mod.kin h2 k1 (thn (hks.pk.run pos pins s σ H (fun zs H2 => ∃ m2, Ext X.K H H2 m m2 ∧ SH X.K m2 H2 S2 ∧ RVs X.K H2 m2 es' zs) I ⟨m, ρ, S, es', S2, se, sh, e2, fun m2 H2 zs x2 sh2 r2 => ⟨m2, x2, sh2, r2⟩⟩) fun ws s2 ⟨zs, H2, I2, rz, m2, x2, sh2, r2⟩ => ⟨I2.kIn, ?_⟩) (by
      show ((backTo pos (starEach [] X.env)).any (·.1) || (backToKw pos (keywordEach kws X.env)).any (·.1.isNone)) = false
      rw [k2] <;> rfl)
    rw [k3]
    exact run (vs := []) I2 .nil rz x2 sh2 (by simp [RVs]) r2
  | cons e es =>
    have hpl := he.pl
    have hpl' := hpl
    simp only [List.all_cons, Bool.and_eq_true] at hpl
    refine PySem.W.callWith_KW (h₀ := X.base) I.ok.mod.kin h2 k1 (thn (he.pa.run pos pins s σ H (fun vs H1 => ∃ m1, Ext X.K H H1 m m1 ∧ SH X.K m1 H1 S1 ∧ RVs X.K H1 m1 ds vs) I ⟨m, ρ, S, ds, S1, se, sh, e1, fun m2 H2 zs x2 sh2 r2 => ⟨m2, x2, sh2, r2⟩⟩) fun us s1 ⟨vs, H1, I1, r, m1, x1, sh1, r1⟩ => ?_)
      (by rw [k2, noStars hpl'] <;> rfl) (noStar hpl.1)
    refine thn (hks.pk.run pos pins s1 σ H1 (fun zs H2 => ∃ m2, Ext X.K H1 H2 m1 m2 ∧ SH X.K m2 H2 S2 ∧ RVs X.K H2 m2 es' zs) I1 ⟨m1, ρ, S1, es', S2, se.mono x1, sh1, e2, fun m2 H2 zs x2 sh2 r2 => ⟨m2, x2, sh2, r2⟩⟩) fun ws s2 ⟨zs, H2, I2, rz, m2, x2, sh2, r2⟩ => ⟨I2.kIn, ?_⟩
    rw [k3]
    exact run I2 r rz (x1.trans x2) sh2 (r1.mono x2) r2
end
end Mi

namespace Mi
open PySem L2
/-! ### sorting, greatest, least -/
theorem ins_perm (i : Int) : ∀ l : List Int, (ins i l).Perm (i :: l)
  | [] => .refl _
  | j :: r => by
    unfold ins
    split
    · exact .refl _
    · exact ((ins_perm i r).cons j).trans (.swap i j r)
theorem isort_perm : ∀ l : List Int, (isort l).Perm l
  | [] => .refl _
  | i :: r => (ins_perm i (isort r)).trans ((isort_perm r).cons i)
theorem ins_sorted (i : Int) : ∀ {l : List Int}, l.Pairwise (· ≤ ·) → (ins i l).Pairwise (· ≤ ·)
  | [], _ => by simp [ins]
  | j :: r, h => by
    unfold ins
    rw [List.pairwise_cons] at h
    split
    · rename_i hij
      rw [List.pairwise_cons, List.pairwise_cons]
      refine ⟨fun k hk => ?_, h⟩
      rcases List.mem_cons.mp hk with rfl | hk
      · exact hij
      · exact Int.le_trans hij (h.1 k hk)
    · rename_i hij
      rw [List.pairwise_cons]
      refine ⟨fun k hk => ?_, ins_sorted i h.2⟩
      rcases List.mem_cons.mp ((ins_perm i r).mem_iff.mp hk) with rfl | hk
      · omega
      · exact h.1 k hk
theorem isort_sorted : ∀ l : List Int, (isort l).Pairwise (· ≤ ·)
  | [] => .nil
  | i :: r => ins_sorted i (isort_sorted r)
theorem sorted_eq : ∀ {l l' : List Int}, l.Perm l' → l.Pairwise (· ≤ ·) → l'.Pairwise (· ≤ ·) → l = l'
  | [], l', p, _, _ => (List.Perm.nil_eq p)
  | i :: r, [], p, _, _ => absurd p.length_eq (by simp)
  | i :: r, j :: r', p, h, h' => by
    rw [List.pairwise_cons] at h h'
    have hi : i ∈ j :: r' := p.mem_iff.mp List.mem_cons_self
    have hj : j ∈ i :: r := p.mem_iff.mpr List.mem_cons_self
    have e : i = j := by
      rcases List.mem_cons.mp hi with e | hi
      · exact e
      · rcases List.mem_cons.mp hj with e | hj
        · exact e.symm
        · have h1 := h.1 j hj
          have h2 := h'.1 i hi
          omega
    subst e
    rw [sorted_eq (p.cons_inv) h.2 h'.2]
theorem isort_eq {l l' : List Int} (p : l'.Perm l) (h : l'.Pairwise (· ≤ ·)) : l' = isort l := sorted_eq (p.trans (isort_perm l).symm) h (isort_sorted l)
theorem maxL_ge : ∀ (r : List Int) (m : Int), m ≤ maxL m r ∧ ∀ y ∈ r, y ≤ maxL m r
  | [], m => ⟨Int.le_refl _, fun _ h => nomatch h⟩
  | j :: r, m => by
    have h := maxL_ge r (if j > m then j else m)
    have h0 : m ≤ (if j > m then j else m) ∧ j ≤ (if j > m then j else m) := by split <;> omega
    refine ⟨Int.le_trans h0.1 h.1, fun y hy => ?_⟩
    rcases List.mem_cons.mp hy with rfl | hy
    · exact Int.le_trans h0.2 h.1
    · exact h.2 y hy
theorem maxL_mem : ∀ (r : List Int) (m : Int), maxL m r ∈ m :: r
  | [], m => List.mem_cons_self
  | j :: r, m => by
    have h := maxL_mem r (if j > m then j else m)
    unfold maxL
    rcases List.mem_cons.mp h with e | h
    · rw [e]
      split
      · exact List.mem_cons_of_mem _ List.mem_cons_self
      · exact List.mem_cons_self
    · exact List.mem_cons_of_mem _ (List.mem_cons_of_mem _ h)
theorem minL_le : ∀ (r : List Int) (m : Int), minL m r ≤ m ∧ ∀ y ∈ r, minL m r ≤ y
  | [], m => ⟨Int.le_refl _, fun _ h => nomatch h⟩
  | j :: r, m => by
    have h := minL_le r (if j < m then j else m)
    have h0 : (if j < m then j else m) ≤ m ∧ (if j < m then j else m) ≤ j := by split <;> omega
    refine ⟨Int.le_trans h.1 h0.1, fun y hy => ?_⟩
    rcases List.mem_cons.mp hy with rfl | hy
    · exact Int.le_trans h.1 h0.2
    · exact h.2 y hy
theorem minL_mem : ∀ (r : List Int) (m : Int), minL m r ∈ m :: r
  | [], m => List.mem_cons_self
  | j :: r, m => by
    have h := minL_mem r (if j < m then j else m)
    unfold minL
    rcases List.mem_cons.mp h with e | h
    · rw [e]
      split
      · exact List.mem_cons_of_mem _ List.mem_cons_self
      · exact List.mem_cons_self
    · exact List.mem_cons_of_mem _ (List.mem_cons_of_mem _ h)
section
variable {X : Cx} {C : CallT} {c : Ct}
def bltV : Bt → Value
  | .len => .builtin "len"
  | .abs => .builtin "abs"
  | .int => .type "int"
  | .bool => .type "bool"
  | .str => .type "str"
  | .tuple => .type "tuple"
  | .list => .type "list"
  | .sorted => .builtin "sorted"
  | .sum => .builtin "sum"
  | .any => .builtin "any"
  | .all => .builtin "all"
  | .max1 => .builtin "max"
  | .min1 => .builtin "min"
  | .max2 => .builtin "max"
  | .min2 => .builtin "min"
  | .listRange => .type "list"
theorem rvs1 {K : PySem.W.Frag} {H : Hp} {m : List Addr} {d : D} {vs : List V} (r : RVs K H m [d] vs) : ∃ v, vs = [v] ∧ RV K H m d v := by
  cases vs with
  | nil => simp only [RVs] at r
  | cons v vs =>
    cases vs with
    | nil => simp only [RVs] at r; exact ⟨v, rfl, r.1⟩
    | cons w vs => simp only [RVs] at r; exact r.2.elim
theorem rvs2 {K : PySem.W.Frag} {H : Hp} {m : List Addr} {d e : D} {vs : List V} (r : RVs K H m [d, e] vs) : ∃ v w, vs = [v, w] ∧ RV K H m d v ∧ RV K H m e w := by
  cases vs with
  | nil => simp only [RVs] at r
  | cons v vs =>
    simp only [RVs] at r
    obtain ⟨w, rfl, r2⟩ := rvs1 (K := K) (H := H) (m := m) (d := e) (vs := vs) (by simpa only [RVs] using r.2)
    exact ⟨v, w, rfl, r.1, r2⟩
theorem blt_ok {b : Bt} {m : List Addr} {H : Hp} {S S' : Sto} {ds : List D} {vs : List V} {z : D} {Q : VK} (hb : b ≠ .listRange) (hc : X.calm = true) (sh : SH X.K m H S) (r : RVs X.K H m ds vs) (h : bltD b ds S = some (z, S'))
    (q : ∀ m' H' v, Ext X.K H H' m m' → SH X.K m' H' S' → RV X.K H' m' z v → Q v H') : ∃ R, CallR X (bltV b) R ∧ R vs H Q := by
  have same : ∀ {d : D} {v : V}, some (d, S) = some (z, S') → RV X.K H m d v → Q v H := fun {d v} e r => by
    cases e
    exact q m H v Ext.refl sh r
  match b, ds, r, h with
  | .len, [.tup xs], r, h =>
    obtain ⟨v, rfl, r1⟩ := rvs1 r
    obtain ⟨a, ys, rfl, w1, w2⟩ := tup_a r1
    refine ⟨_, call_len_seq, a, ys, rfl, .inr w1, ?_⟩
    rw [← w2.length]
    exact same (show some (D.int xs.length, S) = some (z, S') from h) rv_int
  | .len, [.str y], r, h =>
    obtain ⟨v, rfl, r1⟩ := rvs1 r
    obtain rfl := str_a r1
    obtain ⟨h1, h2⟩ := ite_some (show (if decide (y.length ≤ sizeLine) then some (D.int y.length, S) else none) = some (z, S') from h)
    exact ⟨_, call_len_str, y, rfl, of_decide_eq_true h1, same h2 rv_int⟩
  | .len, [.ptr n], r, h =>
    obtain ⟨v, rfl, r1⟩ := rvs1 r
    obtain ⟨a, ea, rfl⟩ := ptr_a r1
    simp only [bltD] at h
    split at h
    · rename_i xs s1
      obtain ⟨ys, w1, w2⟩ := sh.obj n a _ ea s1
      refine ⟨_, call_len_seq, a, ys, rfl, .inl (.inl (.inl w1)), ?_⟩
      rw [← w2.length]
      exact same h rv_int
    · rename_i xs s1
      obtain ⟨ys, w1, w2⟩ := sh.obj n a _ ea s1
      refine ⟨_, call_len_seq, a, ys, rfl, .inl w1.sq, ?_⟩
      rw [← w2.length]
      exact same h rv_int
    · rename_i kvs s1
      obtain ⟨ys, w1, w2⟩ := sh.obj n a _ ea s1
      refine ⟨_, call_lenD, a, ys, rfl, w1, ?_⟩
      rw [← w2.length]
      exact same h rv_int
    · cases h
  | .abs, [.int i], r, h =>
    obtain ⟨v, rfl, r1⟩ := rvs1 r
    obtain rfl := int_a r1
    exact ⟨_, call_abs, i, rfl, same (show some (D.int (if i < 0 then -i else i), S) = some (z, S') from h) rv_int⟩
  | .int, [.int i], r, h =>
    obtain ⟨v, rfl, r1⟩ := rvs1 r
    obtain rfl := int_a r1
    exact ⟨_, call_int1, .inl ⟨i, rfl, same (show some (D.int i, S) = some (z, S') from h) rv_int⟩⟩
  | .int, [.bl k], r, h =>
    obtain ⟨v, rfl, r1⟩ := rvs1 r
    obtain rfl := bl_a r1
    exact ⟨_, call_int1, .inr ⟨k, rfl, same (show some (D.int (if k then 1 else 0), S) = some (z, S') from h) rv_int⟩⟩
  | .bool, [.int i], r, h =>
    obtain ⟨v, rfl, r1⟩ := rvs1 r
    obtain rfl := int_a r1
    exact ⟨_, call_bool1, .inl ⟨i, rfl, same (show some (D.bl (i != 0), S) = some (z, S') from h) rv_bl⟩⟩
  | .bool, [.bl k], r, h =>
    obtain ⟨v, rfl, r1⟩ := rvs1 r
    obtain rfl := bl_a r1
    exact ⟨_, call_bool1, .inr ⟨k, rfl, same (show some (D.bl k, S) = some (z, S') from h) rv_bl⟩⟩
  | .str, [.int i], r, h =>
    obtain ⟨v, rfl, r1⟩ := rvs1 r
    obtain rfl := int_a r1
    obtain ⟨h1, h2⟩ := ite_some (show (if decide (i.natAbs.log2 < 1920) then some (D.str (toString i), S) else none) = some (z, S') from h)
    exact ⟨_, call_str_int, i, rfl, of_decide_eq_true h1, same h2 rv_str⟩
  | .tuple, [.tup xs], r, h =>
    obtain ⟨v, rfl, r1⟩ := rvs1 r
    obtain ⟨a, ys, rfl, w1, w2⟩ := tup_a r1
    exact ⟨_, call_tupleT, a, ys, rfl, w1, same (show some (D.tup xs, S) = some (z, S') from h) (rv_tup w1 w2)⟩
  | .tuple, [.ptr n], r, h =>
    obtain ⟨v, rfl, r1⟩ := rvs1 r
    obtain ⟨a, ea, rfl⟩ := ptr_a r1
    obtain ⟨xs, h1, h2⟩ := map_some (show (lstOf S n).map (fun xs => (D.tup xs, S)) = some (z, S') from h)
    cases h2
    obtain ⟨ys, w1, w2⟩ := lst_of sh ea h1
    refine ⟨_, call_tuple_of, a, ys, rfl, .inl ⟨w1, fun p hp => ?_⟩⟩
    exact q m _ _ (Ext.fresh hp) (sh.tmp hp) (rv_tup (.inl (.inl upd_same)) (w2.mono (Ext.fresh hp)))
  | .list, [.tup xs], r, h =>
    obtain ⟨v, rfl, r1⟩ := rvs1 r
    obtain ⟨a, ys, rfl, w1, w2⟩ := tup_a r1
    cases (show some (D.ptr S.length, S ++ [O.lst xs]) = some (z, S') from h)
    refine ⟨_, call_list_of, a, ys, rfl, .inr w1, fun p hp => ?_⟩
    exact q (m ++ [p]) _ _ (Ext.alloc hp) (sh.alloc hp ⟨_, upd_same, w2.mono (Ext.alloc hp)⟩) (rv_ptr sh)
  | .list, [.ptr n], r, h =>
    obtain ⟨v, rfl, r1⟩ := rvs1 r
    obtain ⟨a, ea, rfl⟩ := ptr_a r1
    obtain ⟨xs, h1, h2⟩ := map_some (show (lstOf S n).map (fun xs => (D.ptr S.length, S ++ [O.lst xs])) = some (z, S') from h)
    cases h2
    obtain ⟨ys, w1, w2⟩ := lst_of sh ea h1
    refine ⟨_, call_list_of, a, ys, rfl, .inl w1, fun p hp => ?_⟩
    exact q (m ++ [p]) _ _ (Ext.alloc hp) (sh.alloc hp ⟨_, upd_same, w2.mono (Ext.alloc hp)⟩) (rv_ptr sh)
  | .sorted, [.ptr n], r, h =>
    obtain ⟨v, rfl, r1⟩ := rvs1 r
    obtain ⟨a, ea, rfl⟩ := ptr_a r1
    obtain ⟨xs, h1, h⟩ := bind_some (show ((lstOf S n).bind fun xs => (intsOf xs).map fun is => (D.ptr S.length, S ++ [O.lst ((isort is).map D.int)])) = some (z, S') from h)
    obtain ⟨is, h2, h3⟩ := map_some h
    cases h3
    obtain ⟨ys, w1, w2⟩ := lst_of sh ea h1
    obtain rfl := w2.ints h2
    refine ⟨_, cr_sortedI, a, is, rfl, w1, fun ns p hn hs hp => ?_⟩
    rw [isort_eq hn hs]
    exact q (m ++ [p]) _ _ (Ext.alloc hp) (sh.alloc hp ⟨_, upd_same, RVs.ofInts _⟩) (rv_ptr sh)
  | .sum, [.ptr n], r, h =>
    obtain ⟨v, rfl, r1⟩ := rvs1 r
    obtain ⟨a, ea, rfl⟩ := ptr_a r1
    obtain ⟨xs, h1, h⟩ := bind_some (show ((lstOf S n).bind fun xs => (intsOf xs).map fun is => (D.int is.sum, S)) = some (z, S') from h)
    obtain ⟨is, h2, h3⟩ := map_some h
    obtain ⟨ys, w1, w2⟩ := lst_of sh ea h1
    obtain rfl := w2.ints h2
    exact ⟨_, cr_sum hc, a, is, rfl, w1, same (congrArg some h3) rv_int⟩
  | .any, [.ptr n], r, h =>
    obtain ⟨v, rfl, r1⟩ := rvs1 r
    obtain ⟨a, ea, rfl⟩ := ptr_a r1
    obtain ⟨xs, h1, h⟩ := bind_some (show ((lstOf S n).bind fun xs => (bolsOf xs).map fun is => (D.bl (is.any id), S)) = some (z, S') from h)
    obtain ⟨is, h2, h3⟩ := map_some h
    obtain ⟨ys, w1, w2⟩ := lst_of sh ea h1
    obtain rfl := w2.bols h2
    exact ⟨_, cr_any hc, a, is, rfl, w1, same (congrArg some h3) rv_bl⟩
  | .all, [.ptr n], r, h =>
    obtain ⟨v, rfl, r1⟩ := rvs1 r
    obtain ⟨a, ea, rfl⟩ := ptr_a r1
    obtain ⟨xs, h1, h⟩ := bind_some (show ((lstOf S n).bind fun xs => (bolsOf xs).map fun is => (D.bl (is.all id), S)) = some (z, S') from h)
    obtain ⟨is, h2, h3⟩ := map_some h
    obtain ⟨ys, w1, w2⟩ := lst_of sh ea h1
    obtain rfl := w2.bols h2
    exact ⟨_, cr_all hc, a, is, rfl, w1, same (congrArg some h3) rv_bl⟩
  | .max1, [.ptr n], r, h =>
    obtain ⟨v, rfl, r1⟩ := rvs1 r
    obtain ⟨a, ea, rfl⟩ := ptr_a r1
    obtain ⟨xs, h1, h⟩ := bind_some (show ((lstOf S n).bind fun xs => (intsOf xs).bind fun is => match is with
      | [] => none
      | i :: r => some (D.int (maxL i r), S)) = some (z, S') from h)
    obtain ⟨is, h2, h3⟩ := bind_some h
    obtain ⟨ys, w1, w2⟩ := lst_of sh ea h1
    obtain rfl := w2.ints h2
    cases is with
    | nil => cases h3
    | cons i is =>
      refine ⟨_, cr_max hc, a, i :: is, rfl, w1, by simp, fun k hk hu => ?_⟩
      have e : k = maxL i is := by
        have h4 := hu _ (maxL_mem is i)
        have h5 := maxL_ge is i
        rcases List.mem_cons.mp hk with rfl | hk
        · omega
        · have := h5.2 k hk; omega
      rw [e]
      exact same h3 rv_int
  | .min1, [.ptr n], r, h =>
    obtain ⟨v, rfl, r1⟩ := rvs1 r
    obtain ⟨a, ea, rfl⟩ := ptr_a r1
    obtain ⟨xs, h1, h⟩ := bind_some (show ((lstOf S n).bind fun xs => (intsOf xs).bind fun is => match is with
      | [] => none
      | i :: r => some (D.int (minL i r), S)) = some (z, S') from h)
    obtain ⟨is, h2, h3⟩ := bind_some h
    obtain ⟨ys, w1, w2⟩ := lst_of sh ea h1
    obtain rfl := w2.ints h2
    cases is with
    | nil => cases h3
    | cons i is =>
      refine ⟨_, cr_min hc, a, i :: is, rfl, w1, by simp, fun k hk hu => ?_⟩
      have e : k = minL i is := by
        have h4 := hu _ (minL_mem is i)
        have h5 := minL_le is i
        rcases List.mem_cons.mp hk with rfl | hk
        · omega
        · have := h5.2 k hk; omega
      rw [e]
      exact same h3 rv_int
  | .max2, [.int i, .int j], r, h =>
    obtain ⟨v, w, rfl, r1, r2⟩ := rvs2 r
    obtain rfl := int_a r1
    obtain rfl := int_a r2
    exact ⟨_, call_max2 hc, i, j, rfl, same (show some (D.int (if j > i then j else i), S) = some (z, S') from h) rv_int⟩
  | .min2, [.int i, .int j], r, h =>
    obtain ⟨v, w, rfl, r1, r2⟩ := rvs2 r
    obtain rfl := int_a r1
    obtain rfl := int_a r2
    exact ⟨_, call_min2 hc, i, j, rfl, same (show some (D.int (if j < i then j else i), S) = some (z, S') from h) rv_int⟩
  | .listRange, _, _, _ => exact absurd rfl hb
end
end Mi

namespace Mi
open PySem L2
section
variable {X : Cx} {C : CallT} {c : Ct}
theorem CallR.star {f : Value} : CallR X f (fun xs H Q => ∃ r, CallR X f r ∧ r xs H Q) := fun pins s σ H xs us Q I r ⟨_, h1, h2⟩ => h1 pins s σ H xs us Q I r h2
theorem MtR.star {f : String} : MtR X f (fun x xs H Q => ∃ r, MtR X f r ∧ r x xs H Q) := fun pins s σ H x xs v us Q I r rr ⟨_, h1, h2⟩ => h1 pins s σ H x xs v us Q I r rr h2
theorem rB {b : Bt} {ces : IEs} {es : List Expr} (hb : b ≠ .listRange) (hc : X.calm = true) {σ : L2.St} {H : Hp} {Q : VK} (h : rE X.K C (.blt b ces) σ H Q) : rEs X.K C ces σ H fun vs H1 => ∃ R, CallR X (bltV b) R ∧ R vs H1 Q := by
  obtain ⟨m, ρ, S, d, S', se, sh, hv, q⟩ := h
  simp only [ev] at hv
  obtain ⟨⟨ds, S1⟩, e1, hv⟩ := bind_some hv
  exact ⟨m, ρ, S, ds, S1, se, sh, e1, fun m1 H1 vs x1 sh1 r1 => blt_ok hb hc sh1 r1 hv fun m' H' v x2 sh2 r2 => q m' H' v (x1.trans x2) sh2 r2⟩
theorem ok_bltB {x : Str} {id : String} {b : Bt} {p pos : Pos} {es : List Expr} {ces : IEs} (G : Gd C c X) (hg : glB c.sc x = true) (hx : x ∈ bltNames) (hb : b ≠ .listRange) (hv : bootBuiltins x = some (.builtin id)) (e : bltV b = .builtin id)
    (hn : x ≠ "__name__") (hd : (x == ("__debug__" : Str)) = false) (h0 : es ≠ []) (he : PAn X C es ces) : PE X (.Call (.Name x p) es [] pos) (rE X.K C (.blt b ces)) := by
  refine PE.star fun σ H Q h => ?_
  have hr := rB (es := es) hb G.calm h
  rw [e] at hr
  cases es with
  | nil => exact absurd rfl h0
  | cons a es =>
    have hpl := he.pl
    simp only [List.all_cons, Bool.and_eq_true] at hpl
    exact ⟨_, pe_callB CallR.star (gl_X G hg) (G.blt x hx) hv he.pa hn hd (noStar hpl.1) (noStars hpl.2), hr⟩
theorem ok_bltT {x : Str} {id : String} {b : Bt} {p pos : Pos} {es : List Expr} {ces : IEs} (G : Gd C c X) (hg : glB c.sc x = true) (hx : x ∈ bltNames) (hb : b ≠ .listRange) (hv : bootBuiltins x = some (.type id)) (e : bltV b = .type id)
    (hn : x ≠ "__name__") (hd : (x == ("__debug__" : Str)) = false) (h0 : es ≠ []) (he : PAn X C es ces) : PE X (.Call (.Name x p) es [] pos) (rE X.K C (.blt b ces)) := by
  refine PE.star fun σ H Q h => ?_
  have hr := rB (es := es) hb G.calm h
  rw [e] at hr
  cases es with
  | nil => exact absurd rfl h0
  | cons a es =>
    have hpl := he.pl
    simp only [List.all_cons, Bool.and_eq_true] at hpl
    exact ⟨_, pe_callTy CallR.star (gl_X G hg) (G.blt x hx) hv he.pa hn hd (noStar hpl.1) (noStars hpl.2), hr⟩
theorem bt_len : bootBuiltins "len" = some (.builtin "len") := by decide +kernel
theorem bt_abs : bootBuiltins "abs" = some (.builtin "abs") := by decide +kernel
theorem bt_int : bootBuiltins "int" = some (.type "int") := by decide +kernel
theorem bt_bool : bootBuiltins "bool" = some (.type "bool") := by decide +kernel
theorem bt_str : bootBuiltins "str" = some (.type "str") := by decide +kernel
theorem bt_tuple : bootBuiltins "tuple" = some (.type "tuple") := by decide +kernel
theorem bt_list : bootBuiltins "list" = some (.type "list") := by decide +kernel
theorem bt_sorted : bootBuiltins "sorted" = some (.builtin "sorted") := by decide +kernel
theorem bt_sum : bootBuiltins "sum" = some (.builtin "sum") := by decide +kernel
theorem bt_any : bootBuiltins "any" = some (.builtin "any") := by decide +kernel
theorem bt_all : bootBuiltins "all" = some (.builtin "all") := by decide +kernel
theorem bt_max : bootBuiltins "max" = some (.builtin "max") := by decide +kernel
theorem bt_min : bootBuiltins "min" = some (.builtin "min") := by decide +kernel
theorem bt_isi : bootBuiltins "isinstance" = some (.builtin "isinstance") := by decide +kernel
theorem ok_blt {x : Str} {b : Bt} {p pos : Pos} {es : List Expr} {ces : IEs} (G : Gd C c X) (hg : glB c.sc x = true) (hb : bltOf x es.length = some b) (he : PAn X C es ces) : PE X (.Call (.Name x p) es [] pos) (rE X.K C (.blt b ces)) := by
  have h0 : ∀ {n : Nat}, es.length = n + 1 → es ≠ [] := fun h z => by rw [z] at h; cases h
  unfold bltOf at hb
  by_cases g : x = ("len" : Str) ∧ es.length = 1
  · rw [if_pos g] at hb; cases hb; obtain ⟨rfl, hl⟩ := g
    exact ok_bltB G hg (by decide +kernel) (by decide) bt_len rfl (by decide +kernel) (by decide +kernel) (h0 hl) he
  rw [if_neg g] at hb
  by_cases g : x = ("abs" : Str) ∧ es.length = 1
  · rw [if_pos g] at hb; cases hb; obtain ⟨rfl, hl⟩ := g
    exact ok_bltB G hg (by decide +kernel) (by decide) bt_abs rfl (by decide +kernel) (by decide +kernel) (h0 hl) he
  rw [if_neg g] at hb
  by_cases g : x = ("int" : Str) ∧ es.length = 1
  · rw [if_pos g] at hb; cases hb; obtain ⟨rfl, hl⟩ := g
    exact ok_bltT G hg (by decide +kernel) (by decide) bt_int rfl (by decide +kernel) (by decide +kernel) (h0 hl) he
  rw [if_neg g] at hb
  by_cases g : x = ("bool" : Str) ∧ es.length = 1
  · rw [if_pos g] at hb; cases hb; obtain ⟨rfl, hl⟩ := g
    exact ok_bltT G hg (by decide +kernel) (by decide) bt_bool rfl (by decide +kernel) (by decide +kernel) (h0 hl) he
  rw [if_neg g] at hb
  by_cases g : x = ("str" : Str) ∧ es.length = 1
  · rw [if_pos g] at hb; cases hb; obtain ⟨rfl, hl⟩ := g
    exact ok_bltT G hg (by decide +kernel) (by decide) bt_str rfl (by decide +kernel) (by decide +kernel) (h0 hl) he
  rw [if_neg g] at hb
  by_cases g : x = ("tuple" : Str) ∧ es.length = 1
  · rw [if_pos g] at hb; cases hb; obtain ⟨rfl, hl⟩ := g
    exact ok_bltT G hg (by decide +kernel) (by decide) bt_tuple rfl (by decide +kernel) (by decide +kernel) (h0 hl) he
  rw [if_neg g] at hb
  by_cases g : x = ("list" : Str) ∧ es.length = 1
  · rw [if_pos g] at hb; cases hb; obtain ⟨rfl, hl⟩ := g
    exact ok_bltT G hg (by decide +kernel) (by decide) bt_list rfl (by decide +kernel) (by decide +kernel) (h0 hl) he
  rw [if_neg g] at hb
  by_cases g : x = ("sorted" : Str) ∧ es.length = 1
  · rw [if_pos g] at hb; cases hb; obtain ⟨rfl, hl⟩ := g
    exact ok_bltB G hg (by decide +kernel) (by decide) bt_sorted rfl (by decide +kernel) (by decide +kernel) (h0 hl) he
  rw [if_neg g] at hb
  by_cases g : x = ("sum" : Str) ∧ es.length = 1
  · rw [if_pos g] at hb; cases hb; obtain ⟨rfl, hl⟩ := g
    exact ok_bltB G hg (by decide +kernel) (by decide) bt_sum rfl (by decide +kernel) (by decide +kernel) (h0 hl) he
  rw [if_neg g] at hb
  by_cases g : x = ("any" : Str) ∧ es.length = 1
  · rw [if_pos g] at hb; cases hb; obtain ⟨rfl, hl⟩ := g
    exact ok_bltB G hg (by decide +kernel) (by decide) bt_any rfl (by decide +kernel) (by decide +kernel) (h0 hl) he
  rw [if_neg g] at hb
  by_cases g : x = ("all" : Str) ∧ es.length = 1
  · rw [if_pos g] at hb; cases hb; obtain ⟨rfl, hl⟩ := g
    exact ok_bltB G hg (by decide +kernel) (by decide) bt_all rfl (by decide +kernel) (by decide +kernel) (h0 hl) he
  rw [if_neg g] at hb
  by_cases g : x = ("max" : Str) ∧ es.length = 1
  · rw [if_pos g] at hb; cases hb; obtain ⟨rfl, hl⟩ := g
    exact ok_bltB G hg (by decide +kernel) (by decide) bt_max rfl (by decide +kernel) (by decide +kernel) (h0 hl) he
  rw [if_neg g] at hb
  by_cases g : x = ("min" : Str) ∧ es.length = 1
  · rw [if_pos g] at hb; cases hb; obtain ⟨rfl, hl⟩ := g
    exact ok_bltB G hg (by decide +kernel) (by decide) bt_min rfl (by decide +kernel) (by decide +kernel) (h0 hl) he
  rw [if_neg g] at hb
  by_cases g : x = ("max" : Str) ∧ es.length = 2
  · rw [if_pos g] at hb; cases hb; obtain ⟨rfl, hl⟩ := g
    exact ok_bltB G hg (by decide +kernel) (by decide) bt_max rfl (by decide +kernel) (by decide +kernel) (h0 hl) he
  rw [if_neg g] at hb
  by_cases g : x = ("min" : Str) ∧ es.length = 2
  · rw [if_pos g] at hb; cases hb; obtain ⟨rfl, hl⟩ := g
    exact ok_bltB G hg (by decide +kernel) (by decide) bt_min rfl (by decide +kernel) (by decide +kernel) (h0 hl) he
  rw [if_neg g] at hb
  cases hb
/-- list(range(a)) -/
theorem ok_listRange {a : Expr} {ca : IE} {p p2 pos pos2 : Pos} (G : Gd C c X) (hg : glB c.sc ("list" : Str) = true) (hg2 : glB c.sc ("range" : Str) = true) (hp : plainE a = true) (ha : PE X a (rE X.K C ca)) :
    PE X (.Call (.Name "list" p) [.Call (.Name "range" p2) [a] [] pos2] [] pos) (rE X.K C (.blt .listRange (.cons ca .nil))) := by
  refine PE.star fun σ H Q h => ⟨_, pe_listRg G.calm (gl_X G hg) (G.blt _ (by decide +kernel)) (prg_1 (gl_X G hg2) (G.blt _ (by decide +kernel)) ha (noStar hp)), ?_⟩
  obtain ⟨m, ρ, S, d, S', se, sh, hv, q⟩ := h
  simp only [ev, evs] at hv
  obtain ⟨⟨ds, S1⟩, e1, hv⟩ := bind_some hv
  obtain ⟨⟨x, S2⟩, e2, e1⟩ := bind_some e1
  simp only [Option.map_some, Option.some.injEq, Prod.mk.injEq] at e1
  obtain ⟨rfl, rfl⟩ := e1
  refine ⟨m, ρ, S, x, S2, se, sh, e2, fun m1 H1 v x1 sh1 r1 => ?_⟩
  cases x <;> simp only [bltD] at hv <;> try (cases hv; done)
  rename_i i
  obtain ⟨h1, h2⟩ := ite_some hv
  cases h2
  simp only [Bool.and_eq_true, decide_eq_true_eq] at h1
  obtain ⟨hn, hi⟩ := h1
  obtain rfl := int_a r1
  · refine ⟨i, rfl, ⟨by omega, by omega, by omega, by omega, by omega⟩, fun p hp => ?_⟩
    refine q (m1 ++ [p]) _ _ (x1.trans (Ext.alloc hp)) (sh1.alloc hp ⟨_, upd_same, ?_⟩) (rv_ptr sh1)
    have e : rgV 0 i = ((List.range i.toNat).map fun k => ((k : Nat) : Int)).map V.int := by
      unfold rgV
      rw [List.map_map, Int.sub_zero]
      refine List.map_congr_left fun k _ => ?_
      show V.int (0 + (k : Int)) = V.int (k : Int)
      rw [Int.zero_add]
    have e2 : ((List.range i.toNat).map fun k => D.int ((k : Nat) : Int)) = ((List.range i.toNat).map fun k => ((k : Nat) : Int)).map D.int := by rw [List.map_map]; rfl
    rw [e, e2]
    exact RVs.ofInts _
end
end Mi

namespace Mi
open PySem L2
section
variable {X : Cx} {C : CallT} {c : Ct}
theorem attr_ok {o : Expr} {m : Str} {env : PySem.Env} {w : Sem Value} (h : attrOk o = true) : attributeBase o m env w = w := by
  match o, h with
  | .Call (.Name _ _) [] [] _, h => cases h
  | .Call (.Name _ _) (_ :: _) _ _, _ => rfl
  | .Call (.Name _ _) [] (_ :: _) _, _ => rfl
  | .BoolOp .., _ => rfl
  | .NamedExpr .., _ => rfl
  | .BinOp .., _ => rfl
  | .UnaryOp .., _ => rfl
  | .Lambda .., _ => rfl
  | .IfExp .., _ => rfl
  | .Dict .., _ => rfl
  | .Set .., _ => rfl
  | .ListComp .., _ => rfl
  | .SetComp .., _ => rfl
  | .DictComp .., _ => rfl
  | .GeneratorExp .., _ => rfl
  | .Await .., _ => rfl
  | .Yield .., _ => rfl
  | .YieldFrom .., _ => rfl
  | .Compare .., _ => rfl
  | .FormattedValue .., _ => rfl
  | .JoinedStr .., _ => rfl
  | .Constant .., _ => rfl
  | .Attribute .., _ => rfl
  | .Subscript .., _ => rfl
  | .Starred .., _ => rfl
  | .Name .., _ => rfl
  | .List .., _ => rfl
  | .Tuple .., _ => rfl
  | .Slice .., _ => rfl
  | .Call (.BoolOp ..) _ _ _, _ => rfl
  | .Call (.NamedExpr ..) _ _ _, _ => rfl
  | .Call (.BinOp ..) _ _ _, _ => rfl
  | .Call (.UnaryOp ..) _ _ _, _ => rfl
  | .Call (.Lambda ..) _ _ _, _ => rfl
  | .Call (.IfExp ..) _ _ _, _ => rfl
  | .Call (.Dict ..) _ _ _, _ => rfl
  | .Call (.Set ..) _ _ _, _ => rfl
  | .Call (.ListComp ..) _ _ _, _ => rfl
  | .Call (.SetComp ..) _ _ _, _ => rfl
  | .Call (.DictComp ..) _ _ _, _ => rfl
  | .Call (.GeneratorExp ..) _ _ _, _ => rfl
  | .Call (.Await ..) _ _ _, _ => rfl
  | .Call (.Yield ..) _ _ _, _ => rfl
  | .Call (.YieldFrom ..) _ _ _, _ => rfl
  | .Call (.Compare ..) _ _ _, _ => rfl
  | .Call (.Call ..) _ _ _, _ => rfl
  | .Call (.FormattedValue ..) _ _ _, _ => rfl
  | .Call (.JoinedStr ..) _ _ _, _ => rfl
  | .Call (.Constant ..) _ _ _, _ => rfl
  | .Call (.Attribute ..) _ _ _, _ => rfl
  | .Call (.Subscript ..) _ _ _, _ => rfl
  | .Call (.Starred ..) _ _ _, _ => rfl
  | .Call (.List ..) _ _ _, _ => rfl
  | .Call (.Tuple ..) _ _ _, _ => rfl
  | .Call (.Slice ..) _ _ _, _ => rfl
theorem few1 {e : Expr} {env : PySem.Env} {cpos : Pos} (h : plainE e = true) : ((backTo cpos (starEach [e] env)).all (fun x => !x.1) && (backToKw cpos (keywordEach [] env)).all (fun x => x.1.isSome)
    && decide (([e] : List Expr).length + ([] : List Keyword).length + (if ([] : List Keyword).isEmpty then 0 else 1) < 30)) = true := by
  rw [noStar h]
  rfl
theorem few2 {e f : Expr} {env : PySem.Env} {cpos : Pos} (h : plainE e = true) (h2 : plainE f = true) : ((backTo cpos (starEach [e, f] env)).all (fun x => !x.1) && (backToKw cpos (keywordEach [] env)).all (fun x => x.1.isSome)
    && decide (([e, f] : List Expr).length + ([] : List Keyword).length + (if ([] : List Keyword).isEmpty then 0 else 1) < 30)) = true := by
  rw [noStar h, noStar h2]
  rfl
/-- the reading of a method's call -/
theorem rM {mt : Mt} {o : IE} {ces : IEs} {σ : L2.St} {H : Hp} {Q : VK} (h : rE X.K C (.mth mt o ces) σ H Q) (R : V → Hp → (List V → Hp → Prop) → Prop)
    (hR : ∀ m1 H1 S1 x v (P : List V → Hp → Prop), SH X.K m1 H1 S1 → RV X.K H1 m1 x v → rcvOk mt x S1 = true → rEs X.K C ces σ H1 P → (∀ m2 H2 vs S2 ds d S', Ext X.K H1 H2 m1 m2 → SH X.K m2 H2 S2 → RV X.K H2 m2 x v → RVs X.K H2 m2 ds vs → mthD mt x ds S2 = some (d, S') →
      (∀ m' H' v, Ext X.K H2 H' m2 m' → SH X.K m' H' S' → RV X.K H' m' d v → Q v H') → P vs H2) → True) : True := trivial
theorem rMth {mt : Mt} {o : IE} {ces : IEs} {σ : L2.St} {H : Hp} {Q : VK} (h : rE X.K C (.mth mt o ces) σ H Q) (K' : V → Hp → Prop) (R : V → List V → Hp → Prop)
    (hK : ∀ m1 H1 S1 x v, SH X.K m1 H1 S1 → RV X.K H1 m1 x v → rcvOk mt x S1 = true → K' v H1)
    (hR : ∀ m2 H2 S2 x v ds vs d S', SH X.K m2 H2 S2 → RV X.K H2 m2 x v → RVs X.K H2 m2 ds vs → mthD mt x ds S2 = some (d, S') → (∀ m' H' v, Ext X.K H2 H' m2 m' → SH X.K m' H' S' → RV X.K H' m' d v → Q v H') → R v vs H2) :
    rE X.K C o σ H fun v H1 => K' v H1 ∧ rEs X.K C ces σ H1 fun vs H2 => R v vs H2 := by
  obtain ⟨m, ρ, S, d, S', se, sh, hv, q⟩ := h
  simp only [ev] at hv
  obtain ⟨⟨x, S1⟩, e1, hv⟩ := bind_some hv
  obtain ⟨h0, hv⟩ := ite_some hv
  obtain ⟨⟨ds, S2⟩, e2, hv⟩ := bind_some hv
  exact ⟨m, ρ, S, x, S1, se, sh, e1, fun m1 H1 v x1 sh1 r1 => ⟨hK m1 H1 S1 x v sh1 r1 h0, m1, ρ, S1, ds, S2, se.mono x1, sh1, e2, fun m2 H2 vs x2 sh2 r2 =>
    hR m2 H2 S2 x v ds vs d S' sh2 (r1.mono x2) r2 hv fun m' H' v x3 sh3 r3 => q m' H' v ((x1.trans x2).trans x3) sh3 r3⟩⟩
def mtId : Mt → String
  | .append => "list.append"
  | .pop => "list.pop"
  | .popAt => "list.pop"
  | .extend => "list.extend"
  | .insert => "list.insert"
  | .join => "str.join"
  | .get1 => "dict.get"
  | .get2 => "dict.get"
theorem mut_upd {m : List Addr} {H : Hp} {S : Sto} {n : Nat} {a : Addr} {xs : List D} {ys : List V} {zs : List D} {ws : List V} (sh : SH X.K m H S) (ea : m[n]? = some a) (s1 : S[n]? = some (.lst xs)) (w1 : H a = some (.lst ys)) (w2 : RVs X.K H m zs ws) :
    Ext X.K H (upd H a (.lst ws)) m m ∧ SH X.K m (upd H a (.lst ws)) (S.set n (.lst zs)) := by
  have hm : Mut (H a) := by rw [w1]; exact trivial
  exact ⟨Ext.write hm, sh.set ea s1 rfl rfl ⟨_, upd_same, w2.mono (Ext.write hm)⟩⟩
/-- list methods -/
theorem lm_ok {mt : Mt} {m : List Addr} {H : Hp} {S S' : Sto} {x d : D} {v : V} {ds : List D} {vs : List V} {Q : VK} (ht : mt ≠ .join ∧ mt ≠ .get1 ∧ mt ≠ .get2) (sh : SH X.K m H S) (r : RV X.K H m x v) (rs : RVs X.K H m ds vs) (h : mthD mt x ds S = some (d, S'))
    (q : ∀ m' H' v, Ext X.K H H' m m' → SH X.K m' H' S' → RV X.K H' m' d v → Q v H') : ∃ R, MtR X (mtId mt) R ∧ R v vs H Q := by
  unfold mthD at h
  split at h
  · rename_i n y
    obtain ⟨a, ea, rfl⟩ := ptr_a r
    obtain ⟨w, rfl, r1⟩ := rvs1 rs
    obtain ⟨xs, h1, h⟩ := bind_some h
    obtain ⟨h2, h3⟩ := ite_some h
    cases h3
    obtain ⟨s1, ys, w1, w2⟩ := mut_of sh ea h1
    obtain ⟨g1, g2⟩ := mut_upd sh ea s1 w1 (w2.append (RVs.one r1))
    exact ⟨_, mt_append, a, ys, w, rfl, rfl, w1, by rw [← w2.length]; exact of_decide_eq_true h2, q m _ _ g1 g2 rv_non⟩
  · rename_i n
    obtain ⟨a, ea, rfl⟩ := ptr_a r
    obtain ⟨xs, h1, h⟩ := bind_some h
    obtain ⟨y, h2, h3⟩ := map_some h
    cases h3
    have hvs : vs = [] := by
      cases vs with
      | nil => rfl
      | cons a b => simp only [RVs] at rs
    subst hvs
    obtain ⟨s1, ys, w1, w2⟩ := mut_of sh ea h1
    obtain ⟨g1, g2⟩ := mut_upd sh ea s1 w1 w2.dropLast
    obtain ⟨w, w3, w4⟩ := w2.get h2
    exact ⟨_, mt_pop, a, ys, w, rfl, rfl, w1, by rw [← w2.length]; exact w3, q m _ _ g1 g2 (w4.mono g1)⟩
  · rename_i n i
    obtain ⟨a, ea, rfl⟩ := ptr_a r
    obtain ⟨w, rfl, r1⟩ := rvs1 rs
    obtain rfl := int_a r1
    obtain ⟨xs, h1, h⟩ := bind_some h
    obtain ⟨k, h2, h⟩ := bind_some h
    obtain ⟨h3, h⟩ := ite_some h
    obtain ⟨y, h4, h5⟩ := map_some h
    cases h5
    obtain ⟨s1, ys, w1, w2⟩ := mut_of sh ea h1
    obtain ⟨g1, g2⟩ := mut_upd sh ea s1 w1 (w2.eraseIdx k)
    obtain ⟨z, w3, w4⟩ := w2.get h4
    have h3 : xs.length ≤ sizeLine := of_decide_eq_true h3
    rw [w2.length] at h2 h3
    obtain ⟨b1, b2, b3, b4⟩ := ixN_seq h2
    have hsz := sizeLine_eq
    exact ⟨_, mt_popAt, a, ys, i, k, z, rfl, rfl, w1, by omega, by omega, b1, w3, q m _ _ g1 g2 (w4.mono g1)⟩
  · rename_i n k
    obtain ⟨a, ea, rfl⟩ := ptr_a r
    obtain ⟨w, rfl, r1⟩ := rvs1 rs
    obtain ⟨b, eb, rfl⟩ := ptr_a r1
    obtain ⟨xs, h1, h⟩ := bind_some h
    obtain ⟨zs, h2, h⟩ := bind_some h
    obtain ⟨h3, h4⟩ := ite_some h
    cases h4
    obtain ⟨s1, ys, w1, w2⟩ := mut_of sh ea h1
    obtain ⟨s2, us, w3, w4⟩ := mut_of sh eb h2
    obtain ⟨g1, g2⟩ := mut_upd sh ea s1 w1 (w2.append w4)
    exact ⟨_, mt_extend, a, b, ys, us, rfl, rfl, w1, w3, by rw [← w2.length, ← w4.length]; exact of_decide_eq_true h3, q m _ _ g1 g2 rv_non⟩
  · rename_i n i y
    obtain ⟨a, ea, rfl⟩ := ptr_a r
    obtain ⟨w, z, rfl, r1, r2⟩ := rvs2 rs
    obtain rfl := int_a r1
    obtain ⟨xs, h1, h⟩ := bind_some h
    obtain ⟨h2, h3⟩ := ite_some h
    cases h3
    simp only [Bool.and_eq_true, decide_eq_true_eq] at h2
    obtain ⟨s1, ys, w1, w2⟩ := mut_of sh ea h1
    obtain ⟨g1, g2⟩ := mut_upd sh ea s1 w1 (((w2.take i.toNat).append (RVs.one r2)).append (w2.drop i.toNat))
    exact ⟨_, mt_insert, a, ys, i, z, rfl, rfl, w1, by rw [← w2.length]; exact h2.1.1, h2.1.2, h2.2, q m _ _ g1 g2 rv_non⟩
  · exact absurd rfl ht.1
  · exact absurd rfl ht.1
  · exact absurd rfl ht.2.1
  · exact absurd rfl ht.2.2
  · cases h
theorem lm_ty {mt : Mt} {m : List Addr} {H : Hp} {S : Sto} {x : D} {v : V} (ht : mt ≠ .join ∧ mt ≠ .get1 ∧ mt ≠ .get2) (sh : SH X.K m H S) (r : RV X.K H m x v) (h : rcvOk mt x S = true) : tyV X.K "list" v H := by
  cases x with
  | ptr n =>
    obtain ⟨a, ea, rfl⟩ := ptr_a r
    have h' : (mutOf S n).isSome = true := by cases mt <;> first | exact h | exact absurd rfl ht.1 | exact absurd rfl ht.2.1 | exact absurd rfl ht.2.2
    cases e : mutOf S n with
    | none => rw [e] at h'; cases h'
    | some xs =>
      obtain ⟨s1, ys, w1, w2⟩ := mut_of sh ea e
      exact .inl ⟨rfl, ys, .inl (.inl w1)⟩
  | _ => cases mt <;> first | (cases h; done) | exact absurd rfl ht.1
theorem ok_lm1 {mt : Mt} {nm : Str} {o e : Expr} {co ce : IE} {ap cp : Pos} (ht : mt ≠ .join ∧ mt ≠ .get1 ∧ mt ≠ .get2) (sl : Slot "list" nm (mtId mt)) (ty : typeOf (.builtin (mtId mt)) = pure (.type "method_descriptor")) (h0 : attrOk o = true) (hl : (ap.endLine == cp.line) = true) (hp : plainE e = true)
    (ho : PE X o (rE X.K C co)) (he : PE X e (rE X.K C ce)) : PE X (.Call (.Attribute o nm ap) [e] [] cp) (rE X.K C (.mth mt co (.cons ce .nil))) := by
  refine PE.star fun σ H Q h => ⟨_, pe_bm PySem.F.plainAttrs_list sl ty MtR.star ho (ok_cons hp he ok_nil) (attr_ok h0) (few1 hp) hl (noStar hp) rfl, ?_⟩
  exact rMth h (fun v H => tyV X.K "list" v H) (fun v vs H => ∃ R, MtR X (mtId mt) R ∧ R v vs H Q) (fun m1 H1 S1 x v sh r g => lm_ty ht sh r g) fun m2 H2 S2 x v ds vs d S' sh r rs g q => lm_ok ht sh r rs g q
theorem ok_lm2 {mt : Mt} {nm : Str} {o e f : Expr} {co ce cf : IE} {ap cp : Pos} (ht : mt ≠ .join ∧ mt ≠ .get1 ∧ mt ≠ .get2) (sl : Slot "list" nm (mtId mt)) (ty : typeOf (.builtin (mtId mt)) = pure (.type "method_descriptor")) (h0 : attrOk o = true) (hl : (ap.endLine == cp.line) = true) (hp : plainE e = true) (hp2 : plainE f = true)
    (ho : PE X o (rE X.K C co)) (he : PE X e (rE X.K C ce)) (hf : PE X f (rE X.K C cf)) : PE X (.Call (.Attribute o nm ap) [e, f] [] cp) (rE X.K C (.mth mt co (.cons ce (.cons cf .nil)))) := by
  refine PE.star fun σ H Q h => ⟨_, pe_bm PySem.F.plainAttrs_list sl ty MtR.star ho (ok_cons hp he (ok_cons hp2 hf ok_nil)) (attr_ok h0) (few2 hp hp2) hl (noStar hp) (by rw [noStar hp2] <;> rfl), ?_⟩
  exact rMth h (fun v H => tyV X.K "list" v H) (fun v vs H => ∃ R, MtR X (mtId mt) R ∧ R v vs H Q) (fun m1 H1 S1 x v sh r g => lm_ty ht sh r g) fun m2 H2 S2 x v ds vs d S' sh r rs g q => lm_ok ht sh r rs g q
theorem ok_lm0 {mt : Mt} {nm : Str} {o : Expr} {co : IE} {ap cp : Pos} (ht : mt ≠ .join ∧ mt ≠ .get1 ∧ mt ≠ .get2) (sl : Slot "list" nm (mtId mt)) (ty : typeOf (.builtin (mtId mt)) = pure (.type "method_descriptor")) (h0 : attrOk o = true) (hl : (ap.endLine == cp.line) = true)
    (ho : PE X o (rE X.K C co)) : PE X (.Call (.Attribute o nm ap) [] [] cp) (rE X.K C (.mth mt co .nil)) := by
  refine PE.star fun σ H Q h => ⟨_, pe_bm0 PySem.F.plainAttrs_list sl ty MtR.star ho (attr_ok h0) hl, ?_⟩
  obtain ⟨m, ρ, S, d, S', se, sh, hv, q⟩ := h
  simp only [ev, evs] at hv
  obtain ⟨⟨x, S1⟩, e1, hv⟩ := bind_some hv
  obtain ⟨g0, hv⟩ := ite_some hv
  exact ⟨m, ρ, S, x, S1, se, sh, e1, fun m1 H1 v x1 sh1 r1 => ⟨lm_ty ht sh1 r1 g0, lm_ok ht sh1 r1 (ds := []) (by simp [RVs]) hv fun m' H' v x2 sh2 r2 => q m' H' v (x1.trans x2) sh2 r2⟩⟩
theorem ok_join {o e : Expr} {co ce : IE} {ap cp : Pos} (h0 : attrOk o = true) (hl : (ap.endLine == cp.line) = true) (hp : plainE e = true)
    (ho : PE X o (rE X.K C co)) (he : PE X e (rE X.K C ce)) : PE X (.Call (.Attribute o "join" ap) [e] [] cp) (rE X.K C (.mth .join co (.cons ce .nil))) := by
  refine PE.star fun σ H Q h => ⟨_, pe_join ho he (noStar hp) (attr_ok h0) hl, ?_⟩
  have g := rMth h (fun v H => ∃ a, v = .str a) (fun v vs H2 => ∃ y, vs = [y] ∧ ∃ a p, ∃ ys : List Str, v = .str a ∧ [y] = [.ref p] ∧ (SqL X.K H2 p (ys.map V.str) ∨ SqT X.K H2 p (ys.map V.str)) ∧ (ys.map (·.length)).sum + ys.length * a.length ≤ 16777216 ∧ Q (.str (Txt.join a ys)) H2)
    (fun m1 H1 S1 x v sh r g => by
      cases x with
      | str a => exact ⟨a, str_a r⟩
      | _ => cases g) (fun m2 H2 S2 x v ds vs d S' sh r rs g q => by
      unfold mthD at g
      split at g <;> try first | (rename_i heq; cases heq; done) | (cases g; done)
      · rename_i a n _
        obtain rfl := str_a r
        obtain ⟨w, rfl, r1⟩ := rvs1 rs
        obtain ⟨p, ea, rfl⟩ := ptr_a r1
        obtain ⟨xs, h1, g⟩ := bind_some g
        obtain ⟨ys, h2, g⟩ := bind_some g
        obtain ⟨h3, h4⟩ := ite_some g
        cases h4
        obtain ⟨zs, w1, w2⟩ := lst_of sh ea h1
        obtain rfl := w2.strs h2
        exact ⟨_, rfl, a, p, ys, rfl, rfl, .inl w1, of_decide_eq_true h3, q m2 H2 _ Ext.refl sh rv_str⟩
      · rename_i a xs _
        obtain rfl := str_a r
        obtain ⟨w, rfl, r1⟩ := rvs1 rs
        obtain ⟨p, us, rfl, w1, w2⟩ := tup_a r1
        obtain ⟨ys, h2, g⟩ := bind_some g
        obtain ⟨h3, h4⟩ := ite_some g
        cases h4
        obtain rfl := w2.strs h2
        exact ⟨_, rfl, a, p, ys, rfl, rfl, .inr w1, of_decide_eq_true h3, q m2 H2 _ Ext.refl sh rv_str⟩)
  obtain ⟨m, ρ, S, x, S1, se, sh, e1, k⟩ := g
  refine ⟨m, ρ, S, x, S1, se, sh, e1, fun m1 H1 v x1 sh1 r1 => ?_⟩
  obtain ⟨g1, m2, ρ2, S2, ds, S3, se2, sh2, e2, k2⟩ := k m1 H1 v x1 sh1 r1
  simp only [evs] at e2
  obtain ⟨⟨y, S4⟩, e3, e2⟩ := bind_some e2
  simp only [Option.map_some, Option.some.injEq, Prod.mk.injEq] at e2
  obtain ⟨rfl, rfl⟩ := e2
  refine ⟨g1, m2, ρ2, S2, y, S4, se2, sh2, e3, fun m3 H3 w x3 sh3 r3 => ?_⟩
  obtain ⟨y', e4, r⟩ := k2 m3 H3 [w] x3 sh3 (RVs.one r3)
  cases e4
  exact r
theorem get_ty {mt : Mt} {m : List Addr} {H : Hp} {S : Sto} {x : D} {v : V} (ht : mt = .get1 ∨ mt = .get2) (sh : SH X.K m H S) (r : RV X.K H m x v) (h : rcvOk mt x S = true) : ∃ a, v = .ref a ∧ IsD H a := by
  cases x with
  | ptr n =>
    obtain ⟨a, ea, rfl⟩ := ptr_a r
    have h' : (dctOf S n).isSome = true := by rcases ht with rfl | rfl <;> exact h
    cases e : dctOf S n with
    | none => rw [e] at h'; cases h'
    | some xs =>
      obtain ⟨s1, ys, w1, w2⟩ := dct_of sh ea e
      exact ⟨a, rfl, .inl ⟨ys, .inl w1⟩⟩
  | _ => rcases ht with rfl | rfl <;> cases h
theorem ok_get1 {o e : Expr} {co ce : IE} {ap cp : Pos} (G : Gd C c X) (h0 : attrOk o = true) (hl : (ap.endLine == cp.line) = true) (hp : plainE e = true)
    (ho : PE X o (rE X.K C co)) (he : PE X e (rE X.K C ce)) : PE X (.Call (.Attribute o "get" ap) [e] [] cp) (rE X.K C (.mth .get1 co (.cons ce .nil))) := by
  refine PE.star fun σ H Q h => ⟨_, pe_dget1 (by have := G.hu; omega) ho he ⟨attr_ok h0, few1 hp, hl, by rw [noStar hp]; rfl⟩, ?_⟩
  obtain ⟨m, ρ, S, d, S', se, sh, hv, q⟩ := h
  simp only [ev, evs] at hv
  obtain ⟨⟨x, S1⟩, e1, hv⟩ := bind_some hv
  obtain ⟨g0, hv⟩ := ite_some hv
  obtain ⟨⟨ds, S2⟩, e2, hv⟩ := bind_some hv
  obtain ⟨⟨y, S3⟩, e3, e2⟩ := bind_some e2
  simp only [Option.map_some, Option.some.injEq, Prod.mk.injEq] at e2
  obtain ⟨rfl, rfl⟩ := e2
  refine ⟨m, ρ, S, x, S1, se, sh, e1, fun m1 H1 v x1 sh1 r1 => ?_⟩
  obtain ⟨a, rfl, hd⟩ := get_ty (.inl rfl) sh1 r1 g0
  refine ⟨a, rfl, hd, m1, ρ, S1, y, S3, se.mono x1, sh1, e3, fun m2 H2 w x2 sh2 r2 => ?_⟩
  cases x with
  | ptr n =>
    obtain ⟨a', ea, ee⟩ := ptr_a (r1.mono x2)
    cases ee
    obtain ⟨kvs, h1, hv⟩ := bind_some (show ((dctOf S3 n).bind fun kvs => (keyOf y).map fun k => ((getK kvs k).getD D.non, S3)) = some (d, S') from hv)
    obtain ⟨k, h2, h3⟩ := map_some hv
    cases h3
    obtain ⟨s1, ks, w1, w2⟩ := dct_of sh2 ea h1
    obtain rfl := key_ok r2 h2
    refine ⟨_, DGet.k w1, q m2 H2 _ (x1.trans x2) sh2 ?_⟩
    cases hg : getK kvs k with
    | none => rw [(getK_ok k w2).2 hg]; exact rv_non
    | some d =>
      obtain ⟨v, w3, w4⟩ := (getK_ok k w2).1 d hg
      rw [w3]
      exact w4
  | _ => cases g0
theorem ok_get2 {o e f : Expr} {co ce cf : IE} {ap cp : Pos} (G : Gd C c X) (h0 : attrOk o = true) (hl : (ap.endLine == cp.line) = true) (hp : plainE e = true) (hp2 : plainE f = true)
    (ho : PE X o (rE X.K C co)) (he : PE X e (rE X.K C ce)) (hf : PE X f (rE X.K C cf)) : PE X (.Call (.Attribute o "get" ap) [e, f] [] cp) (rE X.K C (.mth .get2 co (.cons ce (.cons cf .nil)))) := by
  refine PE.star fun σ H Q h => ⟨_, pe_dget2 (by have := G.hu; omega) ho he hf ⟨attr_ok h0, few2 hp hp2, hl, by rw [noStar hp, noStar hp2]; rfl⟩, ?_⟩
  obtain ⟨m, ρ, S, d, S', se, sh, hv, q⟩ := h
  simp only [ev, evs] at hv
  obtain ⟨⟨x, S1⟩, e1, hv⟩ := bind_some hv
  obtain ⟨g0, hv⟩ := ite_some hv
  obtain ⟨⟨ds, S2⟩, e2, hv⟩ := bind_some hv
  obtain ⟨⟨y, S3⟩, e3, e2⟩ := bind_some e2
  obtain ⟨⟨zs, S4⟩, e4, e2⟩ := map_some e2
  obtain ⟨⟨z, S5⟩, e5, e4⟩ := bind_some e4
  simp only [Option.map_some, Option.some.injEq, Prod.mk.injEq] at e4
  obtain ⟨rfl, rfl⟩ := e4
  cases e2
  refine ⟨m, ρ, S, x, S1, se, sh, e1, fun m1 H1 v x1 sh1 r1 => ?_⟩
  obtain ⟨a, rfl, hd⟩ := get_ty (.inr rfl) sh1 r1 g0
  refine ⟨a, rfl, hd, m1, ρ, S1, y, S3, se.mono x1, sh1, e3, fun m2 H2 w x2 sh2 r2 => ⟨m2, ρ, S3, z, S5, (se.mono x1).mono x2, sh2, e5, fun m3 H3 u x3 sh3 r3 => ?_⟩⟩
  cases x with
  | ptr n =>
    obtain ⟨a', ea, ee⟩ := ptr_a ((r1.mono x2).mono x3)
    cases ee
    obtain ⟨kvs, h1, hv⟩ := bind_some (show ((dctOf S5 n).bind fun kvs => (keyOf y).map fun k => ((getK kvs k).getD z, S5)) = some (d, S') from hv)
    obtain ⟨k, h2, h3⟩ := map_some hv
    cases h3
    obtain ⟨s1, ks, w1, w2⟩ := dct_of sh3 ea h1
    obtain rfl := key_ok (r2.mono x3) h2
    refine ⟨_, DGet.k w1, q m3 H3 _ ((x1.trans x2).trans x3) sh3 ?_⟩
    cases hg : getK kvs k with
    | none => rw [(getK_ok k w2).2 hg]; exact r3
    | some d =>
      obtain ⟨v, w3, w4⟩ := (getK_ok k w2).1 d hg
      rw [w3]
      exact w4
  | _ => cases g0
end
end Mi

namespace Mi
open PySem L2
def tyS : Ty → String
  | .int => "int"
  | .bool => "bool"
  | .str => "str"
  | .tuple => "tuple"
  | .list => "list"
  | .tupleList => "list"
/-- the kind's own name; None's -/
def tyN : Option Ty → String
  | some t => tyS t
  | none => "NoneType"
theorem kit_all (K : PySem.W.Frag) (u : Option Ty) (t : Ty) : PySem.W.kitOne K (.type (tyN u)) (.type (tyS t)) = some (match u with
    | none => false
    | some u => match t with
      | .int => decide (u = .int) || decide (u = .bool)
      | .tupleList => decide (tyS u = "list")
      | t => decide (tyS u = tyS t)) := by
  refine kit_ty ?_
  cases u with
  | none => cases t <;> decide +kernel
  | some u => cases u <;> cases t <;> decide +kernel
section
variable {X : Cx} {C : CallT} {c : Ct}
theorem sqT_ty {K : PySem.W.Frag} {H : Hp} {a : Addr} {xs : List V} (h : SqT K H a xs) : TyX K H (.ref a) (.type "tuple") := by
  rcases h with (h | ⟨o, h⟩) | ⟨o, its, n, h1, h2, _⟩
  · exact .base (.tup h)
  · exact .fTuple h
  · exact .kTuple h1 h2
theorem ty_of {m : List Addr} {H : Hp} {S : Sto} {d : D} {v : V} {u : Ty} (sh : SH X.K m H S) (r : RV X.K H m d v) (h : tyOf d S = some u) : TyX X.K H v (.type (tyS u)) ∧ u ≠ .tupleList := by
  cases d with
  | non => cases h
  | bl b => cases h; obtain rfl := bl_a r; exact ⟨.base (.bl b), by decide⟩
  | int i => cases h; obtain rfl := int_a r; exact ⟨.base (.int i), by decide⟩
  | str x => cases h; obtain rfl := str_a r; exact ⟨.base (.str x), by decide⟩
  | tup xs => cases h; obtain ⟨a, ys, rfl, w1, w2⟩ := tup_a r; exact ⟨sqT_ty w1, by decide⟩
  | ptr n =>
    obtain ⟨a, ea, rfl⟩ := ptr_a r
    simp only [tyOf] at h
    split at h
    · rename_i xs s1
      cases h
      obtain ⟨ys, w1, w2⟩ := sh.obj n a _ ea s1
      exact ⟨.base (.lst w1), by decide⟩
    · cases h
theorem isi_one {m : List Addr} {H : Hp} {S : Sto} {d : D} {v : V} {t : Ty} {b : Bool} (ht : t ≠ .tupleList) (sh : SH X.K m H S) (r : RV X.K H m d v) (h : isiD d t S = some b) : ∃ ty, TyX X.K H v ty ∧ PySem.W.kitOne X.K ty (.type (tyS t)) = some b := by
  cases hd : d with
  | non =>
    subst hd
    obtain rfl := non_a r
    simp only [isiD, Option.some.injEq] at h
    subst h
    exact ⟨_, .base .non, kit_all X.K none t⟩
  | _ =>
    have h' : (tyOf d S).map (fun u => isT t u) = some b := by subst hd; exact h
    obtain ⟨u, h1, h2⟩ := map_some h'
    obtain ⟨g1, g2⟩ := ty_of sh r h1
    subst hd
    refine ⟨_, g1, (kit_all X.K (some u) t).trans ?_⟩
    rw [← h2]
    cases t <;> cases u <;> first | rfl | exact absurd rfl ht | exact absurd rfl g2 | decide
theorem isi_two {m : List Addr} {H : Hp} {S : Sto} {d : D} {v : V} {b : Bool} (sh : SH X.K m H S) (r : RV X.K H m d v) (h : isiD d .tupleList S = some b) : ∃ ty, TyX X.K H v ty ∧ PySem.W.kitAny X.K ty [.type "tuple", .type "list"] = some b := by
  have fin : ∀ {ty : Value} {b1 b2 : Bool}, PySem.W.kitOne X.K ty (.type "tuple") = some b1 → PySem.W.kitOne X.K ty (.type "list") = some b2 → (b1 || b2) = b → PySem.W.kitAny X.K ty [.type "tuple", .type "list"] = some b := fun {ty b1 b2} h1 h2 e => by
    refine kitAny_cons h1 (fun z => kitAny_cons h2 (fun z2 => ?_) fun z2 => ?_) fun z => ?_
    · subst z z2 e; rfl
    · subst z2; rw [← e, Bool.or_true]
    · subst z; rw [← e, Bool.true_or]
  cases hd : d with
  | non =>
    subst hd
    obtain rfl := non_a r
    simp only [isiD, Option.some.injEq] at h
    subst h
    exact ⟨_, .base .non, fin (kit_all X.K none .tuple) (kit_all X.K none .list) rfl⟩
  | _ =>
    have h' : (tyOf d S).map (fun u => isT .tupleList u) = some b := by subst hd; exact h
    obtain ⟨u, h1, h2⟩ := map_some h'
    obtain ⟨g1, g2⟩ := ty_of sh r h1
    subst hd
    refine ⟨_, g1, fin (kit_all X.K (some u) .tuple) (kit_all X.K (some u) .list) ?_⟩
    rw [← h2]
    cases u <;> first | rfl | exact absurd rfl g2 | decide
def tyV1 : Ty → V
  | .int => .ty "int"
  | .bool => .ty "bool"
  | .str => .ty "str"
  | .tuple => .ty "tuple"
  | .list => .ty "list"
  | .tupleList => .ty "list"
theorem tyName {x : Str} {p : Pos} {t : Ty} (G : Gd C c X) (h : tyIx c.sc (.Name x p) = some t) : PE X (.Name x p) (tC (tyV1 t)) ∧ t ≠ .tupleList := by
  simp only [tyIx] at h
  obtain ⟨hg, h⟩ := ite_some h
  by_cases g : x = ("int" : Str)
  · rw [if_pos g] at h; cases h; subst g
    exact ⟨pe_bltn (gl_X G hg) (G.blt _ (by decide +kernel)) bt_int rfl, by decide⟩
  rw [if_neg g] at h
  by_cases g : x = ("bool" : Str)
  · rw [if_pos g] at h; cases h; subst g
    exact ⟨pe_bltn (gl_X G hg) (G.blt _ (by decide +kernel)) bt_bool rfl, by decide⟩
  rw [if_neg g] at h
  by_cases g : x = ("str" : Str)
  · rw [if_pos g] at h; cases h; subst g
    exact ⟨pe_bltn (gl_X G hg) (G.blt _ (by decide +kernel)) bt_str rfl, by decide⟩
  rw [if_neg g] at h
  by_cases g : x = ("tuple" : Str)
  · rw [if_pos g] at h; cases h; subst g
    exact ⟨pe_bltn (gl_X G hg) (G.blt _ (by decide +kernel)) bt_tuple rfl, by decide⟩
  rw [if_neg g] at h
  by_cases g : x = ("list" : Str)
  · rw [if_pos g] at h; cases h; subst g
    exact ⟨pe_bltn (gl_X G hg) (G.blt _ (by decide +kernel)) bt_list rfl, by decide⟩
  rw [if_neg g] at h
  cases h
theorem ok_isi {a t : Expr} {p pos : Pos} {ca : IE} {ty : Ty} (G : Gd C c X) (hg : glB c.sc ("isinstance" : Str) = true) (hp : plainE a = true) (ht : tyIx c.sc t = some ty) (ha : PE X a (rE X.K C ca)) :
    PE X (.Call (.Name "isinstance" p) [a, t] [] pos) (rE X.K C (.isi ca ty)) := by
  have hm : X.mg "isinstance" = none := G.blt _ (by decide +kernel)
  refine PE.star fun σ H Q h => ?_
  obtain ⟨m, ρ, S, d, S', se, sh, hv, q⟩ := h
  simp only [ev] at hv
  obtain ⟨⟨x, S1⟩, e1, hv⟩ := bind_some hv
  obtain ⟨b, e2, e3⟩ := map_some hv
  cases e3
  match t, ht with
  | .Name y py, ht =>
    obtain ⟨h1, h2⟩ := tyName G ht
    refine ⟨_, pe_callB call_isi (gl_X G hg) hm bt_isi (pa_cons ha (pa_cons h1 pa_nil) (noStar hp)) (by decide +kernel) (by decide +kernel) (noStar hp) rfl, m, ρ, S, x, S1, se, sh, e1, fun m1 H1 v x1 sh1 r1 => ?_⟩
    obtain ⟨w, g1, g2⟩ := isi_one h2 sh1 r1 e2
    refine ⟨v, tyV1 ty, w, .type (tyS ty), b, rfl, ?_, g1, g2, q m1 H1 _ x1 sh1 rv_bl⟩
    cases ty <;> exact .ty _
  | .Tuple [.Name y py, .Name z pz] k pt, ht =>
    simp only [tyIx] at ht
    obtain ⟨hg2, ht⟩ := ite_some ht
    obtain ⟨⟨rfl, rfl⟩, ht⟩ := ite_some ht
    cases ht
    simp only [Bool.and_eq_true] at hg2
    have p1 : PE X (.Name "tuple" py) (tC (.ty "tuple")) := pe_bltn (gl_X G hg2.1) (G.blt _ (by decide +kernel)) bt_tuple rfl
    have p2 : PE X (.Name "list" pz) (tC (.ty "list")) := pe_bltn (gl_X G hg2.2) (G.blt _ (by decide +kernel)) bt_list rfl
    refine ⟨_, pe_callB call_isiT (gl_X G hg) hm bt_isi (pa_cons ha (pa_cons (pe_tup (pa_cons p1 (pa_cons p2 pa_nil))) pa_nil) (noStar hp)) (by decide +kernel) (by decide +kernel) (noStar hp) rfl, m, ρ, S, x, S1, se, sh, e1, fun m1 H1 v x1 sh1 r1 => ?_⟩
    refine ⟨by show 2 ≤ sizeLine; decide, fun T hT => ?_⟩
    obtain ⟨w, g1, g2⟩ := isi_two (sh1.tmp (u := .tup [.ty "tuple", .ty "list"]) hT) (r1.mono (Ext.fresh hT)) e2
    exact ⟨v, T, _, w, _, b, rfl, upd_same, .cons (.ty _) (.cons (.ty _) .nil), g1, g2, q m1 _ _ (x1.trans (Ext.fresh hT)) (sh1.tmp hT) rv_bl⟩
end
end Mi

namespace Mi
open PySem L2 PySem.Spec PyProof.Rows
/-! ### enumerate(tuple) -/
theorem meets_enum_newT (l : Addr) (items : Array Value) :
    Meets (Builtin.«enumerate.__new__» ⟨[.type "enumerate", .ref l], []⟩) (fun _ R s => s.heap.IsTuple l items ∧
      R (.ok (.ret (.ref (s.heap.push { cls := .type "tuple_iterator", data := .fields #[.ref l, .int 0 0] }).objs.size)))
        { s with heap := (s.heap.push { cls := .type "tuple_iterator", data := .fields #[.ref l, .int 0 0] }).push { cls := .type "enumerate", data := .fields #[.none, .bool false, .ref s.heap.objs.size, rawInt 0, .none, .none] } }) :=
  .of_wp fun prog w A R s h => by
    obtain ⟨hp, g, d, tk, os⟩ := s
    obtain ⟨hL, h⟩ := h
    have hsub := sub_enumerate
    have q1 : ∀ {A' : Around} {E : Value → Shared → Prop} {Q : Value → Shared → Prop}, Q (.ref hp.objs.size) ⟨(hp.push { cls := .type "tuple_iterator", data := .fields #[.ref l, .int 0 0] }), g, d, tk, os⟩ → wpAny (model prog w) A' (pyIter (.ref l)) Q E ⟨hp, g, d, tk, os⟩ :=
      fun q => wpAny_pyIter_tuple hL q
    wp_walk using q1
    refine wpAny_stack_any fun st => wpAny_pure ?_
    split
    · rename_i c _ _ _ _ _
      cases (c == Value.type "enumerate")
      · wp_walk using q1
        exact ⟨_, rfl, h⟩
      · wp_walk using q1
        exact ⟨_, rfl, h⟩
    · wp_walk using q1
      exact ⟨_, rfl, h⟩
theorem call_enum_tup {prog : Program} {w : World} {A : Around} {E : Value → Shared → Prop} {s : Shared} {l : Addr} {items : Array Value} {Q : Value → Shared → Prop} (hL : s.heap.IsTuple l items)
    (h : ∀ h', IsEnum h' (s.heap.objs.size + 1) s.heap.objs.size 0 .none → h'.IsTupleIter s.heap.objs.size l 0 → (∀ b o, s.heap.get? b = some o → h'.get? b = some o) → Q (.ref (s.heap.objs.size + 1)) { s with heap := h' }) :
    wpAny (model prog w) A (call (.type "enumerate") [.ref l]) Q E s := by
  refine callType_new F.called_enumerate (by decide) (F.typeCall_enumerate_1 _) (F.newCall_enumerate_1 _) (fun obj => F.args_object_init_2 obj _) F.entry_enumerate_new
    (meets_enum_newT l items) ⟨hL, ?_⟩
  have hz : (s.heap.push { cls := .type "tuple_iterator", data := .fields #[.ref l, .int 0 0] }).objs.size = s.heap.objs.size + 1 := Heap.size_push ..
  show _ ∧ _
  rw [hz]
  have he : IsEnum ((s.heap.push { cls := .type "tuple_iterator", data := .fields #[.ref l, .int 0 0] }).push
      { cls := .type "enumerate", data := .fields #[.none, .bool false, .ref s.heap.objs.size, rawInt 0, .none, .none] }) (s.heap.objs.size + 1) s.heap.objs.size 0 .none := by
    have := Heap.get?_push_size (s.heap.push { cls := .type "tuple_iterator", data := .fields #[.ref l, .int 0 0] })
      (o := { cls := .type "enumerate", data := .fields #[.none, .bool false, .ref s.heap.objs.size, rawInt 0, .none, .none] }) rfl
    rw [hz] at this; exact this
  exact ⟨⟨_, he, rfl⟩, h _ he ⟨_, Heap.get?_push_of_some _ (Heap.get?_push_size _ rfl), rfl, rfl⟩ fun b o x => Heap.get?_push_of_some _ (Heap.get?_push_of_some _ x)⟩
theorem enum_tup_end {prog : Program} {w : World} {A : Around} {E : Value → Shared → Prop} {s : Shared} {e it l : Addr} {i : Nat} {items : Array Value} {old : Value} {Q : Option Value → Shared → Prop} (hh : A.handled = none)
    (he : IsEnum s.heap e it i old) (hit : s.heap.IsTupleIter it l i) (hl : s.heap.IsTuple l items) (hx : items[i]? = none)
    (hQ : ∀ h', Heap.ExtBut it s.heap h' → Q none { s with heap := h' }) : wpAny (model prog w) A (pyNext (.ref e)) Q E s := by
  have hT : s.TypeIs (.ref e) "enumerate" := ⟨_, he, rfl⟩
  unfold pyNext
  refine wpAny_bind (wpAny_attempt (wpAny_callSpecial?_slot (name := Str.ofString "__next__") hT F.slot_enumerate_next
    (wpAny_call_entry F.slot_enumerate_next hT F.entry_enumerate_next ?_ (F.args_enumerate_next_1 _))))
  show wpAny _ _ (field (.ref e) 2 >>= _) _ _ _
  refine wpAny_bind (wpAny_field he rfl (x := .ref it) rfl ?_)
  refine wpAny_bind (wpAny_nextOf_tuple_end hh hit hl hx fun h' x he' hx' => ?_)
  obtain ⟨o, ho, hc⟩ := hx'
  refine wpAny_bind (wpAny_isInstance (T := "StopIteration") (b := true) ⟨o, ho, hc⟩ isSubtype_stop ?_)
  exact wpAny_pure (hQ _ he')
def IteT (K : PySem.W.Frag) (a : Addr) : It :=
  ⟨fun i H => ∃ (xs : List V) (x : V), SqT K H a xs ∧ xs[i]? = some x, fun i H v H' => ∃ T x, v = .ref T ∧ H T = none ∧ H' = upd H T (.tup [.int (i : Nat), x]) ∧ ∀ xs, SqT K H a xs → xs[i]? = some x, fun i H => ∃ xs : List V, SqT K H a xs ∧ xs.length ≤ i⟩
theorem turn_enumT {P : Program} {w : World} {K : PySem.W.Frag} {elts : List Expr} {kk : Nat} {tpos : Pos} (a e it : Addr) :
    Turn P w K (.Tuple elts kk tpos) (IteT K a) [e, it] e (fun i h => (∃ old, IsEnum h e it ((i : Nat) : Int) old) ∧ h.IsTupleIter it a i ∧ e ≠ it) where
  mem := by simp
  obj := fun i h st b hb => by
    obtain ⟨⟨old, he⟩, ⟨o, ho, hc, hd⟩, _⟩ := st
    have e' : b = e ∨ b = it := by simpa using hb
    rcases e' with z | z
    · rw [z]; exact ⟨_, he, fun v q => nomatch q⟩
    · rw [z]; exact ⟨o, ho, fun v q => by rw [hd] at q; cases q⟩
  keep := fun i h h' st k => let ⟨⟨old, he⟩, hi, hne⟩ := st; ⟨⟨old, k e (by simp) _ he⟩, hi.at fun o q => k it (by simp) o q, hne⟩
  item := by
    intro X hP hw hK hc i pins s σ H E I hf st hg
    subst hP hw hK
    obtain ⟨⟨old, he⟩, hit, hne⟩ := st
    obtain ⟨xs, x, hq, hx⟩ := hg
    obtain ⟨its, rv, p, hz⟩ := I.tuple hq
    obtain ⟨u, hu, ru⟩ := rv.get hx
    have hT0 : s.heap.IsTuple a its.toArray := p
    have hae : e ≠ a := by
      rintro rfl
      obtain ⟨o, ho, hc', _⟩ := id hT0
      rw [he] at ho
      cases ho
      exact absurd (show Value.type "enumerate" = Value.type "tuple" from hc') (by decide)
    have hai : a ≠ it := by
      rintro rfl
      obtain ⟨o, ho, hc', _⟩ := id hT0
      obtain ⟨o2, ho2, hc2, _⟩ := id hit
      rw [ho] at ho2
      cases ho2
      rw [hc'] at hc2
      exact absurd hc2 (by decide)
    have hel : e < s.heap.objs.size := Heap.lt_size he
    have hil : it < s.heap.objs.size := by obtain ⟨_, q, _⟩ := hit; exact Heap.lt_size q
    have hlt : i < its.toArray.size := by
      have h1 := (List.getElem?_eq_some_iff.mp hu).1
      simpa using h1
    refine wpAny_pyNext_enum_itemD (Draws.tuple (A := X.A.in1) (I.ok.hd hc) it a hai its.toArray) he ⟨hit, hT0⟩ hlt hne (by simp [hne, hae]) fun y h' tk hy ho hst' hT hsz hk => ?_
    have hyu : y = u := by
      have h1 : its.toArray[i]? = some u := by simpa using hu
      rw [h1] at hy
      exact (Option.some.inj hy).symm
    subst hyu
    refine ⟨_, rfl, wpAny_letOwnedTupleGo_enum (s := { s with heap := h', toks := tk + 1 }) ho fun h'' he' sb => ?_⟩
    have hT2 : h''.get? s.heap.objs.size = some { cls := .type "tuple", data := .seq #[.int i tk, y] } := (sb.2 _ (Nat.ne_of_gt hel)).trans hT
    have new : ObjOk X.prog X.w (upd H s.heap.objs.size (.tup [.int (i : Nat), x])) h'' s.heap.objs.size (.tup [.int (i : Nat), x]) :=
      ⟨by show 2 ≤ sizeLine; decide, [.int i tk, y], .cons ⟨_, rfl⟩ (.cons ru .nil), ⟨_, hT2, rfl, _, rfl⟩⟩
    have I1 : Inv X pins σ (upd H s.heap.objs.size (.tup [.int (i : Nat), x])) { s with heap := h'', toks := tk + 1 } :=
      I.turnedNew (ch := [e, it]) (fun b ob hb q => (sb.2 b (fun z => hb (by simp [z]))).trans (hk b ob (fun z => hb (by simp [z])) (fun z => hb (by simp [z])) q)) hf (Nat.le_refl _) new
    refine ⟨.ref s.heap.objs.size, _, I1, rfl, ⟨_, x, rfl, I.hok.fresh (Nat.le_refl _), rfl, fun ys hy => by rw [I.tuple_inj hy hq]; exact hx⟩, ⟨⟨y, ?_⟩, hst'.1.at fun o q => (sb.2 it (Ne.symm hne)).trans q, hne⟩, fun b hb => ?_⟩
    · have e1 : ((i + 1 : Nat) : Int) = (i : Int) + 1 := by omega
      rw [e1]; exact he'
    · have hb' : b < s.heap.objs.size := by
        have e' : b = e ∨ b = it := by simpa using hb
        rcases e' with z | z
        · rw [z]; exact hel
        · rw [z]; exact hil
      rw [upd_ne (Nat.ne_of_lt hb')]
      exact (hf b hb).1
  done := by
    intro X hP hw hK hc i pins s σ H E I hf st hg
    subst hP hw hK
    obtain ⟨⟨old, he⟩, hit, hne⟩ := st
    obtain ⟨xs, hq, hx⟩ := hg
    obtain ⟨its, rv, p, hz⟩ := I.tuple hq
    obtain ⟨f0, f1, f2, f3, f4, f5⟩ := hf it (by simp)
    have hl := rv.length
    have hT0 : s.heap.IsTuple a its.toArray := p
    have hai : a ≠ it := by
      rintro rfl
      obtain ⟨o, ho, hc', _⟩ := id hT0
      obtain ⟨o2, ho2, hc2, _⟩ := id hit
      rw [ho] at ho2
      cases ho2
      rw [hc'] at hc2
      exact absurd hc2 (by decide)
    refine enum_tup_end (I.ok.hd hc) he hit hT0 (by simp; omega) fun h' eb => ⟨rfl, I.turned (t' := s.toks) (fun b o hb q => eb b o hb q) f0 f1 f3 f4 f5⟩
  self := fun A i s Q E st h => let ⟨⟨_, he⟩, _⟩ := st; wpAny_pyIter_enum he h

section
variable {X : Cx} {tg : Expr} {C : CallT} {c : Ct}
theorem evs_1 {ce : IE} {ρ : Env} {S S1 : Sto} {d : D} (h : ev C ce ρ S = some (d, S1)) : evs C (.cons ce .nil) ρ S = some ([d], S1) := by simp only [evs, h, Option.bind_some, Option.map_some]
theorem evs_2 {ce cf : IE} {ρ : Env} {S S1 S2 : Sto} {d e : D} (h : ev C ce ρ S = some (d, S1)) (h2 : ev C cf ρ S1 = some (e, S2)) : evs C (.cons ce (.cons cf .nil)) ρ S = some ([d, e], S2) := by simp only [evs, h, h2, Option.bind_some, Option.map_some]
theorem RVs.one_a {K : PySem.W.Frag} {H : Hp} {m : List Addr} {d : D} {vs : List V} (h : RVs K H m [d] vs) : ∃ v, vs = [v] ∧ RV K H m d v := by
  cases vs with
  | nil => simp only [RVs] at h
  | cons v r =>
    cases r with
    | nil => simp only [RVs] at h; exact ⟨v, rfl, h.1⟩
    | cons => simp only [RVs] at h; exact h.2.elim
theorem RVs.two_a {K : PySem.W.Frag} {H : Hp} {m : List Addr} {d e : D} {vs : List V} (h : RVs K H m [d, e] vs) : ∃ v w, vs = [v, w] ∧ RV K H m d v ∧ RV K H m e w := by
  cases vs with
  | nil => simp only [RVs] at h
  | cons v r =>
    simp only [RVs] at h
    obtain ⟨w, rfl, q⟩ := RVs.one_a (d := e) h.2
    exact ⟨v, w, rfl, h.1, q⟩
/-! ### the walks' turns -/
theorem itr_list {H0 : Hp} {m : List Addr} {n : Nat} {a : Addr} (ea : m[n]? = some a) : ITR X.K H0 m (.ptr n) (Itl X.K a) := by
  intro m1 H S i e sh
  have ea' := e.pre _ _ ea
  refine ⟨fun h => ?_, fun d h => ?_⟩
  · simp only [itm] at h
    obtain ⟨ds, h1, h2⟩ := map_some h
    obtain ⟨xs, w1, w2⟩ := lst_of (X := X) sh ea' h1
    exact ⟨xs, w1, by have := w2.length; rw [List.getElem?_eq_none_iff] at h2; omega⟩
  · simp only [itm] at h
    obtain ⟨ds, h1, h2⟩ := map_some h
    obtain ⟨xs, w1, w2⟩ := lst_of (X := X) sh ea' h1
    obtain ⟨v, w3, w4⟩ := w2.get h2
    refine ⟨⟨xs, v, w1, w3⟩, fun x H' hy => ?_⟩
    obtain ⟨rfl, hy⟩ := hy
    have := hy xs w1
    rw [w3] at this
    cases this
    exact ⟨Ext.refl, sh, w4⟩
theorem itr_tup {H0 : Hp} {m : List Addr} {a : Addr} {ds : List D} {xs : List V} (w1 : SqT X.K H0 a xs) (w2 : RVs X.K H0 m ds xs) : ITR X.K H0 m (.tup ds) (Itt X.K a) := by
  intro m1 H S i e sh
  have w1' := e.tup _ _ w1
  have w2' := w2.mono e
  refine ⟨fun h => ?_, fun d h => ?_⟩
  · simp only [itm, Option.some.injEq] at h
    exact ⟨xs, w1', by have := w2.length; rw [List.getElem?_eq_none_iff] at h; omega⟩
  · simp only [itm, Option.some.injEq] at h
    obtain ⟨v, w3, w4⟩ := w2'.get h
    refine ⟨⟨xs, v, w1', w3⟩, fun x H' hy => ?_⟩
    obtain ⟨rfl, hy⟩ := hy
    have := hy xs w1'
    rw [w3] at this
    cases this
    exact ⟨Ext.refl, sh, w4⟩
theorem itr_str {H0 : Hp} {m : List Addr} {z : Str} : ITR X.K H0 m (.str z) (Its z) := by
  intro m1 H S i e sh
  have ez : z.cps.toList[i]? = z.cps[i]? := by simp
  refine ⟨fun h => ?_, fun d h => ?_⟩
  · simp only [itm, Option.some.injEq, Option.map_eq_none_iff, ez] at h
    exact Array.getElem?_eq_none_iff.mp h
  · simp only [itm, Option.some.injEq, ez] at h
    obtain ⟨ch, h1, h2⟩ := map_some h
    refine ⟨(Array.getElem?_eq_some_iff.mp h1).1, fun x H' hy => ?_⟩
    obtain ⟨rfl, ch', h3, rfl⟩ := hy
    rw [h1] at h3
    cases h3
    subst h2
    exact ⟨Ext.refl, sh, by simp only [RV]⟩
theorem itr_rng {H0 : Hp} {m : List Addr} {lo : Int} {n : Nat} : ITR X.K H0 m (.rng lo n) (Itr lo n) := by
  intro m1 H S i e sh
  refine ⟨fun h => ?_, fun d h => ?_⟩
  · simp only [itm, Option.some.injEq] at h
    by_cases hi : i < n
    · rw [if_pos hi] at h; cases h
    · exact Nat.le_of_not_lt hi
  · simp only [itm, Option.some.injEq] at h
    obtain ⟨h1, h2⟩ := ite_some h
    cases h2
    refine ⟨h1, fun x H' hy => ?_⟩
    obtain ⟨rfl, rfl⟩ := hy
    exact ⟨Ext.refl, sh, by simp only [RV]⟩
theorem new_pair {K : PySem.W.Frag} {m1 : List Addr} {H : Hp} {S : Sto} {T : Addr} {d e : D} {x y : V} (sh : SH K m1 H S) (hT : H T = none) (r1 : RV K H m1 d x) (r2 : RV K H m1 e y) :
    Ext K H (upd H T (.tup [x, y])) m1 m1 ∧ SH K m1 (upd H T (.tup [x, y])) S ∧ RV K (upd H T (.tup [x, y])) m1 (.tup [d, e]) (.ref T) := by
  refine ⟨Ext.fresh hT, sh.tmp hT, ?_⟩
  simp only [RV]
  exact ⟨T, _, rfl, .inl (.inl upd_same), RVs.two (r1.mono (Ext.fresh hT)) (r2.mono (Ext.fresh hT))⟩
theorem itr_enmP {H0 : Hp} {m : List Addr} {n : Nat} {a : Addr} (ea : m[n]? = some a) : ITR X.K H0 m (.enmP n) (Ite X.K a) := by
  intro m1 H S i e sh
  have ea' := e.pre _ _ ea
  refine ⟨fun h => ?_, fun d h => ?_⟩
  · simp only [itm] at h
    obtain ⟨ds, h1, h2⟩ := map_some h
    obtain ⟨xs, w1, w2⟩ := lst_of (X := X) sh ea' h1
    rw [Option.map_eq_none_iff] at h2
    exact ⟨xs, w1, by have := w2.length; rw [List.getElem?_eq_none_iff] at h2; omega⟩
  · simp only [itm] at h
    obtain ⟨ds, h1, h2⟩ := map_some h
    obtain ⟨d', h5, h3⟩ := map_some h2
    subst h3
    obtain ⟨xs, w1, w2⟩ := lst_of (X := X) sh ea' h1
    obtain ⟨v, w3, w4⟩ := w2.get h5
    refine ⟨⟨xs, v, w1, w3⟩, fun x H' hy => ?_⟩
    obtain ⟨T, y, rfl, hT, rfl, hy⟩ := hy
    have := hy xs w1
    rw [w3] at this
    cases this
    exact new_pair sh hT (by simp only [RV]) w4
theorem itr_enmT {H0 : Hp} {m : List Addr} {a : Addr} {ds : List D} {xs : List V} (w1 : SqT X.K H0 a xs) (w2 : RVs X.K H0 m ds xs) : ITR X.K H0 m (.enmT ds) (IteT X.K a) := by
  intro m1 H S i e sh
  have w1' := e.tup _ _ w1
  have w2' := w2.mono e
  refine ⟨fun h => ?_, fun d h => ?_⟩
  · simp only [itm, Option.some.injEq, Option.map_eq_none_iff] at h
    exact ⟨xs, w1', by have := w2.length; rw [List.getElem?_eq_none_iff] at h; omega⟩
  · simp only [itm, Option.some.injEq] at h
    obtain ⟨d', h2, h3⟩ := map_some h
    subst h3
    obtain ⟨v, w3, w4⟩ := w2'.get h2
    refine ⟨⟨xs, v, w1', w3⟩, fun x H' hy => ?_⟩
    obtain ⟨T, y, rfl, hT, rfl, hy⟩ := hy
    have := hy xs w1'
    rw [w3] at this
    cases this
    exact new_pair sh hT (by simp only [RV]) w4
theorem pair_none {ds es : List D} {i : Nat} {n k : Nat} (hn : ds.length = n) (hk : es.length = k) (h : (match ds[i]?, es[i]? with | some x, some y => some (D.tup [x, y]) | _, _ => none) = none) : n ≤ i ∨ k ≤ i := by
  subst hn hk
  cases h1 : ds[i]? with
  | none => exact .inl (List.getElem?_eq_none_iff.mp h1)
  | some x =>
    cases h2 : es[i]? with
    | none => exact .inr (List.getElem?_eq_none_iff.mp h2)
    | some y => rw [h1, h2] at h; cases h
theorem pair_some {ds es : List D} {i : Nat} {d : D} (h : (match ds[i]?, es[i]? with | some x, some y => some (D.tup [x, y]) | _, _ => none) = some d) : ∃ x y, ds[i]? = some x ∧ es[i]? = some y ∧ d = .tup [x, y] := by
  cases h1 : ds[i]? with
  | none => rw [h1] at h; cases h
  | some x =>
    cases h2 : es[i]? with
    | none => rw [h1, h2] at h; cases h
    | some y => rw [h1, h2] at h; cases h; exact ⟨x, y, rfl, rfl, rfl⟩
theorem itr_zipP {H0 : Hp} {m : List Addr} {n k : Nat} {a b : Addr} (ea : m[n]? = some a) (eb : m[k]? = some b) : ITR X.K H0 m (.zipP n k) (Itz X.K a b) := by
  intro m1 H S i e sh
  have ea' := e.pre _ _ ea
  have eb' := e.pre _ _ eb
  refine ⟨fun h => ?_, fun d h => ?_⟩
  · simp only [itm] at h
    obtain ⟨ds, h1, h⟩ := bind_some h
    obtain ⟨es, h2, h⟩ := map_some h
    obtain ⟨xs, w1, w2⟩ := lst_of (X := X) sh ea' h1
    obtain ⟨ys, w3, w4⟩ := lst_of (X := X) sh eb' h2
    exact ⟨xs, ys, w1, w3, pair_none w2.length w4.length h⟩
  · simp only [itm] at h
    obtain ⟨ds, h1, h⟩ := bind_some h
    obtain ⟨es, h2, h⟩ := map_some h
    obtain ⟨x, y, h3, h4, rfl⟩ := pair_some h
    obtain ⟨xs, w1, w2⟩ := lst_of (X := X) sh ea' h1
    obtain ⟨ys, w3, w4⟩ := lst_of (X := X) sh eb' h2
    obtain ⟨v, w5, w6⟩ := w2.get h3
    obtain ⟨u, w7, w8⟩ := w4.get h4
    refine ⟨⟨xs, ys, v, u, w1, w3, w5, w7⟩, fun q H' hy => ?_⟩
    obtain ⟨T, x', y', rfl, hT, rfl, hx, hy⟩ := hy
    have e1 := hx xs w1
    have e2 := hy ys w3
    rw [w5] at e1
    rw [w7] at e2
    cases e1
    cases e2
    exact new_pair sh hT w6 w8
theorem itr_zipT {H0 : Hp} {m : List Addr} {a b : Addr} {ds es : List D} {xs ys : List V} (w1 : SqT X.K H0 a xs) (w2 : RVs X.K H0 m ds xs) (w3 : SqT X.K H0 b ys) (w4 : RVs X.K H0 m es ys) : ITR X.K H0 m (.zipT ds es) (RZ.ItzT X.K a b) := by
  intro m1 H S i e sh
  have w1' := e.tup _ _ w1
  have w2' := w2.mono e
  have w3' := e.tup _ _ w3
  have w4' := w4.mono e
  refine ⟨fun h => ?_, fun d h => ?_⟩
  · simp only [itm, Option.some.injEq] at h
    exact ⟨xs, ys, w1', w3', pair_none w2.length w4.length h⟩
  · simp only [itm, Option.some.injEq] at h
    obtain ⟨x, y, h3, h4, rfl⟩ := pair_some h
    obtain ⟨v, w5, w6⟩ := w2'.get h3
    obtain ⟨u, w7, w8⟩ := w4'.get h4
    refine ⟨⟨xs, ys, v, u, w1', w3', w5, w7⟩, fun q H' hy => ?_⟩
    obtain ⟨T, x', y', rfl, hT, rfl, hx, hy⟩ := hy
    have e1 := hx xs w1'
    have e2 := hy ys w3'
    rw [w5] at e1
    rw [w7] at e2
    cases e1
    cases e2
    exact new_pair sh hT w6 w8
/-! ### the walks -/
theorem pi_seq {e : Expr} {ce : IE} (he : PE X e (rE X.K C ce)) : PI X tg e (rI X.K C (.seq ce)) := by
  refine PI.star fun σ H R h => ?_
  obtain ⟨m, ρ, S, it, S', se, sh, hv, q⟩ := h
  simp only [evi] at hv
  obtain ⟨⟨d, S1⟩, e1, hv⟩ := bind_some hv
  cases d with
  | tup xs =>
    cases hv
    refine ⟨_, pi_tup he, m, ρ, S, _, _, se, sh, e1, fun m1 H1 v x1 sh1 r1 => ?_⟩
    obtain ⟨a, ys, rfl, w1, w2⟩ := tup_a r1
    exact ⟨a, rfl, ⟨ys, w1⟩, q m1 H1 _ x1 sh1 (itr_tup w1 w2)⟩
  | ptr n =>
    obtain ⟨xs, h1, h2⟩ := map_some hv
    cases h2
    refine ⟨_, pi_list he, m, ρ, S, _, _, se, sh, e1, fun m1 H1 v x1 sh1 r1 => ?_⟩
    obtain ⟨a, ea, rfl⟩ := ptr_a r1
    obtain ⟨ys, w1, w2⟩ := lst_of (X := X) sh1 ea h1
    exact ⟨a, rfl, ⟨ys, w1⟩, q m1 H1 _ x1 sh1 (itr_list ea)⟩
  | str z =>
    cases hv
    refine ⟨_, pi_str he, m, ρ, S, _, _, se, sh, e1, fun m1 H1 v x1 sh1 r1 => ?_⟩
    obtain rfl := str_a r1
    exact ⟨z, rfl, q m1 H1 _ x1 sh1 itr_str⟩
  | _ => cases hv
theorem pa1 {e : Expr} {ce : IE} (hp : plainE e = true) (he : PE X e (rE X.K C ce)) : PA X [e] (rEs X.K C (.cons ce .nil)) := ok_cons hp he ok_nil
theorem pa2 {e f : Expr} {ce cf : IE} (hp : plainE e = true) (he : PE X e (rE X.K C ce)) (hp' : plainE f = true) (hf : PE X f (rE X.K C cf)) : PA X [e, f] (rEs X.K C (.cons ce (.cons cf .nil))) := ok_cons hp he (ok_cons hp' hf ok_nil)
theorem ok_rng1 {e : Expr} {ce : IE} {p pos : Pos} (G : Gd C c X) (hg : glB c.sc "range" = true) (hp : plainE e = true) (he : PE X e (rE X.K C ce)) : PI X tg (.Call (.Name "range" p) [e] [] pos) (rI X.K C (.rng1 ce)) := by
  refine PI.star fun σ H R h => ?_
  obtain ⟨m, ρ, S, it, S', se, sh, hv, q⟩ := h
  simp only [evi] at hv
  obtain ⟨⟨d, S1⟩, e1, hv⟩ := bind_some hv
  cases d with
  | int j =>
    obtain ⟨h1, h2⟩ := ite_some hv
    cases h2
    simp only [Bool.and_eq_true, decide_eq_true_eq] at h1
    refine ⟨_, pi_range1 (gl_X G hg) (G.blt _ (by decide)) (pa1 hp he) (noStar hp), m, ρ, S, _, S1, se, sh, evs_1 e1, fun m1 H1 vs x1 sh1 r1 => ?_⟩
    obtain ⟨v, rfl, r⟩ := r1.one_a
    obtain rfl := int_a r
    exact ⟨j, rfl, h1.1, h1.2, q m1 H1 _ x1 sh1 itr_rng⟩
  | _ => cases hv
theorem ok_rng2 {e f : Expr} {ce cf : IE} {p pos : Pos} (G : Gd C c X) (hg : glB c.sc "range" = true) (hp : plainE e = true) (he : PE X e (rE X.K C ce)) (hp' : plainE f = true) (hf : PE X f (rE X.K C cf)) : PI X tg (.Call (.Name "range" p) [e, f] [] pos) (rI X.K C (.rng2 ce cf)) := by
  refine PI.star fun σ H R h => ?_
  obtain ⟨m, ρ, S, it, S', se, sh, hv, q⟩ := h
  simp only [evi] at hv
  obtain ⟨⟨d, S1⟩, e1, hv⟩ := bind_some hv
  obtain ⟨⟨d2, S2⟩, e2, hv⟩ := bind_some hv
  cases d with
  | int i =>
    cases d2 with
    | int j =>
      obtain ⟨h1, h2⟩ := ite_some hv
      cases h2
      simp only [Bool.and_eq_true, decide_eq_true_eq] at h1
      refine ⟨_, pi_range2 (gl_X G hg) (G.blt _ (by decide)) (pa2 hp he hp' hf) (by rw [noStar hp, noStar hp'] <;> rfl) (noStar hp'), m, ρ, S, _, S2, se, sh, evs_2 e1 e2, fun m1 H1 vs x1 sh1 r1 => ?_⟩
      obtain ⟨v, w, rfl, r, r'⟩ := r1.two_a
      obtain rfl := int_a r
      obtain rfl := int_a r'
      exact ⟨i, j, rfl, ⟨h1.1.1.1, h1.1.1.2, h1.1.2, h1.2⟩, q m1 H1 _ x1 sh1 itr_rng⟩
    | _ => cases hv
  | _ => cases hv
theorem ok_zip {e f : Expr} {ce cf : IE} {p pos tpos : Pos} {elts : List Expr} {kk : Nat} (G : Gd C c X) (hg : glB c.sc "zip" = true) (hp : plainE e = true) (he : PE X e (rE X.K C ce)) (hp' : plainE f = true) (hf : PE X f (rE X.K C cf)) : PI X (.Tuple elts kk tpos) (.Call (.Name "zip" p) [e, f] [] pos) (rI X.K C (.zip ce cf)) := by
  refine PI.star fun σ H R h => ?_
  obtain ⟨m, ρ, S, it, S', se, sh, hv, q⟩ := h
  simp only [evi] at hv
  obtain ⟨⟨d, S1⟩, e1, hv⟩ := bind_some hv
  obtain ⟨⟨d2, S2⟩, e2, hv⟩ := bind_some hv
  have base := RZ.pi_zipA (X := X) (elts := elts) (kk := kk) (tpos := tpos) (p := p) (pos := pos) (gl_X G hg) (G.blt _ (by decide)) (pa2 hp he hp' hf) (noStar hp) (noStars (es := [f]) (by simp [hp']))
  cases d with
  | tup xs =>
    cases d2 with
    | tup ys =>
      cases hv
      refine ⟨_, base, m, ρ, S, _, S2, se, sh, evs_2 e1 e2, fun m1 H1 vs x1 sh1 r1 => ?_⟩
      obtain ⟨v, w, rfl, r, r'⟩ := r1.two_a
      obtain ⟨a, us, rfl, w1, w2⟩ := tup_a r
      obtain ⟨b, ws, rfl, w3, w4⟩ := tup_a r'
      exact ⟨a, b, us, ws, rfl, .inr ⟨w1, w3, q m1 H1 _ x1 sh1 (itr_zipT w1 w2 w3 w4)⟩⟩
    | _ => cases hv
  | ptr n =>
    cases d2 with
    | ptr k =>
      obtain ⟨us, g1, hv⟩ := bind_some hv
      obtain ⟨ws, g2, hv⟩ := map_some hv
      cases hv
      refine ⟨_, base, m, ρ, S, _, S2, se, sh, evs_2 e1 e2, fun m1 H1 vs x1 sh1 r1 => ?_⟩
      obtain ⟨v, w, rfl, r, r'⟩ := r1.two_a
      obtain ⟨a, ea, rfl⟩ := ptr_a r
      obtain ⟨b, eb, rfl⟩ := ptr_a r'
      obtain ⟨xs', w1, w2⟩ := lst_of (X := X) sh1 ea g1
      obtain ⟨ys', w3, w4⟩ := lst_of (X := X) sh1 eb g2
      exact ⟨a, b, xs', ys', rfl, .inl ⟨w1, w3, q m1 H1 _ x1 sh1 (itr_zipP ea eb)⟩⟩
    | _ => cases hv
  | _ => cases hv
def iEnumT (K : PySem.W.Frag) (ta : TA) : TI := fun σ H R => ta σ H fun vs H1 => ∃ a xs, vs = [.ref a] ∧ SqT K H1 a xs ∧ R (IteT K a) H1
theorem pi_enumT {X : Cx} {e : Expr} {ta : TA} {p pos tpos : Pos} {elts : List Expr} {kk : Nat} (hg : Gl X "enumerate") (hm : X.mg "enumerate" = none) (ha : PA X [e] ta) (hs : starEach [e] X.env = [(false, eval e X.env)] := by rfl) :
    PI X (.Tuple elts kk tpos) (.Call (.Name "enumerate" p) [e] [] pos) (iEnumT X.K ta) := by
  refine ⟨fun pins s σ H R I h => ?_⟩
  refine Call_ (ld_blt I hg hm boot_enumerate (PyProof.Rows.callWith_type1 (thn (ha.run pos pins s σ H _ I h) fun us s1 ⟨vs, H1, I1, r1, q1⟩ => ?_) hs rfl))
  obtain ⟨a, xs, ex, hq, q⟩ := q1
  subst ex
  cases r1 with
  | cons r rr =>
    cases rr
    cases r
    obtain ⟨its, rv, p', hz⟩ := I1.tuple hq
    refine call_enum_tup (show s1.heap.IsTuple a its.toArray from p') fun h' he hit hk => wpAny_pyIter_enum he ?_
    have I2 : Inv X pins σ H1 { s1 with heap := h' } := I1.kept (t' := s1.toks) hk
    refine ⟨s1.heap.objs.size + 1, [s1.heap.objs.size + 1, s1.heap.objs.size], _, _, H1, rfl, I2, turn_enumT a (s1.heap.objs.size + 1) s1.heap.objs.size, ⟨⟨.none, he⟩, hit, Nat.succ_ne_self _⟩, fun b hb => ?_, q⟩
    have e' : b = s1.heap.objs.size + 1 ∨ b = s1.heap.objs.size := by simpa using hb
    have hle : s1.heap.objs.size ≤ b := by
      rcases e' with z | z
      · rw [z]; exact Nat.le_add_right _ _
      · rw [z]; exact Nat.le_refl _
    exact I1.fpOk hle (I1.hok.fresh hle)
theorem ok_enm {e : Expr} {ce : IE} {p pos tpos : Pos} {elts : List Expr} {kk : Nat} (G : Gd C c X) (hg : glB c.sc "enumerate" = true) (hp : plainE e = true) (he : PE X e (rE X.K C ce)) : PI X (.Tuple elts kk tpos) (.Call (.Name "enumerate" p) [e] [] pos) (rI X.K C (.enm ce)) := by
  refine PI.star fun σ H R h => ?_
  obtain ⟨m, ρ, S, it, S', se, sh, hv, q⟩ := h
  simp only [evi] at hv
  obtain ⟨⟨d, S1⟩, e1, hv⟩ := bind_some hv
  cases d with
  | tup xs =>
    cases hv
    refine ⟨_, pi_enumT (gl_X G hg) (G.blt _ (by decide)) (pa1 hp he) (noStar hp), m, ρ, S, _, _, se, sh, evs_1 e1, fun m1 H1 v x1 sh1 r1 => ?_⟩
    obtain ⟨v, rfl, r⟩ := r1.one_a
    obtain ⟨a, ys, rfl, w1, w2⟩ := tup_a r
    exact ⟨a, ys, rfl, w1, q m1 H1 _ x1 sh1 (itr_enmT w1 w2)⟩
  | ptr n =>
    obtain ⟨xs, h1, h2⟩ := map_some hv
    cases h2
    refine ⟨_, pi_enum (gl_X G hg) (G.blt _ (by decide)) (pa1 hp he) (noStar hp), m, ρ, S, _, _, se, sh, evs_1 e1, fun m1 H1 v x1 sh1 r1 => ?_⟩
    obtain ⟨v, rfl, r⟩ := r1.one_a
    obtain ⟨a, ea, rfl⟩ := ptr_a r
    obtain ⟨ys, w1, w2⟩ := lst_of (X := X) sh1 ea h1
    exact ⟨a, ys, rfl, w1, q m1 H1 _ x1 sh1 (itr_enmP ea)⟩
  | _ => cases hv
end
end Mi

namespace Mi
open PySem L2
/-! ### targets -/
section
variable {K : PySem.W.Frag}
/-- equal outside the slots vs -/
def Off (vs : List Nat) (σ σ' : L2.St) : Prop := σ.length = σ'.length ∧ ∀ i, i ∉ vs → σ[i]? = σ'[i]?
theorem Off.refl {vs : List Nat} {σ : L2.St} : Off vs σ σ := ⟨rfl, fun _ _ => rfl⟩
theorem Off.trans {vs : List Nat} {σ σ' σ2 : L2.St} (a : Off vs σ σ') (b : Off vs σ' σ2) : Off vs σ σ2 := ⟨a.1.trans b.1, fun i h => (a.2 i h).trans (b.2 i h)⟩
theorem Off.mono {vs ws : List Nat} {σ σ' : L2.St} (h : ∀ i ∈ vs, i ∈ ws) (a : Off vs σ σ') : Off ws σ σ' := ⟨a.1, fun i hi => a.2 i fun z => hi (h i z)⟩
theorem Off.set {σ : L2.St} {i : Nat} {v : Option V} : Off [i] σ (σ.set i v) := ⟨by simp, fun j hj => by rw [List.getElem?_set_ne (fun z => hj (by simp [z]))]⟩
theorem wipe_get {σ : L2.St} {i : Nat} : ∀ {vs : List Nat}, (wipe σ vs)[i]? = if i ∈ vs then (if i < σ.length then some none else none) else σ[i]?
  | [] => by simp [wipe]
  | v :: vs => by
    unfold wipe
    by_cases hv : v = i
    · subst hv
      rw [if_pos (List.mem_cons_self)]
      by_cases hl : v < σ.length
      · rw [if_pos hl, List.getElem?_set_self (by rw [wipe_length]; exact hl)]
      · rw [if_neg hl, List.getElem?_eq_none (by rw [List.length_set, wipe_length]; omega)]
    · rw [List.getElem?_set_ne hv, wipe_get]
      have : (i ∈ v :: vs) ↔ i ∈ vs := by
        rw [List.mem_cons]
        exact ⟨fun h => h.elim (fun z => absurd z.symm hv) id, .inr⟩
      simp only [this]
theorem Off.wipe {vs : List Nat} {σ σ' : L2.St} (a : Off vs σ σ') : wipe σ vs = wipe σ' vs := by
  apply List.ext_getElem?
  intro i
  rw [wipe_get, wipe_get, a.1]
  by_cases h : i ∈ vs
  · rw [if_pos h, if_pos h]
  · rw [if_neg h, if_neg h]
    exact a.2 i h
theorem wipe_wipe {vs : List Nat} {σ : L2.St} : wipe (wipe σ vs) vs = wipe σ vs := by
  apply List.ext_getElem?
  intro i
  rw [wipe_get, wipe_get, wipe_length]
  by_cases h : i ∈ vs
  · rw [if_pos h, if_pos h]
  · rw [if_neg h, if_neg h]
def rG (K : PySem.W.Frag) (t : Tg) : TG := fun v σ H Q => ∃ m ρ d ρ', SE K m H ρ σ ∧ RV K H m d v ∧ tgt t d ρ = some ρ' ∧ ∀ σ', SE K m H ρ' σ' → Off ((tgIx t).map Ix.nat) σ σ' → Q σ' H
def rGs (K : PySem.W.Frag) (t : List Tg) : TGs := fun vs σ H Q => ∃ m ρ ds ρ', SE K m H ρ σ ∧ RVs K H m ds vs ∧ tgts t ds ρ = some ρ' ∧ ∀ σ', SE K m H ρ' σ' → Off ((tgsIx t).map Ix.nat) σ σ' → Q σ' H
end
section
variable {X : Cx} {C : CallT} {c : Ct}
theorem noStarA {e : Expr} {es : List Expr} {env : PySem.Env} (h : plainE e = true) : assignEach (e :: es) env = (false, assign e env) :: assignEach es env := by cases e <;> first | rfl | cases h
theorem asg_len {env : PySem.Env} : ∀ {es : List Expr}, es.all plainE = true → (assignEach es env).length = es.length ∧ (assignEach es env).findIdx? (·.1) = none
  | [], _ => ⟨rfl, rfl⟩
  | e :: es, h => by
    simp only [List.all_cons, Bool.and_eq_true] at h
    obtain ⟨h1, h2⟩ := asg_len (env := env) h.2
    rw [noStarA h.1]
    refine ⟨by simp [h1], ?_⟩
    rw [List.findIdx?_cons]
    simp [h2]
theorem st_loc {x : Str} (h : stB c x = true) (G : Gd C c X) : Loc X.env.scope x ∧ (X.fn x = true ∨ X.env.scope.names.lookup x = some .local) := by
  rw [G.sc]
  unfold stB at h
  split at h
  · rename_i g
    exact ⟨.inl g, .inr g⟩
  · rename_i g
    exact ⟨.inr g, .inl (G.fn _ h)⟩
  · cases h
theorem ok_gName {x : Str} {pos : Pos} {i : Ix} (G : Gd C c X) (h : stB c x = true) (hi : ixOf c.N x = some i) : PG X (.Name x pos) (rG X.K (.name i)) := by
  obtain ⟨h1, h2⟩ := st_loc h G
  refine PG.star fun v σ H Q hq => ⟨_, pg_name (by rw [G.N]; exact G.nd) (by rw [G.N]; exact ixOf_ok hi) h1 h2, ?_⟩
  obtain ⟨m, ρ, d, ρ', se, r, ht, q⟩ := hq
  simp only [tgt, Option.some.injEq] at ht
  subst ht
  exact q _ (se.put i r) (by simpa [tgIx] using Off.set)
theorem tgts_len : ∀ {ts : List Tg} {ds : List D} {ρ ρ' : Env}, tgts ts ds ρ = some ρ' → ts.length = ds.length
  | [], [], _, _, _ => rfl
  | t :: ts, d :: ds, ρ, ρ', h => by
    simp only [tgts] at h
    obtain ⟨ρ1, _, h⟩ := bind_some h
    rw [List.length_cons, List.length_cons, tgts_len h]
  | [], _ :: _, _, _, h => by simp [tgts] at h
  | _ :: _, [], _, _, h => by simp [tgts] at h
mutual
theorem ok_g (G : Gd C c X) : ∀ {n : Nat} {e : Expr} {t : Tg}, cmpTg c n e = some t → PG X e (rG X.K t)
  | 0, _, _, h => by simp [cmpTg] at h
  | n + 1, .Name x pos, t, h => by
    simp only [cmpTg] at h
    obtain ⟨h1, h2⟩ := ite_some h
    obtain ⟨i, h3, rfl⟩ := map_some h2
    exact ok_gName G h1 h3
  | n + 1, .Tuple es k pos, t, h => by
    simp only [cmpTg] at h
    obtain ⟨h1, h2⟩ := ite_some h
    obtain ⟨ts, h3, rfl⟩ := map_some h2
    obtain ⟨h4, h5⟩ := ok_gs G h3
    obtain ⟨g1, g2⟩ := asg_len (env := X.env) h1
    refine PG.star fun v σ H Q hq => ⟨_, pg_tup (n := es.length) G.calm h4 g1 g2, ?_⟩
    obtain ⟨m, ρ, d, ρ', se, r, ht, q⟩ := hq
    cases d with
    | tup ds =>
      simp only [tgt] at ht
      obtain ⟨a, xs, rfl, w1, w2⟩ := tup_a r
      exact ⟨a, xs, rfl, w1, by rw [← w2.length, ← tgts_len ht, h5], m, ρ, ds, ρ', se, w2, ht, fun σ' se' off => q σ' se' (by simpa only [tgIx] using off)⟩
    | _ => simp [tgt] at ht
  | n + 1, .Constant .., _, h => by simp [cmpTg] at h
  | n + 1, .BoolOp .., _, h => by simp [cmpTg] at h
  | n + 1, .NamedExpr .., _, h => by simp [cmpTg] at h
  | n + 1, .BinOp .., _, h => by simp [cmpTg] at h
  | n + 1, .UnaryOp .., _, h => by simp [cmpTg] at h
  | n + 1, .Lambda .., _, h => by simp [cmpTg] at h
  | n + 1, .IfExp .., _, h => by simp [cmpTg] at h
  | n + 1, .Dict .., _, h => by simp [cmpTg] at h
  | n + 1, .Set .., _, h => by simp [cmpTg] at h
  | n + 1, .ListComp .., _, h => by simp [cmpTg] at h
  | n + 1, .SetComp .., _, h => by simp [cmpTg] at h
  | n + 1, .DictComp .., _, h => by simp [cmpTg] at h
  | n + 1, .GeneratorExp .., _, h => by simp [cmpTg] at h
  | n + 1, .Await .., _, h => by simp [cmpTg] at h
  | n + 1, .Yield .., _, h => by simp [cmpTg] at h
  | n + 1, .YieldFrom .., _, h => by simp [cmpTg] at h
  | n + 1, .Compare .., _, h => by simp [cmpTg] at h
  | n + 1, .Call .., _, h => by simp [cmpTg] at h
  | n + 1, .JoinedStr .., _, h => by simp [cmpTg] at h
  | n + 1, .FormattedValue .., _, h => by simp [cmpTg] at h
  | n + 1, .Attribute .., _, h => by simp [cmpTg] at h
  | n + 1, .Subscript .., _, h => by simp [cmpTg] at h
  | n + 1, .Starred .., _, h => by simp [cmpTg] at h
  | n + 1, .List .., _, h => by simp [cmpTg] at h
  | n + 1, .Slice .., _, h => by simp [cmpTg] at h
theorem ok_gs (G : Gd C c X) : ∀ {n : Nat} {es : List Expr} {t : List Tg}, cmpTgs c n es = some t → PGs X es (rGs X.K t) ∧ t.length = es.length
  | 0, _, _, h => by simp [cmpTgs] at h
  | n + 1, [], t, h => by
    simp only [cmpTgs, Option.some.injEq] at h
    subst h
    refine ⟨PGs.star fun vs σ H Q hq => ⟨_, pgs_nil, ?_⟩, rfl⟩
    obtain ⟨m, ρ, d, ρ', se, r, ht, q⟩ := hq
    cases d with
    | nil =>
      simp only [tgts, Option.some.injEq] at ht
      subst ht
      cases vs with
      | nil => exact ⟨rfl, q σ se Off.refl⟩
      | cons => simp only [RVs] at r
    | cons => simp [tgts] at ht
  | n + 1, e :: es, t, h => by
    simp only [cmpTgs] at h
    obtain ⟨t1, h1, h⟩ := bind_some h
    obtain ⟨ts, h2, rfl⟩ := map_some h
    have g1 := ok_g G h1
    obtain ⟨g2, g3⟩ := ok_gs G h2
    have hp : plainE e = true := by cases n <;> cases e <;> first | rfl | simp [cmpTg] at h1
    refine ⟨PGs.star fun vs σ H Q hq => ⟨_, pgs_cons g1 g2 (by rw [noStarA hp] <;> rfl), ?_⟩, by simp [g3]⟩
    obtain ⟨m, ρ, d, ρ', se, r, ht, q⟩ := hq
    cases d with
    | nil => simp [tgts] at ht
    | cons d ds =>
      simp only [tgts] at ht
      obtain ⟨ρ1, e1, e2⟩ := bind_some ht
      cases vs with
      | nil => simp only [RVs] at r
      | cons v vs =>
        simp only [RVs] at r
        refine ⟨v, vs, rfl, m, ρ, d, ρ1, se, r.1, e1, fun σ1 se1 o1 => ⟨m, ρ1, ds, ρ', se1, r.2, e2, fun σ2 se2 o2 => q σ2 se2 ?_⟩⟩
        refine (o1.mono ?_).trans (o2.mono ?_)
        · intro i hi
          simp only [tgsIx, List.map_append, List.mem_append]
          exact .inl hi
        · intro i hi
          simp only [tgsIx, List.map_append, List.mem_append]
          exact .inr hi
end
/-! ### comprehensions -/
theorem Gd.blk {s : Shared} {H : Hp} {scope : Scope} {cl : List (Str × Addr)} {A : Addr} {fp : List Addr} (hk : scope.kind = .function) (G : Gd C c X) : Gd C (blkCt c scope) (X.blk s H scope (compEnvC scope cl A X.env) fp) where
  N := G.N
  nd := G.nd
  sc := by
    show relS scope X.env.scope = relS scope c.sc
    rw [G.sc]
  kd := hk
  calm := G.calm
  fn := fun x h => h
  blt := G.blt
  hu := G.hu
  fns := fun f x ps h => ⟨(G.fns f x ps h).ok⟩
theorem lc_app {m : List Addr} {H : Hp} {S S' : Sto} {l : Nat} {p : Addr} {d : D} {y : V} (sh : SH X.K m H S) (ep : m[l]? = some p) (r : RV X.K H m d y) (h : lcApp l d S = some S') :
    ∃ acc, H p = some (.lst acc) ∧ acc.length < sizeLine ∧ Ext X.K H (upd H p (.lst (acc ++ [y]))) m m ∧ SH X.K m (upd H p (.lst (acc ++ [y]))) S' := by
  unfold lcApp at h
  obtain ⟨ds, h1, h⟩ := bind_some h
  obtain ⟨h2, h3⟩ := ite_some h
  cases h3
  obtain ⟨e1, xs, w1, w2⟩ := mut_of (X := X) sh ep h1
  have mu : Mut (H p) := by rw [w1]; trivial
  refine ⟨xs, w1, by rw [← w2.length]; exact of_decide_eq_true h2, Ext.write mu, sh.set ep e1 rfl rfl ⟨_, upd_same, ?_⟩⟩
  exact (w2.mono (Ext.write mu)).append (RVs.one (r.mono (Ext.write mu)))
theorem own_map {own : List (Str × Ix)} : (own.map fun p => (p.1, p.2.nat)).map (·.2) = (own.map (·.2)).map Ix.nat := by simp [List.map_map]
theorem ok_O {ifs : List Expr} {cf : IO} (h : (ifs = [] ∧ cf = .yes) ∨ ∃ e ce, ifs = [e] ∧ cf = .one ce ∧ PT X e (rC X.K C ce)) : PTs X ifs (rO X.K C cf) := by
  refine PTs.star fun σ H Q hq => ?_
  obtain ⟨m, ρ, S, d, S', se, sh, he, q⟩ := hq
  rcases h with ⟨rfl, rfl⟩ | ⟨e, ce, rfl, rfl, ht⟩
  · simp only [tsts, Option.some.injEq, Prod.mk.injEq] at he
    obtain ⟨rfl, rfl⟩ := he
    exact ⟨_, pts_nil, q m H Ext.refl sh⟩
  · exact ⟨_, pts_one ht, m, ρ, S, d, S', se, sh, by simpa only [tsts] using he, q⟩
theorem foldPlain {iter : Expr} {env : PySem.Env} {x : Value} (h : plainE iter = true) : foldedSetIterable iter env x = pure x := by cases iter <;> first | rfl | cases h
theorem rd_lc {ce : IE} {ct : Tg} {ci : II} {cf : IO} {own : List Ix} (hw : ((tgIx ct).all fun i => own.contains i) = true) {σ : L2.St} {H : Hp} {Q : VK} (h : rE X.K C (.lc ce ct ci cf own) σ H Q) :
    tLc (rI X.K C ci) (rG X.K ct) (rO X.K C cf) (rE X.K C ce) (own.map Ix.nat) σ H Q := by
  obtain ⟨m, ρ, S, d, S', se, sh, hv, q⟩ := h
  simp only [ev] at hv
  obtain ⟨⟨it, S1⟩, e1, hv⟩ := bind_some hv
  obtain ⟨S9, e2, e3⟩ := map_some hv
  cases e3
  refine ⟨m, ρ, S, it, S1, se, sh, e1, fun m1 H1 J x1 sh1 hJ D hD => ?_⟩
  have ax : Ext X.K H1 (upd H1 D (.lst [])) m1 (m1 ++ [D]) := Ext.alloc hD
  have eD : (m1 ++ [D])[S1.length]? = some D := by rw [← sh1.len, List.getElem?_append_right (Nat.le_refl _)]; simp
  have hvs : ∀ i ∈ (tgIx ct).map Ix.nat, i ∈ own.map Ix.nat := fun i hi => by
    obtain ⟨j, hj, rfl⟩ := List.mem_map.mp hi
    have := List.all_eq_true.mp hw j hj
    exact List.mem_map.mpr ⟨j, by simpa using this, rfl⟩
  refine ⟨fun i k H' => ∃ m' Sl, Ext X.K (upd H1 D (.lst [])) H' (m1 ++ [D]) m' ∧ SH X.K m' H' Sl ∧ itLoop it (fun d S1_1 => (tgt ct d (wip ρ own)).bind fun ρ1 => (tsts C cf ρ1 S1_1).bind fun q => if q.1 = true then (ev C ce ρ1 q.2).bind fun p => lcApp S1.length p.1 p.2 else some q.2) k i Sl = some S', ?_, fun i k H' hW => ?_⟩
  · exact ⟨_, m1 ++ [D], _, Ext.refl, sh1.alloc (o := .lst []) hD ⟨[], upd_same, by simp [RVs]⟩, e2⟩
  · obtain ⟨m', Sl, xe, she, hl⟩ := hW
    have fin : itm it i Sl = some none → Sl = S' → J.stop i H' ∧ Q (.ref D) H' := fun h0 e0 => by
      subst e0
      exact ⟨(hJ m' H' Sl i (ax.trans xe) she).1 h0, q m' H' _ ((x1.trans ax).trans xe) she (by simp only [RV]; exact ⟨D, xe.pre _ _ eD, rfl⟩)⟩
    cases k with
    | zero =>
      simp only [itLoop] at hl
      obtain ⟨o, h0, hl⟩ := bind_some hl
      cases o with
      | none => exact .inl (fin h0 (Option.some.inj hl))
      | some _ => cases hl
    | succ k =>
      simp only [itLoop] at hl
      obtain ⟨o, h0, hl⟩ := bind_some hl
      cases o with
      | none => exact .inl (fin h0 (Option.some.inj hl))
      | some d =>
        obtain ⟨S3, hturn, hl⟩ := bind_some hl
        obtain ⟨ρ1, t1, hturn⟩ := bind_some hturn
        obtain ⟨⟨b, S4⟩, t2, hturn⟩ := bind_some hturn
        obtain ⟨hgo, hy⟩ := (hJ m' H' Sl i (ax.trans xe) she).2 d h0
        refine .inr ⟨hgo, fun H2 => ∃ m2 S5, Ext X.K (upd H1 D (.lst [])) H2 (m1 ++ [D]) m2 ∧ SH X.K m2 H2 S5 ∧ itLoop it (fun d S1_1 => (tgt ct d (wip ρ own)).bind fun ρ1 => (tsts C cf ρ1 S1_1).bind fun q => if q.1 = true then (ev C ce ρ1 q.2).bind fun p => lcApp S1.length p.1 p.2 else some q.2) k (i + 1) S5 = some S', fun H2 ⟨m2, S5, a1, a2, a3⟩ => ⟨k, Nat.lt_succ_self k, m2, S5, a1, a2, a3⟩, fun x H2 hyl => ?_⟩
        obtain ⟨x2, sh2, r2⟩ := hy x H2 hyl
        have se2 : SE X.K m' H2 (wip ρ own) (wipe σ (own.map Ix.nat)) := (((se.mono x1).mono ax).mono (xe.trans x2)).wip own
        refine ⟨m', wip ρ own, d, ρ1, se2, r2, t1, fun σ2 se3 off => ⟨?_, ?_⟩⟩
        · rw [← (off.mono hvs).wipe, wipe_wipe]
        · refine ⟨m', ρ1, Sl, b, S4, se3, sh2, t2, fun m3 H3 x3 sh3 => ?_⟩
          cases b with
          | true =>
            rw [if_pos rfl] at hturn ⊢
            obtain ⟨⟨y, S5⟩, t3, t4⟩ := bind_some hturn
            refine ⟨m3, ρ1, S4, y, S5, se3.mono x3, sh3, t3, fun m4 H4 v x4 sh4 r4 => ?_⟩
            have xx := ((xe.trans x2).trans x3).trans x4
            obtain ⟨acc, g1, g2, g3, g4⟩ := lc_app sh4 (xx.pre _ _ eD) r4 t4
            exact ⟨acc, g1, g2, m4, S3, xx.trans g3, g4, hl⟩
          | false =>
            rw [if_neg Bool.false_ne_true] at hturn ⊢
            cases hturn
            exact ⟨m3, S4, (xe.trans x2).trans x3, sh3, hl⟩
structure LcIn (X : Cx) (C : CallT) (c : Ct) (elt tg iter : Expr) (ifs : List Expr) (scope : Scope) (ce : IE) (ct : Tg) (ci : II) (cf : IO) : Prop where
  ok : BlkOk X.N X.env.scope scope ((ownOf c.N scope).map fun p => (p.1, p.2.nat))
  hp : plainE iter = true
  hi : PI X tg iter (rI X.K C ci)
  hg : ∀ (s : Shared) (H : Hp) (A : Addr) (cl : List (Str × Addr)) (fp : List Addr), PG (X.blk s H scope (compEnvC scope cl A X.env) fp) tg (rG X.K ct)
  ho : ∀ (s : Shared) (H : Hp) (A : Addr) (cl : List (Str × Addr)) (fp : List Addr), PTs (X.blk s H scope (compEnvC scope cl A X.env) fp) ifs (rO X.K C cf)
  he : ∀ (s : Shared) (H : Hp) (A : Addr) (cl : List (Str × Addr)) (fp : List Addr), PE (X.blk s H scope (compEnvC scope cl A X.env) fp) elt (rE X.K C ce)
  hw : ((tgIx ct).all fun i => ((ownOf c.N scope).map (·.2)).contains i) = true
theorem lc_in {elt tg iter : Expr} {ifs : List Expr} {scope : Scope} {ce : IE} {ct : Tg} {ci : II} {cf : IO} {n : Nat} (G : Gd C c X) (hb : blkC c.N c.sc scope ((ownOf c.N scope).map fun p => (p.1, p.2.nat)) = true) (hp : plainE iter = true)
    (hi : PI X tg iter (rI X.K C ci)) (ht : cmpTg (blkCt c scope) n tg = some ct) (ho : ∀ X', Gd C (blkCt c scope) X' → X'.K = X.K → PTs X' ifs (rO X'.K C cf)) (he : ∀ X', Gd C (blkCt c scope) X' → X'.K = X.K → PE X' elt (rE X'.K C ce))
    (hw : ((tgIx ct).all fun i => ((ownOf c.N scope).map (·.2)).contains i) = true) : LcIn X C c elt tg iter ifs scope ce ct ci cf := by
  have ok : BlkOk X.N X.env.scope scope ((ownOf c.N scope).map fun p => (p.1, p.2.nat)) := blkOk_by (by rw [G.N, G.sc]; exact hb)
  exact ⟨ok, hp, hi, fun s H A cl fp => ok_g (G.blk ok.kind) ht, fun s H A cl fp => ho _ (G.blk ok.kind) rfl, fun s H A cl fp => he _ (G.blk ok.kind) rfl, hw⟩
theorem ok_lc {elt tg iter : Expr} {ifs : List Expr} {scope : Scope} {pos : Pos} {ce : IE} {ct : Tg} {ci : II} {cf : IO} (G : Gd C c X) (L : LcIn X C c elt tg iter ifs scope ce ct ci cf) : PE X (.ListComp elt [⟨tg, iter, ifs, 0⟩] scope pos) (rE X.K C (.lc ce ct ci cf ((ownOf c.N scope).map (·.2)))) := by
  have base := pe_lc (pos := pos) G.calm (by rw [G.N]; exact G.nd) L.hi L.ok L.hg L.ho L.he (fun x => foldPlain L.hp)
  rw [own_map] at base
  exact PE.star fun σ H Q h => ⟨_, base, rd_lc L.hw h⟩
theorem rd_lc2 {ce : IE} {ct ct1 : Tg} {ci ci1 : II} {cf cf1 : IO} {own : List Ix} (hw : ((tgIx ct).all fun i => own.contains i) = true) {σ : L2.St} {H : Hp} {Q : VK} (h : rE X.K C (.lc2 ce ct ci cf ct1 ci1 cf1 own (tgIx ct1)) σ H Q) :
    tLc2 (rI X.K C ci) (rG X.K ct) (rO X.K C cf) (rI X.K C ci1) (rG X.K ct1) (rO X.K C cf1) (rE X.K C ce) (own.map Ix.nat) ((tgIx ct1).map Ix.nat) σ H Q := by
  have hvs : ∀ i ∈ (tgIx ct).map Ix.nat, i ∈ own.map Ix.nat := fun i hi => by
    obtain ⟨j, hj, rfl⟩ := List.mem_map.mp hi
    have := List.all_eq_true.mp hw j hj
    exact List.mem_map.mpr ⟨j, by simpa using this, rfl⟩
  obtain ⟨m, ρ, S, d, S', se, sh, hv, q⟩ := h
  simp only [ev] at hv
  obtain ⟨⟨it, S1⟩, e1, hv⟩ := bind_some hv
  obtain ⟨S9, e2, e3⟩ := map_some hv
  cases e3
  refine ⟨m, ρ, S, it, S1, se, sh, e1, fun m1 H1 J x1 sh1 hJ D hD => ?_⟩
  have ax : Ext X.K H1 (upd H1 D (.lst [])) m1 (m1 ++ [D]) := Ext.alloc hD
  have eD : (m1 ++ [D])[S1.length]? = some D := by rw [← sh1.len, List.getElem?_append_right (Nat.le_refl _)]; simp
  dsimp only at e2
  generalize htn : (fun (d : Mi.D) (S1_1 : Sto) => (tgt ct d (wip ρ own)).bind fun ρ1 => (tsts C cf ρ1 S1_1).bind fun q => if q.1 = true then
          (evi C ci1 ρ1 q.2).bind fun r1 => itLoop r1.1 (fun d1 S2 => (tgt ct1 d1 (wip ρ1 (tgIx ct1))).bind fun ρ2 => (tsts C cf1 ρ2 S2).bind fun q1 => if q1.1 = true then (ev C ce ρ2 q1.2).bind fun p => lcApp S1.length p.1 p.2 else some q1.2) (cntI r1.1 r1.2) 0 r1.2
        else some q.2) = turn at e2
  refine ⟨fun i k H' => ∃ m' Sl, Ext X.K (upd H1 D (.lst [])) H' (m1 ++ [D]) m' ∧ SH X.K m' H' Sl ∧ itLoop it turn k i Sl = some S', ?_, fun i k H' hW => ?_⟩
  · exact ⟨_, m1 ++ [D], _, Ext.refl, sh1.alloc (o := .lst []) hD ⟨[], upd_same, by simp [RVs]⟩, e2⟩
  · obtain ⟨m', Sl, xe, she, hl⟩ := hW
    have fin : itm it i Sl = some none → Sl = S' → J.stop i H' ∧ Q (.ref D) H' := fun h0 e0 => by
      subst e0
      exact ⟨(hJ m' H' Sl i (ax.trans xe) she).1 h0, q m' H' _ ((x1.trans ax).trans xe) she (by simp only [RV]; exact ⟨D, xe.pre _ _ eD, rfl⟩)⟩
    cases k with
    | zero =>
      simp only [itLoop] at hl
      obtain ⟨o, h0, hl⟩ := bind_some hl
      cases o with
      | none => exact .inl (fin h0 (Option.some.inj hl))
      | some _ => cases hl
    | succ k =>
      simp only [itLoop] at hl
      obtain ⟨o, h0, hl⟩ := bind_some hl
      cases o with
      | none => exact .inl (fin h0 (Option.some.inj hl))
      | some d =>
        obtain ⟨S3, hturn, hl⟩ := bind_some hl
        obtain ⟨hgo, hy⟩ := (hJ m' H' Sl i (ax.trans xe) she).2 d h0
        refine .inr ⟨hgo, fun H2 => ∃ m2 S5, Ext X.K (upd H1 D (.lst [])) H2 (m1 ++ [D]) m2 ∧ SH X.K m2 H2 S5 ∧ itLoop it turn k (i + 1) S5 = some S', fun H2 ⟨m2, S5, a1, a2, a3⟩ => ⟨k, Nat.lt_succ_self k, m2, S5, a1, a2, a3⟩, fun x H2 hyl => ?_⟩
        subst htn
        obtain ⟨ρ1, t1, hturn⟩ := bind_some hturn
        obtain ⟨⟨b, S4⟩, t2, hturn⟩ := bind_some hturn
        obtain ⟨x2, sh2, r2⟩ := hy x H2 hyl
        have se2 : SE X.K m' H2 (wip ρ own) (wipe σ (own.map Ix.nat)) := (((se.mono x1).mono ax).mono (xe.trans x2)).wip own
        refine ⟨m', wip ρ own, d, ρ1, se2, r2, t1, fun σ2 se3 off => ⟨?_, ?_⟩⟩
        · rw [← (off.mono hvs).wipe, wipe_wipe]
        · refine ⟨m', ρ1, Sl, b, S4, se3, sh2, t2, fun m3 H3 x3 sh3 => ?_⟩
          cases b with
          | false =>
            rw [if_neg Bool.false_ne_true] at hturn ⊢
            cases hturn
            exact ⟨m3, S4, (xe.trans x2).trans x3, sh3, hl⟩
          | true =>
            rw [if_pos rfl] at hturn ⊢
            obtain ⟨⟨it1, S5⟩, t3, t4⟩ := bind_some hturn
            refine ⟨m3, ρ1, S4, it1, S5, se3.mono x3, sh3, t3, fun m4 H4 J1 x4 sh4 hJ1 => ?_⟩
            have x24 := ((xe.trans x2).trans x3).trans x4
            have se4 := (se3.mono x3).mono x4
            dsimp only at t4
            generalize htn1 : (fun (d1 : Mi.D) (S2 : Sto) => (tgt ct1 d1 (wip ρ1 (tgIx ct1))).bind fun ρ2 => (tsts C cf1 ρ2 S2).bind fun q1 => if q1.1 = true then (ev C ce ρ2 q1.2).bind fun p => lcApp S1.length p.1 p.2 else some q1.2) = turn1 at t4
            refine ⟨fun j k1 H5 => ∃ m5 S6, Ext X.K H4 H5 m4 m5 ∧ SH X.K m5 H5 S6 ∧ itLoop it1 turn1 k1 j S6 = some S3, ⟨_, m4, S5, Ext.refl, sh4, t4⟩, fun j k1 H5 hW1 => ?_⟩
            obtain ⟨m5, S6, xe1, she1, hl1⟩ := hW1
            have fin1 : itm it1 j S6 = some none → S6 = S3 → J1.stop j H5 ∧ ∃ m2 S5, Ext X.K (upd H1 D (.lst [])) H5 (m1 ++ [D]) m2 ∧ SH X.K m2 H5 S5 ∧ itLoop it _ k (i + 1) S5 = some S' := fun h0 e0 => by
              subst e0
              exact ⟨(hJ1 m5 H5 S6 j xe1 she1).1 h0, m5, S6, x24.trans xe1, she1, hl⟩
            cases k1 with
            | zero =>
              simp only [itLoop] at hl1
              obtain ⟨o, h0, hl1⟩ := bind_some hl1
              cases o with
              | none => exact .inl (fin1 h0 (Option.some.inj hl1))
              | some _ => cases hl1
            | succ k1 =>
              simp only [itLoop] at hl1
              obtain ⟨o, h0, hl1⟩ := bind_some hl1
              cases o with
              | none => exact .inl (fin1 h0 (Option.some.inj hl1))
              | some d1 =>
                obtain ⟨S7, hturn1, hl1⟩ := bind_some hl1
                obtain ⟨hgo1, hy1⟩ := (hJ1 m5 H5 S6 j xe1 she1).2 d1 h0
                refine .inr ⟨hgo1, fun H6 => ∃ m6 S8, Ext X.K H4 H6 m4 m6 ∧ SH X.K m6 H6 S8 ∧ itLoop it1 turn1 k1 (j + 1) S8 = some S3, fun H6 ⟨m6, S8, a1, a2, a3⟩ => ⟨k1, Nat.lt_succ_self k1, m6, S8, a1, a2, a3⟩, fun x6 H6 hyl1 => ?_⟩
                subst htn1
                obtain ⟨ρ2, u1, hturn1⟩ := bind_some hturn1
                obtain ⟨⟨b1, S8⟩, u2, hturn1⟩ := bind_some hturn1
                obtain ⟨y2, sh6, r6⟩ := hy1 x6 H6 hyl1
                have se6 : SE X.K m5 H6 (wip ρ1 (tgIx ct1)) (wipe σ2 ((tgIx ct1).map Ix.nat)) := (se4.mono (xe1.trans y2)).wip _
                refine ⟨m5, wip ρ1 (tgIx ct1), d1, ρ2, se6, r6, u1, fun σ3 se7 off1 => ⟨?_, ?_⟩⟩
                · rw [← off1.wipe, wipe_wipe]
                · refine ⟨m5, ρ2, S6, b1, S8, se7, sh6, u2, fun m7 H7 x7 sh7 => ?_⟩
                  cases b1 with
                  | false =>
                    rw [if_neg Bool.false_ne_true] at hturn1 ⊢
                    cases hturn1
                    exact ⟨m7, S8, (xe1.trans y2).trans x7, sh7, hl1⟩
                  | true =>
                    rw [if_pos rfl] at hturn1 ⊢
                    obtain ⟨⟨y, S10⟩, u3, u4⟩ := bind_some hturn1
                    refine ⟨m7, ρ2, S8, y, S10, se7.mono x7, sh7, u3, fun m8 H8 v x8 sh8 r8 => ?_⟩
                    have xx := ((xe1.trans y2).trans x7).trans x8
                    obtain ⟨acc, g1, g2, g3, g4⟩ := lc_app sh8 ((x24.trans xx).pre _ _ eD) r8 u4
                    exact ⟨acc, g1, g2, m8, S7, xx.trans g3, g4, hl1⟩
structure LcIn2 (X : Cx) (C : CallT) (c : Ct) (elt tg iter tg1 iter1 : Expr) (ifs ifs1 : List Expr) (scope : Scope) (ce : IE) (ct ct1 : Tg) (ci ci1 : II) (cf cf1 : IO) : Prop where
  L : LcIn X C c elt tg iter ifs scope ce ct ci cf
  hp : plainE iter1 = true
  hv : ∀ i ∈ (tgIx ct1).map Ix.nat, i ∈ ((ownOf c.N scope).map fun p => (p.1, p.2.nat)).map (·.2)
  hi : ∀ (s : Shared) (H : Hp) (A : Addr) (cl : List (Str × Addr)) (fp : List Addr), PI (X.blk s H scope (compEnvC scope cl A X.env) fp) tg1 iter1 (rI X.K C ci1)
  hg : ∀ (s : Shared) (H : Hp) (A : Addr) (cl : List (Str × Addr)) (fp : List Addr), PG (X.blk s H scope (compEnvC scope cl A X.env) fp) tg1 (rG X.K ct1)
  ho : ∀ (s : Shared) (H : Hp) (A : Addr) (cl : List (Str × Addr)) (fp : List Addr), PTs (X.blk s H scope (compEnvC scope cl A X.env) fp) ifs1 (rO X.K C cf1)
theorem lc_in2 {elt tg iter tg1 iter1 : Expr} {ifs ifs1 : List Expr} {scope : Scope} {ce : IE} {ct ct1 : Tg} {ci ci1 : II} {cf cf1 : IO} {n1 : Nat} (G : Gd C c X) (L : LcIn X C c elt tg iter ifs scope ce ct ci cf) (hp1 : plainE iter1 = true)
    (hi1 : ∀ X', Gd C (blkCt c scope) X' → X'.K = X.K → PI X' tg1 iter1 (rI X'.K C ci1)) (ht1 : cmpTg (blkCt c scope) n1 tg1 = some ct1) (ho1 : ∀ X', Gd C (blkCt c scope) X' → X'.K = X.K → PTs X' ifs1 (rO X'.K C cf1))
    (hw1 : ((tgIx ct1).all fun i => ((ownOf c.N scope).map (·.2)).contains i) = true) : LcIn2 X C c elt tg iter tg1 iter1 ifs ifs1 scope ce ct ct1 ci ci1 cf cf1 := by
  refine ⟨L, hp1, fun i hi => ?_, fun s H A cl fp => hi1 _ (G.blk L.ok.kind) rfl, fun s H A cl fp => ok_g (G.blk L.ok.kind) ht1, fun s H A cl fp => ho1 _ (G.blk L.ok.kind) rfl⟩
  rw [own_map]
  obtain ⟨j, hj, rfl⟩ := List.mem_map.mp hi
  have := List.all_eq_true.mp hw1 j hj
  exact List.mem_map.mpr ⟨j, by simpa using this, rfl⟩
theorem ok_lc2 {elt tg iter tg1 iter1 : Expr} {ifs ifs1 : List Expr} {scope : Scope} {pos : Pos} {ce : IE} {ct ct1 : Tg} {ci ci1 : II} {cf cf1 : IO} (G : Gd C c X) (L : LcIn2 X C c elt tg iter tg1 iter1 ifs ifs1 scope ce ct ct1 ci ci1 cf cf1) :
    PE X (.ListComp elt [⟨tg, iter, ifs, 0⟩, ⟨tg1, iter1, ifs1, 0⟩] scope pos) (rE X.K C (.lc2 ce ct ci cf ct1 ci1 cf1 ((ownOf c.N scope).map (·.2)) (tgIx ct1))) := by
  have base := pe_lc2 (pos := pos) G.calm (by rw [G.N]; exact G.nd) L.L.hi L.L.ok L.hv L.L.hg L.L.ho L.hi L.hg L.ho L.L.he (fun x => foldPlain L.L.hp) (fun env x => foldPlain L.hp)
  rw [own_map] at base
  exact PE.star fun σ H Q h => ⟨_, base, rd_lc2 L.L.hw h⟩
end
end Mi

namespace Mi
open PySem L2
/-! ### every compiled expression -/
inductive PEs (X : Cx) (C : CallT) : List Expr → IEs → Prop
  | nil : PEs X C [] .nil
  | cons {e : Expr} {es : List Expr} {ce : IE} {ces : IEs} : plainE e = true → PE X e (rE X.K C ce) → PEs X C es ces → PEs X C (e :: es) (.cons ce ces)
theorem PEs.pan {X : Cx} {C : CallT} {es : List Expr} {ces : IEs} (h : PEs X C es ces) : PAn X C es ces := by
  induction h with
  | nil => exact .nil
  | cons hp he _ ih => exact .cons hp he ih
theorem PEs.one {X : Cx} {C : CallT} {es : List Expr} {ces : IEs} (h : PEs X C es ces) (hl : es.length = 1) : ∃ e ce, es = [e] ∧ ces = .cons ce .nil ∧ plainE e = true ∧ PE X e (rE X.K C ce) := by
  cases h with
  | nil => cases hl
  | cons hp he r =>
    cases r with
    | nil => exact ⟨_, _, rfl, rfl, hp, he⟩
    | cons => simp at hl
theorem PEs.two {X : Cx} {C : CallT} {es : List Expr} {ces : IEs} (h : PEs X C es ces) (hl : es.length = 2) : ∃ e f ce cf, es = [e, f] ∧ ces = .cons ce (.cons cf .nil) ∧ plainE e = true ∧ PE X e (rE X.K C ce) ∧ plainE f = true ∧ PE X f (rE X.K C cf) := by
  cases h with
  | nil => cases hl
  | cons hp he r =>
    obtain ⟨f, cf, rfl, rfl, h1, h2⟩ := r.one (by simpa using hl)
    exact ⟨_, f, _, cf, rfl, rfl, hp, he, h1, h2⟩
theorem PEs.zero {X : Cx} {C : CallT} {es : List Expr} {ces : IEs} (h : PEs X C es ces) (hl : es.length = 0) : es = [] ∧ ces = .nil := by
  cases h with
  | nil => exact ⟨rfl, rfl⟩
  | cons => cases hl
structure EOk (n : Nat) : Prop where
  E : ∀ {X : Cx} {C : CallT} {c : Ct} {e : Expr} {ce : IE}, Gd C c X → cE c n e = some ce → PE X e (rE X.K C ce)
  T : ∀ {X : Cx} {C : CallT} {c : Ct} {e : Expr} {ct : IC}, Gd C c X → cC c n e = some ct → PT X e (rC X.K C ct) ∧ ∀ op es p, e = .BoolOp op es p → PW X e (rC X.K C ct)
  O : ∀ {X : Cx} {C : CallT} {c : Ct} {e : List Expr} {ct : IO}, Gd C c X → cO c n e = some ct → PTs X e (rO X.K C ct)
  P : ∀ {X : Cx} {C : CallT} {c : Ct} {e : Option Expr} {ct : IP}, Gd C c X → cP c n e = some ct → PO X e (rP X.K C ct)
  A : ∀ {X : Cx} {C : CallT} {c : Ct} {e : List Expr} {ct : IEs}, Gd C c X → cEs c n e = some ct → PEs X C e ct
  W : ∀ {X : Cx} {C : CallT} {c : Ct} {e : List Keyword} {ct : IEs}, Gd C c X → cKs c n e = some ct → PKn X C e ct
  V : ∀ {X : Cx} {C : CallT} {c : Ct} {ks : List (Option Expr)} {vs : List Expr} {ct : IKV}, Gd C c X → cKV c n ks vs = some ct → PKV X C ks vs ct
  I : ∀ {X : Cx} {C : CallT} {c : Ct} {tg e : Expr} {ct : II}, Gd C c X → cI c n tg e = some ct → PI X tg e (rI X.K C ct)
  Q : ∀ {X : Cx} {C : CallT} {c : Ct} {a : Expr} {ops : List CmpOp} {bs : List Expr} {p : Pos} {ce : IE}, Gd C c X → cE c n (.Compare a ops bs p) = some ce → PT X (.Compare a ops bs p) (rC X.K C (.val ce))
theorem EOk.zero : EOk 0 where
  Q := fun _ h => by simp [cE] at h
  E := fun _ h => by simp [cE] at h
  T := fun _ h => by simp [cC] at h
  O := fun _ h => by simp [cO] at h
  P := fun _ h => by simp [cP] at h
  A := fun _ h => by simp [cEs] at h
  W := fun _ h => by simp [cKs] at h
  V := fun _ h => by simp [cKV] at h
  I := fun _ h => by simp [cI] at h
section
variable {X : Cx} {C : CallT} {c : Ct} {n : Nat}
theorem and_t {a b : Bool} (h : (a && b) = true) : a = true ∧ b = true := by simpa using h
theorem succ_P (ih : EOk n) {e : Option Expr} {ct : IP} (G : Gd C c X) (h : cP c (n + 1) e = some ct) : PO X e (rP X.K C ct) := by
  cases e with
  | none =>
    simp only [cP, Option.some.injEq] at h
    exact ok_P (.inl ⟨rfl, h.symm⟩)
  | some e =>
    simp only [cP] at h
    obtain ⟨ce, h1, rfl⟩ := map_some h
    exact ok_P (.inr ⟨e, ce, rfl, rfl, ih.E G h1⟩)
theorem succ_O (ih : EOk n) {e : List Expr} {ct : IO} (G : Gd C c X) (h : cO c (n + 1) e = some ct) : PTs X e (rO X.K C ct) := by
  match e, h with
  | [], h =>
    simp only [cO, Option.some.injEq] at h
    exact ok_O (.inl ⟨rfl, h.symm⟩)
  | [e], h =>
    simp only [cO] at h
    obtain ⟨ce, h1, rfl⟩ := map_some h
    exact ok_O (.inr ⟨e, ce, rfl, rfl, (ih.T G h1).1⟩)
  | _ :: _ :: _, h => simp [cO] at h
theorem succ_A (ih : EOk n) {e : List Expr} {ct : IEs} (G : Gd C c X) (h : cEs c (n + 1) e = some ct) : PEs X C e ct := by
  cases e with
  | nil =>
    simp only [cEs, Option.some.injEq] at h
    subst h
    exact .nil
  | cons e es =>
    simp only [cEs] at h
    obtain ⟨hp, h⟩ := ite_some h
    obtain ⟨ce, h1, h⟩ := bind_some h
    obtain ⟨ces, h2, rfl⟩ := map_some h
    exact .cons hp (ih.E G h1) (ih.A G h2)
theorem succ_W (ih : EOk n) {e : List Keyword} {ct : IEs} (G : Gd C c X) (h : cKs c (n + 1) e = some ct) : PKn X C e ct := by
  cases e with
  | nil =>
    simp only [cKs, Option.some.injEq] at h
    subst h
    exact .nil
  | cons e es =>
    simp only [cKs] at h
    obtain ⟨ce, h1, h⟩ := bind_some h
    obtain ⟨ces, h2, rfl⟩ := map_some h
    exact .cons (ih.E G h1) (ih.W G h2)
theorem succ_V (ih : EOk n) {ks : List (Option Expr)} {vs : List Expr} {ct : IKV} (G : Gd C c X) (h : cKV c (n + 1) ks vs = some ct) : PKV X C ks vs ct := by
  match ks, vs, h with
  | [], [], h =>
    simp only [cKV, Option.some.injEq] at h
    subst h
    exact .nil
  | some k :: ks, v :: vs, h =>
    simp only [cKV] at h
    obtain ⟨ck, h1, h⟩ := bind_some h
    obtain ⟨cv, h2, h⟩ := bind_some h
    obtain ⟨r, h3, rfl⟩ := map_some h
    exact .cons (ih.E G h1) (ih.E G h2) (ih.V G h3)
  | none :: _, _, h => simp [cKV] at h
  | [], _ :: _, h => simp [cKV] at h
  | some _ :: _, [], h => simp [cKV] at h
theorem succ_I (ih : EOk n) {tg e : Expr} {ct : II} (G : Gd C c X) (h : cI c (n + 1) tg e = some ct) : PI X tg e (rI X.K C ct) := by
  have dflt : ∀ {e : Expr}, (cE c n e).map II.seq = some ct → PI X tg e (rI X.K C ct) := fun {e} h => by
    obtain ⟨ce, h1, rfl⟩ := map_some h
    exact pi_seq (ih.E G h1)
  by_cases hc : ∃ x p es kws q, e = .Call (.Name x p) es kws q
  · obtain ⟨x, p, es, kws, q, rfl⟩ := hc
    simp only [cI] at h
    split at h
    · rename_i g
      obtain ⟨g, g4⟩ := and_t g
      obtain ⟨g, g3⟩ := and_t g
      obtain ⟨g1, g2⟩ := and_t g
      obtain rfl := of_decide_eq_true g4
      obtain rfl := List.isEmpty_iff.mp g3
      match es, h with
      | [a], h =>
        obtain ⟨hp, h⟩ := ite_some h
        obtain ⟨ca, h1, rfl⟩ := map_some h
        exact ok_rng1 G g1 hp (ih.E G h1)
      | [a, b], h =>
        obtain ⟨hp, h⟩ := ite_some h
        obtain ⟨hp1, hp2⟩ := and_t hp
        obtain ⟨ca, h1, h⟩ := bind_some h
        obtain ⟨cb, h2, rfl⟩ := map_some h
        exact ok_rng2 G g1 hp1 (ih.E G h1) hp2 (ih.E G h2)
      | [], h => cases h
      | _ :: _ :: _ :: _, h => cases h
    · split at h
      · rename_i g
        obtain ⟨g, g4⟩ := and_t g
        obtain ⟨g, g3⟩ := and_t g
        obtain ⟨g1, g2⟩ := and_t g
        obtain rfl := of_decide_eq_true g4
        obtain rfl := List.isEmpty_iff.mp g3
        split at h
        · obtain ⟨hp, h⟩ := ite_some h
          obtain ⟨hp0, hp⟩ := and_t hp
          obtain ⟨ca, h1, rfl⟩ := map_some h
          cases tg <;> first | exact ok_enm G g1 hp (ih.E G h1) | cases hp0
        · cases h
      · split at h
        · rename_i g
          obtain ⟨g, g4⟩ := and_t g
          obtain ⟨g, g3⟩ := and_t g
          obtain ⟨g1, g2⟩ := and_t g
          obtain rfl := of_decide_eq_true g4
          obtain rfl := List.isEmpty_iff.mp g3
          split at h
          · obtain ⟨hp, h⟩ := ite_some h
            obtain ⟨hp0, hp⟩ := and_t hp
            obtain ⟨hp1, hp2⟩ := and_t hp
            obtain ⟨ca, h1, h⟩ := bind_some h
            obtain ⟨cb, h2, rfl⟩ := map_some h
            cases tg <;> first | exact ok_zip G g1 hp1 (ih.E G h1) hp2 (ih.E G h2) | cases hp0
          · cases h
        · exact dflt h
  · have : cI c (n + 1) tg e = (cE c n e).map II.seq := by
      cases e <;> try rfl
      rename_i f _ _ _
      cases f <;> try rfl
      exact absurd ⟨_, _, _, _, _, rfl⟩ hc
    rw [this] at h
    exact dflt h
theorem succ_T (ih : EOk n) {e : Expr} {ct : IC} (G : Gd C c X) (h : cC c (n + 1) e = some ct) : PT X e (rC X.K C ct) ∧ ∀ op es p, e = .BoolOp op es p → PW X e (rC X.K C ct) := by
  have dflt : ∀ {e : Expr}, (∀ op es p, e ≠ .BoolOp op es p) → (if plainT e then (cE c n e).map IC.val else none) = some ct → PT X e (rC X.K C ct) ∧ ∀ op es p, e = .BoolOp op es p → PW X e (rC X.K C ct) := fun {e} hn h => by
    obtain ⟨hp, h⟩ := ite_some h
    obtain ⟨ce, h1, rfl⟩ := map_some h
    exact ⟨ok_val (ih.E G h1) hp, fun op es p z => absurd z (hn op es p)⟩
  have wpt : ∀ {e : Expr} {ct : IC}, PW X e (rC X.K C ct) → PT X e (rC X.K C ct) ∧ ∀ op es p, e = .BoolOp op es p → PW X e (rC X.K C ct) := fun w => ⟨w.pt, fun _ _ _ _ => w⟩
  match e, h with
  | .BoolOp .And [a] p, h => exact wpt (pw_and1 (ih.T G (show cC c n a = some ct from h)).1)
  | .BoolOp .Or [a] p, h => exact wpt (pw_or1 (ih.T G (show cC c n a = some ct from h)).1)
  | .BoolOp .And (a :: b :: r) p, h =>
    obtain ⟨ca, h1, h⟩ := bind_some (show ((cC c n a).bind fun ca => (cC c n (.BoolOp .And (b :: r) p)).map fun cb => .and ca cb) = some ct from h)
    obtain ⟨cb, h2, rfl⟩ := map_some h
    exact wpt (ok_andT (ih.T G h1).1 ((ih.T G h2).2 _ _ _ rfl))
  | .BoolOp .Or (a :: b :: r) p, h =>
    obtain ⟨ca, h1, h⟩ := bind_some (show ((cC c n a).bind fun ca => (cC c n (.BoolOp .Or (b :: r) p)).map fun cb => .or ca cb) = some ct from h)
    obtain ⟨cb, h2, rfl⟩ := map_some h
    exact wpt (ok_orT (ih.T G h1).1 ((ih.T G h2).2 _ _ _ rfl))
  | .BoolOp .And [] p, h => exact absurd h (by simp [cC, plainT])
  | .BoolOp .Or [] p, h => exact absurd h (by simp [cC, plainT])
  | .UnaryOp .Not a p, h =>
    obtain ⟨ca, h1, rfl⟩ := map_some (show (cC c n a).map IC.not = some ct from h)
    exact ⟨ok_notT (ih.T G h1).1, fun _ _ _ z => nomatch z⟩
  | .IfExp _ _ _ _, h => exact absurd h (by simp [cC])
  | .Compare a ops bs p, h =>
    obtain ⟨ce, h1, rfl⟩ := map_some (show (cE c n (.Compare a ops bs p)).map IC.val = some ct from h)
    exact ⟨ih.Q G h1, fun _ _ _ z => nomatch z⟩
  | .Name .., h => exact dflt (fun _ _ _ z => nomatch z) h
  | .Constant .., h => exact dflt (fun _ _ _ z => nomatch z) h
  | .NamedExpr .., h => exact dflt (fun _ _ _ z => nomatch z) h
  | .BinOp .., h => exact dflt (fun _ _ _ z => nomatch z) h
  | .Lambda .., h => exact dflt (fun _ _ _ z => nomatch z) h
  | .Dict .., h => exact dflt (fun _ _ _ z => nomatch z) h
  | .Set .., h => exact dflt (fun _ _ _ z => nomatch z) h
  | .ListComp .., h => exact dflt (fun _ _ _ z => nomatch z) h
  | .SetComp .., h => exact dflt (fun _ _ _ z => nomatch z) h
  | .DictComp .., h => exact dflt (fun _ _ _ z => nomatch z) h
  | .GeneratorExp .., h => exact dflt (fun _ _ _ z => nomatch z) h
  | .Await .., h => exact dflt (fun _ _ _ z => nomatch z) h
  | .Yield .., h => exact dflt (fun _ _ _ z => nomatch z) h
  | .YieldFrom .., h => exact dflt (fun _ _ _ z => nomatch z) h
  | .Call .., h => exact dflt (fun _ _ _ z => nomatch z) h
  | .JoinedStr .., h => exact dflt (fun _ _ _ z => nomatch z) h
  | .FormattedValue .., h => exact dflt (fun _ _ _ z => nomatch z) h
  | .Attribute .., h => exact dflt (fun _ _ _ z => nomatch z) h
  | .Subscript .., h => exact dflt (fun _ _ _ z => nomatch z) h
  | .Starred .., h => exact dflt (fun _ _ _ z => nomatch z) h
  | .List .., h => exact dflt (fun _ _ _ z => nomatch z) h
  | .Slice .., h => exact dflt (fun _ _ _ z => nomatch z) h
  | .Tuple .., h => exact dflt (fun _ _ _ z => nomatch z) h
  | .UnaryOp .USub _ _, h => exact dflt (fun _ _ _ z => nomatch z) h
  | .UnaryOp .UAdd _ _, h => exact dflt (fun _ _ _ z => nomatch z) h
  | .UnaryOp .Invert _ _, h => exact dflt (fun _ _ _ z => nomatch z) h
theorem cmp_cases {a : Expr} {ops : List CmpOp} {bs : List Expr} {p : Pos} {ce : IE} (h : cE c (n + 1) (.Compare a ops bs p) = some ce) :
    (∃ op b ca cb, ops = [op] ∧ bs = [b] ∧ plainE b = true ∧ cE c n a = some ca ∧ cE c n b = some cb ∧ ce = .cmp op ca cb) ∨
    (∃ op op' b d ca cb cd, ops = [op, op'] ∧ bs = [b, d] ∧ ordOp op = true ∧ ordOp op' = true ∧ cE c n a = some ca ∧ cE c n b = some cb ∧ cE c n d = some cd ∧ ce = .chn op op' ca cb cd) := by
  match ops, bs, h with
  | [op], [b], h =>
    obtain ⟨hp, h⟩ := ite_some (show (if plainE b then (cE c n a).bind fun ca => (cE c n b).map fun cb => IE.cmp op ca cb else none) = some ce from h)
    obtain ⟨ca, h2, h⟩ := bind_some h
    obtain ⟨cb, h3, rfl⟩ := map_some h
    exact .inl ⟨op, b, ca, cb, rfl, rfl, hp, h2, h3, rfl⟩
  | [op, op'], [b, d], h =>
    obtain ⟨hp, h⟩ := ite_some (show (if ordOp op && ordOp op' then (cE c n a).bind fun ca => (cE c n b).bind fun cb => (cE c n d).map fun cd => IE.chn op op' ca cb cd else none) = some ce from h)
    obtain ⟨hp1, hp2⟩ := and_t hp
    obtain ⟨ca, h2, h⟩ := bind_some h
    obtain ⟨cb, h3, h⟩ := bind_some h
    obtain ⟨cd, h4, rfl⟩ := map_some h
    exact .inr ⟨op, op', b, d, ca, cb, cd, rfl, rfl, hp1, hp2, h2, h3, h4, rfl⟩
  | [], _, h => exact absurd h (by simp [cE])
  | [_], [], h => exact absurd h (by simp [cE])
  | [_], _ :: _ :: _, h => exact absurd h (by simp [cE])
  | [_, _], [], h => exact absurd h (by simp [cE])
  | [_, _], [_], h => exact absurd h (by simp [cE])
  | [_, _], _ :: _ :: _ :: _, h => exact absurd h (by simp [cE])
  | _ :: _ :: _ :: _, _, h => exact absurd h (by simp [cE])
theorem succ_Q (ih : EOk n) {a : Expr} {ops : List CmpOp} {bs : List Expr} {p : Pos} {ce : IE} (G : Gd C c X) (h : cE c (n + 1) (.Compare a ops bs p) = some ce) : PT X (.Compare a ops bs p) (rC X.K C (.val ce)) := by
  rcases cmp_cases h with ⟨op, b, ca, cb, rfl, rfl, hp, h2, h3, rfl⟩ | ⟨op, op', b, d, ca, cb, cd, rfl, rfl, hp1, hp2, h2, h3, h4, rfl⟩
  · exact ok_cmpT G hp (ih.E G h2) (ih.E G h3)
  · exact ok_chnT G hp1 hp2 (ih.E G h2) (ih.E G h3) (ih.E G h4)
theorem mth_ok (ih : EOk n) {o : Expr} {m : Str} {ap cp : Pos} {es : List Expr} {ce : IE} (G : Gd C c X) (h : cE c (n + 1) (.Call (.Attribute o m ap) es [] cp) = some ce) : PE X (.Call (.Attribute o m ap) es [] cp) (rE X.K C ce) := by
  obtain ⟨g, h⟩ := ite_some (show (if attrOk o && ap.endLine == cp.line then (mthOf m es.length).bind fun mt => (cE c n o).bind fun co => (cEs c n es).map (IE.mth mt co) else none) = some ce from h)
  obtain ⟨g1, g2⟩ := and_t g
  obtain ⟨mt, hm, h⟩ := bind_some h
  obtain ⟨co, h1, h⟩ := bind_some h
  obtain ⟨ces, h2, rfl⟩ := map_some h
  have ho := ih.E G h1
  have ha := ih.A G h2
  unfold mthOf at hm
  by_cases g : m = ("append" : Str) ∧ es.length = 1
  · rw [if_pos g] at hm; cases hm; obtain ⟨rfl, hl⟩ := g
    obtain ⟨e, ce, rfl, rfl, hp, he⟩ := ha.one hl
    exact ok_lm1 (by decide) PySem.F.slot_list_append PySem.F.type_list_append g1 g2 hp ho he
  rw [if_neg g] at hm; clear g
  by_cases g : m = ("pop" : Str) ∧ es.length = 0
  · rw [if_pos g] at hm; cases hm; obtain ⟨rfl, hl⟩ := g
    obtain ⟨rfl, rfl⟩ := ha.zero hl
    exact ok_lm0 (by decide) PySem.F.slot_list_pop PySem.F.type_list_pop g1 g2 ho
  rw [if_neg g] at hm; clear g
  by_cases g : m = ("pop" : Str) ∧ es.length = 1
  · rw [if_pos g] at hm; cases hm; obtain ⟨rfl, hl⟩ := g
    obtain ⟨e, ce, rfl, rfl, hp, he⟩ := ha.one hl
    exact ok_lm1 (by decide) PySem.F.slot_list_pop PySem.F.type_list_pop g1 g2 hp ho he
  rw [if_neg g] at hm; clear g
  by_cases g : m = ("extend" : Str) ∧ es.length = 1
  · rw [if_pos g] at hm; cases hm; obtain ⟨rfl, hl⟩ := g
    obtain ⟨e, ce, rfl, rfl, hp, he⟩ := ha.one hl
    exact ok_lm1 (by decide) PySem.F.slot_list_extend PySem.F.type_list_extend g1 g2 hp ho he
  rw [if_neg g] at hm; clear g
  by_cases g : m = ("insert" : Str) ∧ es.length = 2
  · rw [if_pos g] at hm; cases hm; obtain ⟨rfl, hl⟩ := g
    obtain ⟨e, f, ce, cf, rfl, rfl, hp, he, hp2, hf⟩ := ha.two hl
    exact ok_lm2 (by decide) PySem.F.slot_list_insert PySem.F.type_list_insert g1 g2 hp hp2 ho he hf
  rw [if_neg g] at hm; clear g
  by_cases g : m = ("join" : Str) ∧ es.length = 1
  · rw [if_pos g] at hm; cases hm; obtain ⟨rfl, hl⟩ := g
    obtain ⟨e, ce, rfl, rfl, hp, he⟩ := ha.one hl
    exact ok_join g1 g2 hp ho he
  rw [if_neg g] at hm; clear g
  by_cases g : m = ("get" : Str) ∧ es.length = 1
  · rw [if_pos g] at hm; cases hm; obtain ⟨rfl, hl⟩ := g
    obtain ⟨e, ce, rfl, rfl, hp, he⟩ := ha.one hl
    exact ok_get1 G g1 g2 hp ho he
  rw [if_neg g] at hm; clear g
  by_cases g : m = ("get" : Str) ∧ es.length = 2
  · rw [if_pos g] at hm; cases hm; obtain ⟨rfl, hl⟩ := g
    obtain ⟨e, f, ce, cf, rfl, rfl, hp, he, hp2, hf⟩ := ha.two hl
    exact ok_get2 G g1 g2 hp hp2 ho he hf
  rw [if_neg g] at hm
  cases hm
theorem rg_of {es : List Expr} {a : Expr} (h : rgArg c es = some a) : ∃ p2 pos2, es = [.Call (.Name "range" p2) [a] [] pos2] ∧ glB c.sc ("range" : Str) = true := by
  unfold rgArg at h
  split at h
  · obtain ⟨g, h⟩ := ite_some h
    cases h
    obtain ⟨g, g3⟩ := and_t g
    obtain ⟨g1, g2⟩ := and_t g
    obtain rfl := of_decide_eq_true g3
    exact ⟨_, _, rfl, g1⟩
  · cases h
theorem call_ok (ih : EOk n) {x : Str} {p pos : Pos} {es : List Expr} {ce : IE} (G : Gd C c X) (h0 : cE c (n + 1) (.Call (.Name x p) es [] pos) = some ce) : PE X (.Call (.Name x p) es [] pos) (rE X.K C ce) := by
  simp only [cE] at h0
  obtain ⟨g, h⟩ := ite_some h0
  clear h0
  obtain ⟨g1, g2⟩ := and_t g
  clear g
  cases hf : fnIx c.funs x 0 with
  | some f =>
    rw [hf] at h
    obtain ⟨hl, k⟩ := ite_some h
    obtain ⟨ces, h1, rfl⟩ := map_some k
    exact ok_call G g1 g2 hf hl (ih.A G h1).pan
  | none =>
    rw [hf] at h
    dsimp only at h
    by_cases hx : x = ("isinstance" : Str)
    · rw [if_pos hx] at h
      subst hx
      match es, h with
      | [a, t], h =>
        obtain ⟨hp, k⟩ := ite_some h
        obtain ⟨ca, h1, k⟩ := bind_some k
        obtain ⟨ty, h2, rfl⟩ := map_some k
        exact ok_isi G g1 hp h2 (ih.E G h1)
      | [], h => cases h
      | [_], h => cases h
      | _ :: _ :: _ :: _, h => cases h
    · rw [if_neg hx] at h
      cases ha : rgArg c es with
      | some a =>
        rw [ha] at h
        obtain ⟨⟨hx, hp⟩, k⟩ := ite_some h
        subst hx
        obtain ⟨ca, h1, rfl⟩ := map_some k
        obtain ⟨p2, pos2, rfl, g3⟩ := rg_of ha
        exact ok_listRange G g1 g3 hp (ih.E G h1)
      | none =>
        rw [ha] at h
        obtain ⟨b, hb, k⟩ := bind_some h
        obtain ⟨ces, h1, rfl⟩ := map_some k
        exact ok_blt G g1 hb (ih.A G h1).pan
theorem callK_ok (ih : EOk n) {x : Str} {p pos : Pos} {es : List Expr} {k : Keyword} {kws : List Keyword} {ce : IE} (G : Gd C c X) (h : cE c (n + 1) (.Call (.Name x p) es (k :: kws) pos) = some ce) : PE X (.Call (.Name x p) es (k :: kws) pos) (rE X.K C ce) := by
  obtain ⟨g, h⟩ := ite_some (show (if glB c.sc x && okN x && (k :: kws).all (fun k => k.arg.isSome) then
        (fnIx c.funs x 0).bind fun f => (kwIx c.kws f es.length ((k :: kws).filterMap (·.arg))).bind fun pm =>
          (cEs c n es).bind fun ces => (cKs c n (k :: kws)).map fun cks => IE.callK f ces cks pm
      else none) = some ce from h)
  obtain ⟨g, g3⟩ := and_t g
  obtain ⟨g1, g2⟩ := and_t g
  obtain ⟨f, h1, h⟩ := bind_some h
  obtain ⟨pm, h2, h⟩ := bind_some h
  obtain ⟨ces, h3, h⟩ := bind_some h
  obtain ⟨cks, h4, rfl⟩ := map_some h
  exact ok_callK G g1 g2 g3 h1 h2 (ih.A G h3).pan (ih.W G h4)
theorem lc_ok (ih : EOk n) {elt : Expr} {gs : List Comprehension} {scope : Scope} {p : Pos} {ce : IE} (G : Gd C c X) (h0 : cE c (n + 1) (.ListComp elt gs scope p) = some ce) : PE X (.ListComp elt gs scope p) (rE X.K C ce) := by
  match gs, h0 with
  | [⟨tg, it, ifs, 0⟩], h =>
    obtain ⟨g, h⟩ := ite_some (show (if blkC c.N c.sc scope ((ownOf c.N scope).map fun p => (p.1, p.2.nat)) && plainE it then
        (cI c n tg it).bind fun ci => (cmpTg (blkCt c scope) n tg).bind fun ct => (cO (blkCt c scope) n ifs).bind fun cf => (cE (blkCt c scope) n elt).bind fun ce =>
          if (tgIx ct).all fun i => ((ownOf c.N scope).map (·.2)).contains i then some (IE.lc ce ct ci cf ((ownOf c.N scope).map (·.2))) else none
      else none) = some ce from h)
    obtain ⟨g1, g2⟩ := and_t g
    obtain ⟨ci, h1, h⟩ := bind_some h
    obtain ⟨ct, h2, h⟩ := bind_some h
    obtain ⟨cf, h3, h⟩ := bind_some h
    obtain ⟨ce, h4, h⟩ := bind_some h
    obtain ⟨h5, h⟩ := ite_some h
    cases h
    exact ok_lc G (lc_in G g1 g2 (ih.I G h1) h2 (fun X' G' e => ih.O G' h3) (fun X' G' e => ih.E G' h4) h5)
  | [⟨tg, it, ifs, 0⟩, ⟨tg1, it1, ifs1, 0⟩], h =>
    obtain ⟨g, h⟩ := ite_some (show (if blkC c.N c.sc scope ((ownOf c.N scope).map fun p => (p.1, p.2.nat)) && plainE it && plainE it1 then
        (cI c n tg it).bind fun ci => (cmpTg (blkCt c scope) n tg).bind fun ct => (cO (blkCt c scope) n ifs).bind fun cf =>
        (cI (blkCt c scope) n tg1 it1).bind fun ci1 => (cmpTg (blkCt c scope) n tg1).bind fun ct1 => (cO (blkCt c scope) n ifs1).bind fun cf1 => (cE (blkCt c scope) n elt).bind fun ce =>
          if (tgIx ct).all (fun i => ((ownOf c.N scope).map (·.2)).contains i) && (tgIx ct1).all fun i => ((ownOf c.N scope).map (·.2)).contains i then some (IE.lc2 ce ct ci cf ct1 ci1 cf1 ((ownOf c.N scope).map (·.2)) (tgIx ct1)) else none
      else none) = some ce from h)
    obtain ⟨g, g3⟩ := and_t g
    obtain ⟨g1, g2⟩ := and_t g
    obtain ⟨ci, h1, h⟩ := bind_some h
    obtain ⟨ct, h2, h⟩ := bind_some h
    obtain ⟨cf, h3, h⟩ := bind_some h
    obtain ⟨ci1, h4, h⟩ := bind_some h
    obtain ⟨ct1, h5, h⟩ := bind_some h
    obtain ⟨cf1, h6, h⟩ := bind_some h
    obtain ⟨ce, h7, h⟩ := bind_some h
    obtain ⟨h8, h⟩ := ite_some h
    obtain ⟨h8, h9⟩ := and_t h8
    cases h
    exact ok_lc2 G (lc_in2 G (lc_in G g1 g2 (ih.I G h1) h2 (fun X' G' e => ih.O G' h3) (fun X' G' e => ih.E G' h7) h8) g3 (fun X' G' e => ih.I G' h4) h5 (fun X' G' e => ih.O G' h6) h9)
  | [], h => exact absurd h (by simp [cE])
  | [⟨_, _, _, .ofNat (_ + 1)⟩], h => exact nomatch (show none = some ce from h)
  | [⟨_, _, _, .negSucc _⟩], h => exact nomatch (show none = some ce from h)
  | [⟨_, _, _, .ofNat (_ + 1)⟩, _], h => exact nomatch (show none = some ce from h)
  | [⟨_, _, _, .negSucc _⟩, _], h => exact nomatch (show none = some ce from h)
  | [⟨_, _, _, .ofNat 0⟩, ⟨_, _, _, .ofNat (_ + 1)⟩], h => exact nomatch (show none = some ce from h)
  | [⟨_, _, _, .ofNat 0⟩, ⟨_, _, _, .negSucc _⟩], h => exact nomatch (show none = some ce from h)
  | ⟨_, _, _, .ofNat 0⟩ :: ⟨_, _, _, .ofNat 0⟩ :: _ :: _, h => exact nomatch (show none = some ce from h)
  | ⟨_, _, _, .ofNat 0⟩ :: ⟨_, _, _, .ofNat (_ + 1)⟩ :: _ :: _, h => exact nomatch (show none = some ce from h)
  | ⟨_, _, _, .ofNat 0⟩ :: ⟨_, _, _, .negSucc _⟩ :: _ :: _, h => exact nomatch (show none = some ce from h)
  | ⟨_, _, _, .ofNat (_ + 1)⟩ :: _ :: _ :: _, h => exact nomatch (show none = some ce from h)
  | ⟨_, _, _, .negSucc _⟩ :: _ :: _ :: _, h => exact nomatch (show none = some ce from h)
theorem succ_E (ih : EOk n) {e : Expr} {ce : IE} (G : Gd C c X) (h : cE c (n + 1) e = some ce) : PE X e (rE X.K C ce) := by
  match e, h with
  | .Name x p, h =>
    obtain ⟨g, h⟩ := ite_some (show (if visB c.sc x && okN x then (ixOf c.N x).map IE.var else none) = some ce from h)
    obtain ⟨g1, g2⟩ := and_t g
    obtain ⟨i, h1, rfl⟩ := map_some h
    exact ok_var G g1 g2 h1
  | .Constant (.int i) j p, h => cases (show some (IE.cst (.int i)) = some ce from h); exact ok_cst pe_int fun _ _ => by simp only [RV]
  | .Constant (.bool i) j p, h => cases (show some (IE.cst (.bl i)) = some ce from h); exact ok_cst pe_bl fun _ _ => by simp only [RV]
  | .Constant .none j p, h => cases (show some (IE.cst .non) = some ce from h); exact ok_cst pe_non fun _ _ => by simp only [RV]
  | .Constant (.str i) j p, h => cases (show some (IE.cst (.str i)) = some ce from h); exact ok_cst pe_str fun _ _ => by simp only [RV]
  | .BinOp a op b p, h =>
    obtain ⟨ca, h1, h⟩ := bind_some (show ((cE c n a).bind fun ca => (cE c n b).map fun cb => IE.bin op ca cb) = some ce from h)
    obtain ⟨cb, h2, rfl⟩ := map_some h
    exact ok_bin (ih.E G h1) (ih.E G h2)
  | .UnaryOp .USub a p, h =>
    obtain ⟨ca, h1, rfl⟩ := map_some (show (cE c n a).map IE.neg = some ce from h)
    exact ok_neg (ih.E G h1)
  | .UnaryOp .Not a p, h =>
    obtain ⟨ca, h1, rfl⟩ := map_some (show (cE c n a).map IE.not = some ce from h)
    exact ok_not (ih.E G h1)
  | .Compare a ops bs p, h =>
    rcases cmp_cases h with ⟨op, b, ca, cb, rfl, rfl, hp, h2, h3, rfl⟩ | ⟨op, op', b, d, ca, cb, cd, rfl, rfl, hp1, hp2, h2, h3, h4, rfl⟩
    · exact ok_cmp G hp (ih.E G h2) (ih.E G h3)
    · exact ok_chn G hp1 hp2 (ih.E G h2) (ih.E G h3) (ih.E G h4)
  | .BoolOp .And [a] p, h => exact pe_one (ih.E G (show cE c n a = some ce from h))
  | .BoolOp .Or [a] p, h => exact pe_one (ih.E G (show cE c n a = some ce from h))
  | .BoolOp .And (a :: b :: r) p, h =>
    obtain ⟨ca, h1, h⟩ := bind_some (show ((cE c n a).bind fun ca => (cE c n (.BoolOp .And (b :: r) p)).map fun cb => IE.and ca cb) = some ce from h)
    obtain ⟨cb, h2, rfl⟩ := map_some h
    exact ok_and (ih.E G h1) (ih.E G h2)
  | .BoolOp .Or (a :: b :: r) p, h =>
    obtain ⟨ca, h1, h⟩ := bind_some (show ((cE c n a).bind fun ca => (cE c n (.BoolOp .Or (b :: r) p)).map fun cb => IE.or ca cb) = some ce from h)
    obtain ⟨cb, h2, rfl⟩ := map_some h
    exact ok_or (ih.E G h1) (ih.E G h2)
  | .IfExp t a b p, h =>
    obtain ⟨ct, h1, h⟩ := bind_some (show ((cC c n t).bind fun ct => (cE c n a).bind fun ca => (cE c n b).map fun cb => IE.ite ct ca cb) = some ce from h)
    obtain ⟨ca, h2, h⟩ := bind_some h
    obtain ⟨cb, h3, rfl⟩ := map_some h
    exact ok_ite (ih.T G h1).1 (ih.E G h2) (ih.E G h3)
  | .Subscript a (.Slice lo hi none p2) p, h =>
    obtain ⟨ca, h1, h⟩ := bind_some (show ((cE c n a).bind fun ca => (cP c n lo).bind fun cl => (cP c n hi).map fun ch => IE.slc ca cl ch) = some ce from h)
    obtain ⟨cl, h2, h⟩ := bind_some h
    obtain ⟨ch, h3, rfl⟩ := map_some h
    exact ok_slc (ih.E G h1) (ih.P G h2) (ih.P G h3)
  | .Tuple es k p, h =>
    obtain ⟨ces, h1, rfl⟩ := map_some (show (cEs c n es).map IE.tup = some ce from h)
    exact ok_tup (ih.A G h1).pan.pa
  | .List es p, h =>
    obtain ⟨ces, h1, rfl⟩ := map_some (show (cEs c n es).map IE.lst = some ce from h)
    exact ok_lst (ih.A G h1).pan.pa
  | .Dict ks vs p, h =>
    obtain ⟨h15, h⟩ := ite_some (show (if decide (ks.length ≤ 15) then (cKV c n ks vs).map IE.dsp else none) = some ce from h)
    obtain ⟨r, h1, rfl⟩ := map_some h
    exact ok_dsp (ih.V G h1) (of_decide_eq_true h15)
  | .Call (.Name x p) es [] pos, h => exact call_ok ih G h
  | .Call (.Name x p) es (k :: kws) pos, h => exact callK_ok ih G h
  | .Call (.Attribute o m ap) es [] cp, h => exact mth_ok ih G h
  | .ListComp elt gs scope p, h => exact lc_ok ih G h
  | .Subscript a b p, h =>
    have key : (∀ lo hi p2, b ≠ .Slice lo hi none p2) → (if plainE b then (cE c n a).bind fun ca => (cE c n b).map fun cb => IE.idx ca cb else none) = some ce := fun hn => by
      rw [← h]
      cases b <;> try rfl
      rename_i st _
      cases st with
      | none => exact absurd rfl (hn _ _ _)
      | some _ => rfl
    by_cases hb : ∃ lo hi p2, b = .Slice lo hi none p2
    · obtain ⟨lo, hi, p2, rfl⟩ := hb
      obtain ⟨ca, h1, h⟩ := bind_some (show ((cE c n a).bind fun ca => (cP c n lo).bind fun cl => (cP c n hi).map fun ch => IE.slc ca cl ch) = some ce from h)
      obtain ⟨cl, h2, h⟩ := bind_some h
      obtain ⟨ch, h3, rfl⟩ := map_some h
      exact ok_slc (ih.E G h1) (ih.P G h2) (ih.P G h3)
    · obtain ⟨hp, h⟩ := ite_some (key fun lo hi p2 z => hb ⟨lo, hi, p2, z⟩)
      obtain ⟨ca, h1, h⟩ := bind_some h
      obtain ⟨cb, h2, rfl⟩ := map_some h
      exact ok_idx G hp (ih.E G h1) (ih.E G h2)
  | .Constant (.float ..) _ _, h => exact absurd h (by simp [cE])
  | .Constant (.complex ..) _ _, h => exact absurd h (by simp [cE])
  | .Constant (.bytes ..) _ _, h => exact absurd h (by simp [cE])
  | .Constant (.ellipsis ..) _ _, h => exact absurd h (by simp [cE])
  | .UnaryOp .Invert _ _, h => exact absurd h (by simp [cE])
  | .UnaryOp .UAdd _ _, h => exact absurd h (by simp [cE])
  | .BoolOp .And [] p, h => exact absurd h (by simp [cE])
  | .BoolOp .Or [] p, h => exact absurd h (by simp [cE])
  | .Call (.Constant ..) _ _ _, h => exact absurd h (by simp [cE])
  | .Call (.BoolOp ..) _ _ _, h => exact absurd h (by simp [cE])
  | .Call (.NamedExpr ..) _ _ _, h => exact absurd h (by simp [cE])
  | .Call (.BinOp ..) _ _ _, h => exact absurd h (by simp [cE])
  | .Call (.UnaryOp ..) _ _ _, h => exact absurd h (by simp [cE])
  | .Call (.Compare ..) _ _ _, h => exact absurd h (by simp [cE])
  | .Call (.IfExp ..) _ _ _, h => exact absurd h (by simp [cE])
  | .Call (.Subscript ..) _ _ _, h => exact absurd h (by simp [cE])
  | .Call (.Lambda ..) _ _ _, h => exact absurd h (by simp [cE])
  | .Call (.Dict ..) _ _ _, h => exact absurd h (by simp [cE])
  | .Call (.Set ..) _ _ _, h => exact absurd h (by simp [cE])
  | .Call (.ListComp ..) _ _ _, h => exact absurd h (by simp [cE])
  | .Call (.SetComp ..) _ _ _, h => exact absurd h (by simp [cE])
  | .Call (.DictComp ..) _ _ _, h => exact absurd h (by simp [cE])
  | .Call (.GeneratorExp ..) _ _ _, h => exact absurd h (by simp [cE])
  | .Call (.Await ..) _ _ _, h => exact absurd h (by simp [cE])
  | .Call (.Yield ..) _ _ _, h => exact absurd h (by simp [cE])
  | .Call (.YieldFrom ..) _ _ _, h => exact absurd h (by simp [cE])
  | .Call (.Call ..) _ _ _, h => exact absurd h (by simp [cE])
  | .Call (.JoinedStr ..) _ _ _, h => exact absurd h (by simp [cE])
  | .Call (.FormattedValue ..) _ _ _, h => exact absurd h (by simp [cE])
  | .Call (.Starred ..) _ _ _, h => exact absurd h (by simp [cE])
  | .Call (.List ..) _ _ _, h => exact absurd h (by simp [cE])
  | .Call (.Slice ..) _ _ _, h => exact absurd h (by simp [cE])
  | .Call (.Tuple ..) _ _ _, h => exact absurd h (by simp [cE])
  | .Call (.Attribute ..) _ (_ :: _) _, h => exact absurd h (by simp [cE])
  | .NamedExpr .., h => exact absurd h (by simp [cE])
  | .Lambda .., h => exact absurd h (by simp [cE])
  | .Set .., h => exact absurd h (by simp [cE])
  | .SetComp .., h => exact absurd h (by simp [cE])
  | .DictComp .., h => exact absurd h (by simp [cE])
  | .GeneratorExp .., h => exact absurd h (by simp [cE])
  | .Await .., h => exact absurd h (by simp [cE])
  | .Yield .., h => exact absurd h (by simp [cE])
  | .YieldFrom .., h => exact absurd h (by simp [cE])
  | .JoinedStr .., h => exact absurd h (by simp [cE])
  | .FormattedValue .., h => exact absurd h (by simp [cE])
  | .Attribute .., h => exact absurd h (by simp [cE])
  | .Starred .., h => exact absurd h (by simp [cE])
  | .Slice .., h => exact absurd h (by simp [cE])
end
theorem eok : ∀ n, EOk n
  | 0 => .zero
  | n + 1 => ⟨fun G h => succ_E (eok n) G h, fun G h => succ_T (eok n) G h, fun G h => succ_O (eok n) G h, fun G h => succ_P (eok n) G h, fun G h => succ_A (eok n) G h, fun G h => succ_W (eok n) G h, fun G h => succ_V (eok n) G h, fun G h => succ_I (eok n) G h, fun G h => succ_Q (eok n) G h⟩
end Mi

namespace Mi
open PySem L2
/-! ### statements: compiling -/
def augOp : Operator → Bool
  | .Add => true
  | .Sub => true
  | _ => false
def swB (c : Ct) (t : Str) (py pos : Pos) (scope : Scope) : Bool := c.sc.names.lookup t == some .local && py.line == pos.line && !(scope.names.any fun (n, k) => n == t && (k == .local || k == .cell))
def isSubs : Expr → Bool
  | .Subscript _ _ _ => true
  | _ => false
def isDoc : Expr → Bool
  | .Constant (.str _) _ _ => true
  | _ => false
/-- what a list comprehension's store of a name asks -/
def lcOk : Expr → Bool
  | .ListComp _ [⟨_, _, _, 0⟩] _ _ => true
  | .ListComp _ [⟨_, _, _, 0⟩, ⟨_, _, _, 0⟩] _ _ => true
  | e => noComp e
mutual
def cS (c : Ct) : Nat → Stmt → Option IS
  | 0, _ => none
  | n + 1, s => match s with
    | .Assign [.Subscript o i _] e _ => if plainE i then (cE c n e).bind fun ce => (cE c n o).bind fun co => (cE c n i).map fun ci => .asgS co ci ce else none
    | .Assign [.Name x p] e _ => if stB c x && lcOk e then (ixOf c.N x).bind fun i => (cE c n e).map fun ce => .asg (.name i) ce else none
    | .Assign [.Tuple ts k p] e _ => if !isTup e then (cmpTg c n (.Tuple ts k p)).bind fun t => (cE c n e).map fun ce => .asg t ce else none
    | .AugAssign (.Name x _) op e _ => if stB c x && augOp op then (ixOf c.N x).bind fun i => (cE c n e).map fun ce => .aug i op ce else none
    | .AugAssign (.Subscript o i _) op e _ => if plainE i && augOp op then (cE c n o).bind fun co => (cE c n i).bind fun ci => (cE c n e).map fun ce => .augS co ci op ce else none
    | .Expr e _ => if isDoc e then some .pas else if noComp e then (cE c n e).map .exp else none
    | .Return (some e) _ => (cE c n e).map .ret
    | .Return none _ => some .retN
    | .If t a b _ => (cC c n t).bind fun ct => (cSs c n a).bind fun ca => (cSs c n b).map fun cb => .ite ct ca cb
    | .While t b [] _ => (cC c n t).bind fun ct => (cSs c n b).map fun cb => .whl ct cb
    | .For tg it b [] _ => if plainE it then (cI c n tg it).bind fun ci => (cmpTg c n tg).bind fun t => (cSs c n b).map fun cb => .for t ci cb else none
    | .Break _ => some .brk
    | .Continue _ => some .cnt
    | .Pass _ => some .pas
    | _ => none
def cSs (c : Ct) : Nat → List Stmt → Option ISs
  | 0, _ => none
  | n + 1, [] => some .nil
  | n + 1, s :: r => (cS c n s).bind fun cs => (cSs c n r).map fun cr => .cons cs cr
end
/-! ### their readings -/
def fin (K : PySem.W.Frag) (m : List Addr) (D : Ends) (f : Fl) (σ : L2.St) (H : Hp) : Prop := match f with
  | .nx => D.nx σ H
  | .brk => D.bk σ H
  | .cnt => D.ct σ H
  | .ret d => ∀ v, RV K H m d v → D.rt v H
def rX (K : PySem.W.Frag) (x : Env → Sto → R) : TS := fun D σ H => ∃ m ρ S f ρ' S', SE K m H ρ σ ∧ SH K m H S ∧ x ρ S = some (f, ρ', S') ∧ ∀ m' H' σ', Ext K H H' m m' → SH K m' H' S' → SE K m' H' ρ' σ' → fin K m' D f σ' H'
def rS (K : PySem.W.Frag) (C : CallT) (W : Nat) (s : IS) : TS := rX K (ex C W s)
def rSs (K : PySem.W.Frag) (C : CallT) (W : Nat) (s : ISs) : TS := rX K (exs C W s)
section
variable {X : Cx} {C : CallT} {c : Ct} {W n : Nat}
theorem sw_no {e : Expr} {t : Option Expr} {l : Nat} (h : noComp e = true) : swapsWith e t l X.env = pure false := by cases e <;> first | rfl | cases h
theorem blk_kind (G : Gd C c X) : X.env.blockKind = .function := by
  unfold Env.blockKind
  rw [G.sc, G.kd]
  rfl
theorem sw_lc {elt : Expr} {gs : List Comprehension} {scope : Scope} {p py pos : Pos} {x : Str} (G : Gd C c X) : swapsWith (.ListComp elt gs scope p) (some (.Name x py)) pos.line X.env = pure (swB c x py p scope) := by
  show (pure (X.env.blockKind == .function && X.env.scope.names.lookup x == some .local && py.line == p.line && !(scope.names.any fun (n, k) => n == x && (k == .local || k == .cell))) : Sem Bool) = _
  rw [blk_kind G, G.sc]
  rfl
/-- name = e -/
theorem asg_name {x : Str} {p pos : Pos} {e : Expr} {ce : IE} {i : Ix} (G : Gd C c X) (hx : stB c x = true) (hi : ixOf c.N x = some i) (he : PE X e (rE X.K C ce)) (hs : swapsWith e (some (.Name x p)) pos.line X.env = pure false) :
    PS X (.Assign [.Name x p] e pos) (rS X.K C W (.asg (.name i) ce)) := by
  obtain ⟨h1, h2⟩ := st_loc hx G
  refine PS.star fun D σ H h => ⟨_, ps_set (by rw [G.N]; exact G.nd) (by rw [G.N]; exact ixOf_ok hi) h1 he hs h2, ?_⟩
  obtain ⟨m, ρ, S, f, ρ', S', se, sh, hv, q⟩ := h
  simp only [ex] at hv
  obtain ⟨⟨d, S1⟩, e1, hv⟩ := bind_some hv
  simp only [tgt, Option.map_some, Option.some.injEq, Prod.mk.injEq] at hv
  obtain ⟨rfl, rfl, rfl⟩ := hv
  exact ⟨m, ρ, S, d, S1, se, sh, e1, fun m1 H1 v x1 sh1 r1 => q m1 H1 _ x1 sh1 ((se.mono x1).put i r1)⟩
/-- name = [..], stored as it is made -/
theorem asg_star {x : Str} {e : Expr} {i : Ix} {te : TE} {ce : IE} {stm : Stmt} (hp : PS X stm (tAsg te (gName i.nat))) (rd : ∀ {σ : L2.St} {H : Hp} {Q : VK}, rE X.K C ce σ H Q → te σ H Q) : PS X stm (rS X.K C W (.asg (.name i) ce)) := by
  refine PS.star fun D σ H h => ⟨_, hp, ?_⟩
  obtain ⟨m, ρ, S, f, ρ', S', se, sh, hv, q⟩ := h
  simp only [ex] at hv
  obtain ⟨⟨d, S1⟩, e1, hv⟩ := bind_some hv
  simp only [tgt, Option.map_some, Option.some.injEq, Prod.mk.injEq] at hv
  obtain ⟨rfl, rfl, rfl⟩ := hv
  exact rd ⟨m, ρ, S, d, S1, se, sh, e1, fun m1 H1 v x1 sh1 r1 => q m1 H1 _ x1 sh1 ((se.mono x1).put i r1)⟩
theorem swB_loc {x : Str} {py p : Pos} {scope : Scope} (h : swB c x py p scope = true) (G : Gd C c X) : X.env.scope.names.lookup x = some .local := by
  rw [G.sc]
  unfold swB at h
  obtain ⟨h, _⟩ := and_t h
  obtain ⟨h, _⟩ := and_t h
  exact eq_of_beq h
theorem ok_asgN {x : Str} {p pos : Pos} {e : Expr} {ce : IE} {i : Ix} (G : Gd C c X) (hx : stB c x = true) (hl : lcOk e = true) (hi : ixOf c.N x = some i) (he : cE c n e = some ce) : PS X (.Assign [.Name x p] e pos) (rS X.K C W (.asg (.name i) ce)) := by
  have ih := eok n
  cases hn : noComp e with
  | true => exact asg_name G hx hi (ih.E G he) (sw_no hn)
  | false =>
    cases n with
    | zero => simp [cE] at he
    | succ n =>
    have ih' := eok n
    match e, hl, hn, he with
    | .ListComp elt [⟨tg, it, ifs, 0⟩] scope lp, _, _, h =>
      cases hw : swB c x p lp scope with
      | false => exact asg_name G hx hi (ih.E G h) (by rw [sw_lc G, hw])
      | true =>
        obtain ⟨g, h⟩ := ite_some (show (if blkC c.N c.sc scope ((ownOf c.N scope).map fun p => (p.1, p.2.nat)) && plainE it then
            (cI c n tg it).bind fun ci => (cmpTg (blkCt c scope) n tg).bind fun ct => (cO (blkCt c scope) n ifs).bind fun cf => (cE (blkCt c scope) n elt).bind fun ce =>
              if (tgIx ct).all fun i => ((ownOf c.N scope).map (·.2)).contains i then some (IE.lc ce ct ci cf ((ownOf c.N scope).map (·.2))) else none
          else none) = some ce from h)
        obtain ⟨g1, g2⟩ := and_t g
        obtain ⟨ci, h1, h⟩ := bind_some h
        obtain ⟨ct, h2, h⟩ := bind_some h
        obtain ⟨cf, h3, h⟩ := bind_some h
        obtain ⟨ce, h4, h⟩ := bind_some h
        obtain ⟨h5, h⟩ := ite_some h
        cases h
        have L := lc_in G g1 g2 (ih'.I G h1) h2 (fun X' G' e => ih'.O G' h3) (fun X' G' e => ih'.E G' h4) h5
        have base := ps_setLc (spos := pos) (pos := lp) (i := i.nat) (y := x) (py := p) G.calm (by rw [G.N]; exact G.nd) (by rw [G.N]; exact ixOf_ok hi) (swB_loc hw G) (by rw [sw_lc G, hw]) L.hi L.ok L.hg L.ho L.he (fun x => foldPlain L.hp)
        rw [own_map] at base
        exact asg_star (x := x) (e := elt) base fun h => rd_lc L.hw h
    | .ListComp elt [⟨tg, it, ifs, 0⟩, ⟨tg1, it1, ifs1, 0⟩] scope lp, _, _, h =>
      cases hw : swB c x p lp scope with
      | false => exact asg_name G hx hi (ih.E G h) (by rw [sw_lc G, hw])
      | true =>
        obtain ⟨g, h⟩ := ite_some (show (if blkC c.N c.sc scope ((ownOf c.N scope).map fun p => (p.1, p.2.nat)) && plainE it && plainE it1 then
            (cI c n tg it).bind fun ci => (cmpTg (blkCt c scope) n tg).bind fun ct => (cO (blkCt c scope) n ifs).bind fun cf =>
            (cI (blkCt c scope) n tg1 it1).bind fun ci1 => (cmpTg (blkCt c scope) n tg1).bind fun ct1 => (cO (blkCt c scope) n ifs1).bind fun cf1 => (cE (blkCt c scope) n elt).bind fun ce =>
              if (tgIx ct).all (fun i => ((ownOf c.N scope).map (·.2)).contains i) && (tgIx ct1).all fun i => ((ownOf c.N scope).map (·.2)).contains i then some (IE.lc2 ce ct ci cf ct1 ci1 cf1 ((ownOf c.N scope).map (·.2)) (tgIx ct1)) else none
          else none) = some ce from h)
        obtain ⟨g, g3⟩ := and_t g
        obtain ⟨g1, g2⟩ := and_t g
        obtain ⟨ci, h1, h⟩ := bind_some h
        obtain ⟨ct, h2, h⟩ := bind_some h
        obtain ⟨cf, h3, h⟩ := bind_some h
        obtain ⟨ci1, h4, h⟩ := bind_some h
        obtain ⟨ct1, h5, h⟩ := bind_some h
        obtain ⟨cf1, h6, h⟩ := bind_some h
        obtain ⟨ce, h7, h⟩ := bind_some h
        obtain ⟨h8, h⟩ := ite_some h
        obtain ⟨h8, h9⟩ := and_t h8
        cases h
        have L := lc_in2 G (lc_in G g1 g2 (ih'.I G h1) h2 (fun X' G' e => ih'.O G' h3) (fun X' G' e => ih'.E G' h7) h8) g3 (fun X' G' e => ih'.I G' h4) h5 (fun X' G' e => ih'.O G' h6) h9
        have base := ps_setLc2 (spos := pos) (pos := lp) (i := i.nat) (y := x) (py := p) G.calm (by rw [G.N]; exact G.nd) (by rw [G.N]; exact ixOf_ok hi) (swB_loc hw G) (by rw [sw_lc G, hw]) L.L.hi L.L.ok L.hv L.L.hg L.L.ho L.hi L.hg L.ho L.L.he (fun x => foldPlain L.L.hp) (fun env x => foldPlain L.hp)
        rw [own_map] at base
        exact asg_star (x := x) (e := elt) base fun h => rd_lc2 L.L.hw h
    | .ListComp _ [] _ _, hl, _, _ => exact nomatch hl
    | .ListComp _ [⟨_, _, _, .ofNat (_ + 1)⟩] _ _, hl, _, _ => exact nomatch hl
    | .ListComp _ [⟨_, _, _, .negSucc _⟩] _ _, hl, _, _ => exact nomatch hl
    | .ListComp _ (⟨_, _, _, .ofNat (_ + 1)⟩ :: _ :: _) _ _, hl, _, _ => exact nomatch hl
    | .ListComp _ (⟨_, _, _, .negSucc _⟩ :: _ :: _) _ _, hl, _, _ => exact nomatch hl
    | .ListComp _ (⟨_, _, _, .ofNat 0⟩ :: ⟨_, _, _, .ofNat (_ + 1)⟩ :: _) _ _, hl, _, _ => exact nomatch hl
    | .ListComp _ (⟨_, _, _, .ofNat 0⟩ :: ⟨_, _, _, .negSucc _⟩ :: _) _ _, hl, _, _ => exact nomatch hl
    | .ListComp _ (⟨_, _, _, .ofNat 0⟩ :: ⟨_, _, _, .ofNat 0⟩ :: _ :: _) _ _, hl, _, _ => exact nomatch hl
    | .SetComp .., hl, hn, _ => exact nomatch hl
    | .DictComp .., hl, hn, _ => exact nomatch hl
end
end Mi

namespace Mi
open PySem L2
section
variable {X : Cx} {C : CallT} {c : Ct} {W n : Nat}
/-! ### o[i] = v -/
theorem set_star : PSet X (fun o i v H Q => ∃ t, PSet X t ∧ t o i v H Q) := fun pins s σ H o i v ov iv u Q I ro ri rv ⟨t, h1, h2⟩ => h1 pins s σ H o i v ov iv u Q I ro ri rv h2
theorem ip_star {op : Operator} : PIp X op (fun x y H Q => ∃ t, PIp X op t ∧ t x y H Q) := fun pins s σ H x y v u Q I r1 r2 ⟨t, h1, h2⟩ => h1 pins s σ H x y v u Q I r1 r2 h2
theorem get_star : PGet X (fun o i H Q => ∃ t, PGet X t ∧ t o i H Q) := fun pins s σ H o i ov iv Q I ro ri ⟨t, h1, h2⟩ => h1 pins s σ H o i ov iv Q I ro ri h2
theorem set_ok {m : List Addr} {H : Hp} {S S' : Sto} {o i x : D} {vo vi vx : V} {Q : Hp → Prop} (G : Gd C c X) (sh : SH X.K m H S) (r1 : RV X.K H m o vo) (r2 : RV X.K H m i vi) (r3 : RV X.K H m x vx) (h : setD o i x S = some S')
    (q : ∀ H', Ext X.K H H' m m → SH X.K m H' S' → Q H') : ∃ t, PSet X t ∧ t vo vi vx H Q := by
  have hu : X.A.units + 1 < cLine := by have := G.hu; omega
  cases o with
  | ptr k =>
    obtain ⟨a, ea, rfl⟩ := ptr_a r1
    simp only [setD] at h
    split at h
    · rename_i ds s1
      cases i with
      | int i =>
        obtain rfl := int_a r2
        obtain ⟨j, h1, h2⟩ := map_some h
        subst h2
        obtain ⟨xs, w1, w2⟩ := sh.obj k a _ ea s1
        have mu : Mut (H a) := by rw [w1]; trivial
        refine ⟨_, set_list, a, xs, i, j, rfl, rfl, w1, by rw [← w2.length]; exact h1, q _ (Ext.write mu) (sh.set ea s1 rfl rfl ⟨_, upd_same, ?_⟩)⟩
        exact (w2.mono (Ext.write mu)).set j (r3.mono (Ext.write mu))
      | _ => cases h
    · rename_i kvs s1
      obtain ⟨kk, h1, h⟩ := bind_some h
      obtain ⟨h2, h3⟩ := ite_some h
      cases h3
      have ek := key_ok r2 h1
      subst ek
      obtain ⟨ks, w1, w2⟩ := sh.obj k a _ ea s1
      have mu : Mut (H a) := by rw [w1]; trivial
      have hl : kvs.length = ks.length := w2.length
      refine ⟨_, set_dict hu, a, _, rfl, DPut.k w1 (by rw [← hl]; exact of_decide_eq_true h2), q _ (Ext.write mu) (sh.set ea s1 rfl rfl ⟨_, upd_same, ?_⟩)⟩
      exact (w2.mono (Ext.write mu)).put (r3.mono (Ext.write mu))
    · cases h
  | _ => cases h
theorem get_list : PGet X (rIxL X.K) := by
  intro pins s σ H x y v u Q I rx ry h
  obtain ⟨p, xs, i, z, rfl, rfl, hq, he, q⟩ := h
  cases rx
  obtain ⟨t, rfl⟩ := ry
  obtain ⟨its, r, pl, hz⟩ := I.list hq
  obtain ⟨j, h1, h2, h3, h4, h5⟩ := atI_get he
  obtain ⟨w, ew, rw'⟩ := r.get h2
  have hl := r.length
  have hn := line63
  have done : EP X pins σ Q w s := ⟨z, H, I, rw', q⟩
  by_cases h0 : 0 ≤ i
  · have hj : i.toNat = j := by
      rw [PySem.seqIndex_of h0 h5] at h1
      exact Option.some.inj h1
    exact PySem.wpAny_getItem_list pl.isList h0 (by omega) (by rw [hj]; simpa using ew) done
  · have hj : (i + (its.toArray.size : Int)).toNat = j := by
      rw [PySem.seqIndex_neg (by omega) h4] at h1
      rw [List.size_toArray, ← hl]
      exact Option.some.inj h1
    exact PySem.wpAny_getItem_list_neg pl.isList (by omega) (by rw [List.size_toArray] <;> omega) (by omega) (by rw [hj]; simpa using ew) done
theorem get_dict (hu : X.A.units + 1 < cLine) : PGet X (fun o i H Q => ∃ a v, o = .ref a ∧ DGet H a i (some v) ∧ Q v H) := by
  intro pins s σ H x y v u Q I rx ry h
  obtain ⟨a, z, rfl, g, q⟩ := h
  obtain rfl : v = Value.ref a := rx
  exact d_getItem hu I g ry fun w' s3 I3 rw' => ⟨z, H, I3, rw', q⟩
theorem get_ok {m : List Addr} {H : Hp} {S : Sto} {k : Nat} {i x : D} {vo vi : V} {Q : VK} (G : Gd C c X) (sh : SH X.K m H S) (r1 : RV X.K H m (.ptr k) vo) (r2 : RV X.K H m i vi) (h : idxD (.ptr k) i S = some x)
    (q : ∀ v, RV X.K H m x v → Q v H) : ∃ t, PGet X t ∧ t vo vi H Q := by
  have hu : X.A.units + 1 < cLine := by have := G.hu; omega
  obtain ⟨a, ea, rfl⟩ := ptr_a r1
  have viaL : ∀ {ds : List D} {j : Int}, i = .int j → lstOf S k = some ds → atI ds j = some x → ∃ t, PGet X t ∧ t (.ref a) vi H Q := fun {ds j} e h1 h2 => by
    subst e
    obtain rfl := int_a r2
    obtain ⟨xs, w1, w2⟩ := lst_of (X := X) sh ea h1
    obtain ⟨v, w3, w4⟩ := w2.atI h2
    exact ⟨_, get_list, a, xs, j, v, rfl, rfl, w1, w3, q v w4⟩
  have viaD : ∀ {kk : Key} {kvs : List (Key × D)}, keyOf i = some kk → S[k]? = some (.dct kvs) → getK kvs kk = some x → ∃ t, PGet X t ∧ t (.ref a) vi H Q := fun {kk kvs} e h1 h2 => by
    have ek := key_ok r2 e
    subst ek
    obtain ⟨ks, w1, w2⟩ := sh.obj k a _ ea h1
    obtain ⟨v, w3, w4⟩ := (getK_ok kk w2).1 x h2
    exact ⟨_, get_dict hu, a, v, rfl, by rw [← w3]; exact DGet.k w1, q v w4⟩
  cases i <;> simp only [idxD] at h <;> try (cases h; done)
  · split at h
    · rename_i xs s1
      exact viaL rfl (by unfold lstOf; rw [s1]) h
    · rename_i xs s1
      exact viaL rfl (by unfold lstOf; rw [s1]) h
    · rename_i kvs s1
      exact viaD (kk := .inl _) rfl s1 h
    · cases h
  · split at h
    · rename_i kvs s1
      exact viaD (kk := .inr _) rfl s1 h
    · cases h
theorem aug_ok {op : Operator} {m : List Addr} {H : Hp} {S S' : Sto} {x y z : D} {vx vy : V} {Q : VK} (sh : SH X.K m H S) (r1 : RV X.K H m x vx) (r2 : RV X.K H m y vy) (h : augD op x y S = some (z, S')) (q : S' = S → ∀ v, RV X.K H m z v → Q v H) : ∃ t, PIp X op t ∧ t vx vy H Q := by
  match x, y, r1, r2, h with
  | .int i, .int j, r1, r2, h =>
    obtain rfl := int_a r1
    obtain rfl := int_a r2
    match op, h with
    | .Add, h => cases (show some (D.int (i + j), S) = some (z, S') from h); exact ⟨_, ip_add, i, j, rfl, rfl, q rfl _ rv_int⟩
    | .Sub, h => cases (show some (D.int (i - j), S) = some (z, S') from h); exact ⟨_, ip_sub, i, j, rfl, rfl, q rfl _ rv_int⟩
    | .Mult, h => cases (show none = some (z, S') from h)
    | .FloorDiv, h => cases (show none = some (z, S') from h)
    | .Mod, h => cases (show none = some (z, S') from h)
    | .Pow, h => cases (show none = some (z, S') from h)
    | .LShift, h => cases (show none = some (z, S') from h)
    | .RShift, h => cases (show none = some (z, S') from h)
    | .Div, h => cases (show none = some (z, S') from h)
    | .MatMult, h => cases (show none = some (z, S') from h)
    | .BitOr, h => cases (show none = some (z, S') from h)
    | .BitXor, h => cases (show none = some (z, S') from h)
    | .BitAnd, h => cases (show none = some (z, S') from h)
  | .non, _, _, _, h => cases (show none = some (z, S') from h)
  | .bl _, _, _, _, h => cases (show none = some (z, S') from h)
  | .str _, _, _, _, h => cases (show none = some (z, S') from h)
  | .tup _, _, _, _, h => cases (show none = some (z, S') from h)
  | .ptr _, _, _, _, h => cases (show none = some (z, S') from h)
  | .int _, .non, _, _, h => cases (show none = some (z, S') from h)
  | .int _, .bl _, _, _, h => cases (show none = some (z, S') from h)
  | .int _, .str _, _, _, h => cases (show none = some (z, S') from h)
  | .int _, .tup _, _, _, h => cases (show none = some (z, S') from h)
  | .int _, .ptr _, _, _, h => cases (show none = some (z, S') from h)
theorem ok_asgS {o i e : Expr} {p pos : Pos} {co ci ce : IE} (G : Gd C c X) (hp : plainE i = true) (ho : PE X o (rE X.K C co)) (hi : PE X i (rE X.K C ci)) (he : PE X e (rE X.K C ce)) : PS X (.Assign [.Subscript o i p] e pos) (rS X.K C W (.asgS co ci ce)) := by
  have hs : swapsWithSole [.Subscript o i p] e pos.line X.env = pure false := by cases e <;> rfl
  refine PS.star fun D σ H h => ⟨_, ps_asg he (pg_sub ho hi set_star (fun v => by cases i <;> first | rfl | cases hp)) hs rfl rfl, ?_⟩
  obtain ⟨m, ρ, S, f, ρ', S', se, sh, hv, q⟩ := h
  simp only [ex] at hv
  obtain ⟨⟨x, S1⟩, e1, hv⟩ := bind_some hv
  obtain ⟨⟨y, S2⟩, e2, hv⟩ := bind_some hv
  obtain ⟨⟨z, S3⟩, e3, hv⟩ := bind_some hv
  obtain ⟨S4, e4, hv⟩ := map_some hv
  cases hv
  refine ⟨m, ρ, S, x, S1, se, sh, e1, fun m1 H1 vx x1 sh1 r1 => ⟨m1, ρ, S1, y, S2, se.mono x1, sh1, e2, fun m2 H2 vy x2 sh2 r2 => ⟨m2, ρ, S2, z, S3, (se.mono x1).mono x2, sh2, e3, fun m3 H3 vz x3 sh3 r3 => ?_⟩⟩⟩
  exact set_ok G sh3 (r2.mono x3) r3 (r1.mono (x2.trans x3)) e4 fun H4 x4 sh4 => q m3 H4 σ (((x1.trans x2).trans x3).trans x4) sh4 (se.mono (((x1.trans x2).trans x3).trans x4))
theorem ok_asgT {ts : List Expr} {k : Nat} {p pos : Pos} {e : Expr} {ce : IE} {t : Tg} {n' : Nat} (G : Gd C c X) (hn : isTup e = false) (ht : cmpTg c n' (.Tuple ts k p) = some t) (he : PE X e (rE X.K C ce)) : PS X (.Assign [.Tuple ts k p] e pos) (rS X.K C W (.asg t ce)) := by
  have hs : swapsWithSole [.Tuple ts k p] e pos.line X.env = pure false := by cases e <;> rfl
  have hw : swappedStores [.Tuple ts k p] e X.env = pure none := by cases e <;> first | rfl | cases hn
  refine PS.star fun D σ H h => ⟨_, ps_asg he (ok_g G ht) hs hw rfl, ?_⟩
  obtain ⟨m, ρ, S, f, ρ', S', se, sh, hv, q⟩ := h
  simp only [ex] at hv
  obtain ⟨⟨d, S1⟩, e1, hv⟩ := bind_some hv
  obtain ⟨ρ1, e2, hv⟩ := map_some hv
  cases hv
  exact ⟨m, ρ, S, d, S1, se, sh, e1, fun m1 H1 v x1 sh1 r1 => ⟨m1, ρ, d, _, se.mono x1, r1, e2, fun σ' se' _ => q m1 H1 σ' x1 sh1 se'⟩⟩
theorem ok_aug {x : Str} {p pos : Pos} {op : Operator} {e : Expr} {ce : IE} {i : Ix} (G : Gd C c X) (hx : stB c x = true) (hi : ixOf c.N x = some i) (he : PE X e (rE X.K C ce)) : PS X (.AugAssign (.Name x p) op e pos) (rS X.K C W (.aug i op ce)) := by
  obtain ⟨h1, h2⟩ := st_loc hx G
  refine PS.star fun D σ H h => ⟨_, ps_aug (by rw [G.N]; exact G.nd) (by rw [G.N]; exact ixOf_ok hi) h1 he ip_star h2, ?_⟩
  obtain ⟨m, ρ, S, f, ρ', S', se, sh, hv, q⟩ := h
  simp only [ex] at hv
  obtain ⟨y, e0, hv⟩ := bind_some hv
  obtain ⟨⟨d, S1⟩, e1, hv⟩ := bind_some hv
  obtain ⟨⟨z, S2⟩, e2, hv⟩ := map_some hv
  cases hv
  obtain ⟨v0, w0, r0⟩ := se.look e0
  refine ⟨v0, w0, m, ρ, S, d, S1, se, sh, e1, fun m1 H1 v x1 sh1 r1 => ?_⟩
  exact aug_ok sh1 (r0.mono x1) r1 e2 fun es v' r' => by
    subst es
    exact q m1 H1 _ x1 sh1 ((se.mono x1).put i r')
theorem ok_augS {o i e : Expr} {p pos : Pos} {op : Operator} {co ci ce : IE} (G : Gd C c X) (hp : plainE i = true) (ho : PE X o (rE X.K C co)) (hi : PE X i (rE X.K C ci)) (he : PE X e (rE X.K C ce)) : PS X (.AugAssign (.Subscript o i p) op e pos) (rS X.K C W (.augS co ci op ce)) := by
  refine PS.star fun D σ H h => ⟨_, ps_augS ho hi get_star he ip_star set_star (fun ov iv new => by cases i <;> first | rfl | cases hp), ?_⟩
  obtain ⟨m, ρ, S, f, ρ', S', se, sh, hv, q⟩ := h
  simp only [ex] at hv
  obtain ⟨⟨x, S1⟩, e1, hv⟩ := bind_some hv
  obtain ⟨⟨y, S2⟩, e2, hv⟩ := bind_some hv
  obtain ⟨w, e3, hv⟩ := bind_some hv
  obtain ⟨⟨d, S3⟩, e4, hv⟩ := bind_some hv
  obtain ⟨⟨z, S4⟩, e5, hv⟩ := bind_some hv
  obtain ⟨S5, e6, hv⟩ := map_some hv
  cases hv
  have hx : ∃ k, x = .ptr k := by cases x <;> first | exact ⟨_, rfl⟩ | cases e6
  obtain ⟨k, rfl⟩ := hx
  refine ⟨m, ρ, S, _, S1, se, sh, e1, fun m1 H1 vx x1 sh1 r1 => ⟨m1, ρ, S1, y, S2, se.mono x1, sh1, e2, fun m2 H2 vy x2 sh2 r2 => ?_⟩⟩
  refine get_ok G sh2 (r1.mono x2) r2 e3 fun vw rw => ⟨m2, ρ, S2, d, S3, (se.mono x1).mono x2, sh2, e4, fun m3 H3 vd x3 sh3 r3 => ?_⟩
  refine aug_ok sh3 (rw.mono x3) r3 e5 fun es vz rz => ?_
  subst es
  exact set_ok G sh3 (r1.mono (x2.trans x3)) (r2.mono x3) rz e6 fun H4 x4 sh4 => q m3 H4 σ (((x1.trans x2).trans x3).trans x4) sh4 (se.mono (((x1.trans x2).trans x3).trans x4))
theorem ok_exp {e : Expr} {pos : Pos} {ce : IE} (hn : noComp e = true) (he : PE X e (rE X.K C ce)) : PS X (.Expr e pos) (rS X.K C W (.exp ce)) := by
  refine PS.star fun D σ H h => ⟨_, ps_expr he (sw_no hn), ?_⟩
  obtain ⟨m, ρ, S, f, ρ', S', se, sh, hv, q⟩ := h
  simp only [ex] at hv
  obtain ⟨⟨d, S1⟩, e1, hv⟩ := map_some hv
  cases hv
  exact ⟨m, ρ, S, d, S1, se, sh, e1, fun m1 H1 v x1 sh1 r1 => q m1 H1 σ x1 sh1 (se.mono x1)⟩
theorem ok_ret {e : Expr} {pos : Pos} {ce : IE} (he : PE X e (rE X.K C ce)) : PS X (.Return (some e) pos) (rS X.K C W (.ret ce)) := by
  refine PS.star fun D σ H h => ⟨_, ps_ret he, ?_⟩
  obtain ⟨m, ρ, S, f, ρ', S', se, sh, hv, q⟩ := h
  simp only [ex] at hv
  obtain ⟨⟨d, S1⟩, e1, hv⟩ := map_some hv
  cases hv
  exact ⟨m, ρ, S, d, S1, se, sh, e1, fun m1 H1 v x1 sh1 r1 => q m1 H1 σ x1 sh1 (se.mono x1) v r1⟩
/-- a statement that says at once how it ends -/
theorem ok_end {st : Stmt} {s : IS} {t : TS} {f : Fl} (hp : PS X st t) (he : ∀ ρ S, ex C W s ρ S = some (f, ρ, S)) (ht : ∀ m D σ H, fin X.K m D f σ H → t D σ H) : PS X st (rS X.K C W s) := by
  refine PS.star fun D σ H h => ⟨_, hp, ?_⟩
  obtain ⟨m, ρ, S, f', ρ', S', se, sh, hv, q⟩ := h
  rw [he] at hv
  cases hv
  exact ht m D σ H (q m H σ Ext.refl sh se)
theorem ok_ifS {e : Expr} {a b : List Stmt} {pos : Pos} {ct : IC} {ca cb : ISs} (hc : PT X e (rC X.K C ct)) (ha : PSs X a (rSs X.K C W ca)) (hb : PSs X b (rSs X.K C W cb)) : PS X (.If e a b pos) (rS X.K C W (.ite ct ca cb)) := by
  refine PS.star fun D σ H h => ⟨_, ps_if hc ha hb, ?_⟩
  obtain ⟨m, ρ, S, f, ρ', S', se, sh, hv, q⟩ := h
  simp only [ex] at hv
  obtain ⟨⟨k, S1⟩, e1, hv⟩ := bind_some hv
  refine ⟨m, ρ, S, k, S1, se, sh, e1, fun m1 H1 x1 sh1 => ?_⟩
  cases k with
  | true =>
    rw [if_pos rfl] at hv ⊢
    exact ⟨m1, ρ, S1, f, ρ', S', se.mono x1, sh1, hv, fun m2 H2 σ2 x2 sh2 se2 => q m2 H2 σ2 (x1.trans x2) sh2 se2⟩
  | false =>
    rw [if_neg Bool.false_ne_true] at hv ⊢
    exact ⟨m1, ρ, S1, f, ρ', S', se.mono x1, sh1, hv, fun m2 H2 σ2 x2 sh2 se2 => q m2 H2 σ2 (x1.trans x2) sh2 se2⟩
theorem ok_whl {e : Expr} {b : List Stmt} {pos : Pos} {ct : IC} {cb : ISs} (hp : PassesOwn (model X.prog X.w) X.A X.env X.xe) (hc : PT X e (rC X.K C ct)) (hb : PSs X b (rSs X.K C W cb)) : PS X (.While e b [] pos) (rS X.K C W (.whl ct cb)) := by
  refine PS.star fun D σ H h => ⟨_, ps_while hp hc hb, ?_⟩
  obtain ⟨m, ρ, S, f, ρ', S', se, sh, hv, q⟩ := h
  simp only [ex] at hv
  refine ⟨fun k σ1 H1 => ∃ m1 ρ1 S1, Ext X.K H H1 m m1 ∧ SE X.K m1 H1 ρ1 σ1 ∧ SH X.K m1 H1 S1 ∧ whlF (tst C ct) (exs C W cb) k ρ1 S1 = some (f, ρ', S'), ⟨W, m, ρ, S, Ext.refl, se, sh, hv⟩, fun k σ1 H1 hW => ?_⟩
  obtain ⟨m1, ρ1, S1, x1, se1, sh1, hl⟩ := hW
  cases k with
  | zero => cases hl
  | succ k =>
    simp only [whlF] at hl
    obtain ⟨⟨t, S2⟩, e1, hl⟩ := bind_some hl
    refine ⟨m1, ρ1, S1, t, S2, se1, sh1, e1, fun m2 H2 x2 sh2 => ?_⟩
    cases t with
    | false =>
      rw [if_neg Bool.false_ne_true] at hl ⊢
      cases hl
      exact q m2 H2 σ1 (x1.trans x2) sh2 (se1.mono x2)
    | true =>
      rw [if_pos rfl] at hl ⊢
      obtain ⟨⟨g, ρ2, S3⟩, e2, hl⟩ := bind_some hl
      refine ⟨fun σ3 H3 => ∃ m1 ρ1 S1, Ext X.K H H3 m m1 ∧ SE X.K m1 H3 ρ1 σ3 ∧ SH X.K m1 H3 S1 ∧ whlF (tst C ct) (exs C W cb) k ρ1 S1 = some (f, ρ', S'), fun σ3 H3 h3 => ⟨k, Nat.lt_succ_self k, h3⟩, m2, ρ1, S2, g, ρ2, S3, se1.mono x2, sh2, e2, fun m3 H3 σ3 x3 sh3 se3 => ?_⟩
      cases g with
      | nx => exact ⟨m3, ρ2, S3, (x1.trans x2).trans x3, se3, sh3, hl⟩
      | cnt => exact ⟨m3, ρ2, S3, (x1.trans x2).trans x3, se3, sh3, hl⟩
      | brk => cases hl; exact q m3 H3 σ3 ((x1.trans x2).trans x3) sh3 se3
      | ret d => cases hl; exact q m3 H3 σ3 ((x1.trans x2).trans x3) sh3 se3
theorem ok_for {tg iter : Expr} {b : List Stmt} {pos : Pos} {t : Tg} {ci : II} {cb : ISs} {n' : Nat} (hp : PassesOwn (model X.prog X.w) X.A X.env X.xe) (G : Gd C c X) (hpl : plainE iter = true) (hi : PI X tg iter (rI X.K C ci)) (ht : cmpTg c n' tg = some t) (hb : PSs X b (rSs X.K C W cb)) :
    PS X (.For tg iter b [] pos) (rS X.K C W (.for t ci cb)) := by
  refine PS.star fun D σ H h => ⟨_, ps_for hp G.calm hi (ok_g G ht) hb (fun x => foldPlain hpl), ?_⟩
  obtain ⟨m, ρ, S, f, ρ', S', se, sh, hv, q⟩ := h
  simp only [ex] at hv
  obtain ⟨⟨it, S1⟩, e1, hv⟩ := bind_some hv
  refine ⟨m, ρ, S, it, S1, se, sh, e1, fun m1 H1 J x1 sh1 hJ => ?_⟩
  dsimp only at hv
  generalize htn : (fun (d : Mi.D) (ρ1 : Env) (S1 : Sto) => (tgt t d ρ1).bind fun ρ2 => exs C W cb ρ2 S1) = turn at hv
  refine ⟨fun i k σ2 H2 => ∃ m2 ρ2 S2, Ext X.K H1 H2 m1 m2 ∧ SE X.K m2 H2 ρ2 σ2 ∧ SH X.K m2 H2 S2 ∧ forF it turn k i ρ2 S2 = some (f, ρ', S'), ⟨_, m1, ρ, S1, Ext.refl, se.mono x1, sh1, hv⟩, fun i k σ2 H2 hW => ?_⟩
  obtain ⟨m2, ρ2, S2, x2, se2, sh2, hl⟩ := hW
  have stop : itm it i S2 = some none → some (Fl.nx, ρ2, S2) = some (f, ρ', S') → J.stop i H2 ∧ D.nx σ2 H2 := fun h0 e0 => by
    simp only [Option.some.injEq, Prod.mk.injEq] at e0
    obtain ⟨rfl, rfl, rfl⟩ := e0
    exact ⟨(hJ m2 H2 S2 i x2 sh2).1 h0, q m2 H2 σ2 (x1.trans x2) sh2 se2⟩
  cases k with
  | zero =>
    simp only [forF] at hl
    obtain ⟨o, h0, hl⟩ := bind_some hl
    cases o with
    | none => exact .inl (stop h0 hl)
    | some _ => cases hl
  | succ k =>
    simp only [forF] at hl
    obtain ⟨o, h0, hl⟩ := bind_some hl
    cases o with
    | none => exact .inl (stop h0 hl)
    | some d =>
      obtain ⟨⟨g, ρ3, S3⟩, e2, hl⟩ := bind_some hl
      obtain ⟨hgo, hy⟩ := (hJ m2 H2 S2 i x2 sh2).2 d h0
      refine .inr ⟨hgo, fun σ3 H3 => ∃ m2 ρ2 S2, Ext X.K H1 H3 m1 m2 ∧ SE X.K m2 H3 ρ2 σ3 ∧ SH X.K m2 H3 S2 ∧ forF it turn k (i + 1) ρ2 S2 = some (f, ρ', S'), fun σ3 H3 h3 => ⟨k, Nat.lt_succ_self k, h3⟩, fun x H3 hyl => ?_⟩
      obtain ⟨x3, sh3, r3⟩ := hy x H3 hyl
      subst htn
      obtain ⟨ρ4, t1, e2⟩ := bind_some e2
      refine ⟨m2, ρ2, d, ρ4, se2.mono x3, r3, t1, fun σ4 se4 _ => ⟨m2, ρ4, S2, g, ρ3, S3, se4, sh3, e2, fun m5 H5 σ5 x5 sh5 se5 => ?_⟩⟩
      have xx := (x2.trans x3).trans x5
      cases g with
      | nx => exact ⟨m5, ρ3, S3, xx, se5, sh5, hl⟩
      | cnt => exact ⟨m5, ρ3, S3, xx, se5, sh5, hl⟩
      | brk => cases hl; exact q m5 H5 σ5 (x1.trans xx) sh5 se5
      | ret d => cases hl; exact q m5 H5 σ5 (x1.trans xx) sh5 se5
theorem ok_nilS : PSs X [] (rSs X.K C W .nil) := by
  refine PSs.star fun D σ H h => ⟨_, pss_nil, ?_⟩
  obtain ⟨m, ρ, S, f, ρ', S', se, sh, hv, q⟩ := h
  simp only [exs] at hv
  cases hv
  exact q m H σ Ext.refl sh se
theorem ok_consS {s : Stmt} {r : List Stmt} {cs : IS} {cr : ISs} (h1 : PS X s (rS X.K C W cs)) (h2 : PSs X r (rSs X.K C W cr)) : PSs X (s :: r) (rSs X.K C W (.cons cs cr)) := by
  refine PSs.star fun D σ H h => ⟨_, pss_cons h1 h2, ?_⟩
  obtain ⟨m, ρ, S, f, ρ', S', se, sh, hv, q⟩ := h
  simp only [exs] at hv
  obtain ⟨⟨g, ρ1, S1⟩, e1, hv⟩ := bind_some hv
  refine ⟨m, ρ, S, g, ρ1, S1, se, sh, e1, fun m1 H1 σ1 x1 sh1 se1 => ?_⟩
  cases g with
  | nx => exact ⟨m1, ρ1, S1, f, ρ', S', se1, sh1, hv, fun m2 H2 σ2 x2 sh2 se2 => q m2 H2 σ2 (x1.trans x2) sh2 se2⟩
  | brk => cases hv; exact q m1 H1 σ1 x1 sh1 se1
  | cnt => cases hv; exact q m1 H1 σ1 x1 sh1 se1
  | ret d => cases hv; exact q m1 H1 σ1 x1 sh1 se1
/-! ### every compiled statement -/
structure SOk (n : Nat) : Prop where
  S : ∀ {X : Cx} {C : CallT} {c : Ct} {W : Nat} {s : Stmt} {cs : IS}, Gd C c X → PassesOwn (model X.prog X.w) X.A X.env X.xe → cS c n s = some cs → PS X s (rS X.K C W cs)
  B : ∀ {X : Cx} {C : CallT} {c : Ct} {W : Nat} {s : List Stmt} {cs : ISs}, Gd C c X → PassesOwn (model X.prog X.w) X.A X.env X.xe → cSs c n s = some cs → PSs X s (rSs X.K C W cs)
theorem succ_S (ih : SOk n) {s : Stmt} {cs : IS} (G : Gd C c X) (hp : PassesOwn (model X.prog X.w) X.A X.env X.xe) (h : cS c (n + 1) s = some cs) : PS X s (rS X.K C W cs) := by
  have ie := eok n
  match s, h with
  | .Assign [.Subscript o i p] e pos, h =>
    obtain ⟨g, h⟩ := ite_some (show (if plainE i then (cE c n e).bind fun ce => (cE c n o).bind fun co => (cE c n i).map fun ci => IS.asgS co ci ce else none) = some cs from h)
    obtain ⟨ce, h1, h⟩ := bind_some h
    obtain ⟨co, h2, h⟩ := bind_some h
    obtain ⟨ci, h3, rfl⟩ := map_some h
    exact ok_asgS G g (ie.E G h2) (ie.E G h3) (ie.E G h1)
  | .Assign [.Name x p] e pos, h =>
    obtain ⟨g, h⟩ := ite_some (show (if stB c x && lcOk e then (ixOf c.N x).bind fun i => (cE c n e).map fun ce => IS.asg (.name i) ce else none) = some cs from h)
    obtain ⟨g1, g2⟩ := and_t g
    obtain ⟨i, h1, h⟩ := bind_some h
    obtain ⟨ce, h2, rfl⟩ := map_some h
    exact ok_asgN G g1 g2 h1 h2
  | .Assign [.Tuple ts k p] e pos, h =>
    obtain ⟨g, h⟩ := ite_some (show (if !isTup e then (cmpTg c n (.Tuple ts k p)).bind fun t => (cE c n e).map fun ce => IS.asg t ce else none) = some cs from h)
    obtain ⟨t, h1, h⟩ := bind_some h
    obtain ⟨ce, h2, rfl⟩ := map_some h
    exact ok_asgT G (by simpa using g) h1 (ie.E G h2)
  | .AugAssign (.Name x p) op e pos, h =>
    obtain ⟨g, h⟩ := ite_some (show (if stB c x && augOp op then (ixOf c.N x).bind fun i => (cE c n e).map fun ce => IS.aug i op ce else none) = some cs from h)
    obtain ⟨g1, g2⟩ := and_t g
    obtain ⟨i, h1, h⟩ := bind_some h
    obtain ⟨ce, h2, rfl⟩ := map_some h
    exact ok_aug G g1 h1 (ie.E G h2)
  | .AugAssign (.Subscript o i p) op e pos, h =>
    obtain ⟨g, h⟩ := ite_some (show (if plainE i && augOp op then (cE c n o).bind fun co => (cE c n i).bind fun ci => (cE c n e).map fun ce => IS.augS co ci op ce else none) = some cs from h)
    obtain ⟨g1, g2⟩ := and_t g
    obtain ⟨co, h1, h⟩ := bind_some h
    obtain ⟨ci, h2, h⟩ := bind_some h
    obtain ⟨ce, h3, rfl⟩ := map_some h
    exact ok_augS G g1 (ie.E G h1) (ie.E G h2) (ie.E G h3)
  | .Expr e pos, h =>
    have h : (if isDoc e then some IS.pas else if noComp e then (cE c n e).map IS.exp else none) = some cs := h
    by_cases hd : isDoc e = true
    · rw [if_pos hd] at h
      cases h
      match e, hd with
      | .Constant (.str x) j p, _ => exact ok_end (f := .nx) ps_doc (fun _ _ => by simp only [ex]) fun _ _ _ _ h => h
    · rw [if_neg hd] at h
      obtain ⟨g, h⟩ := ite_some h
      obtain ⟨ce, h1, rfl⟩ := map_some h
      exact ok_exp g (ie.E G h1)
  | .Return (some e) pos, h =>
    obtain ⟨ce, h1, rfl⟩ := map_some (show (cE c n e).map IS.ret = some cs from h)
    exact ok_ret (ie.E G h1)
  | .Return none pos, h =>
    cases (show some IS.retN = some cs from h)
    exact ok_end (f := .ret .non) ps_retN (fun _ _ => by simp only [ex]) fun _ _ _ _ h => h _ rv_non
  | .If t a b pos, h =>
    obtain ⟨ct, h1, h⟩ := bind_some (show ((cC c n t).bind fun ct => (cSs c n a).bind fun ca => (cSs c n b).map fun cb => IS.ite ct ca cb) = some cs from h)
    obtain ⟨ca, h2, h⟩ := bind_some h
    obtain ⟨cb, h3, rfl⟩ := map_some h
    exact ok_ifS (ie.T G h1).1 (ih.B G hp h2) (ih.B G hp h3)
  | .While t b [] pos, h =>
    obtain ⟨ct, h1, h⟩ := bind_some (show ((cC c n t).bind fun ct => (cSs c n b).map fun cb => IS.whl ct cb) = some cs from h)
    obtain ⟨cb, h2, rfl⟩ := map_some h
    exact ok_whl hp (ie.T G h1).1 (ih.B G hp h2)
  | .For tg it b [] pos, h =>
    obtain ⟨g, h⟩ := ite_some (show (if plainE it then (cI c n tg it).bind fun ci => (cmpTg c n tg).bind fun t => (cSs c n b).map fun cb => IS.for t ci cb else none) = some cs from h)
    obtain ⟨ci, h1, h⟩ := bind_some h
    obtain ⟨t, h2, h⟩ := bind_some h
    obtain ⟨cb, h3, rfl⟩ := map_some h
    exact ok_for hp G g (ie.I G h1) h2 (ih.B G hp h3)
  | .Break pos, h =>
    cases (show some IS.brk = some cs from h)
    exact ok_end (f := .brk) ps_break (fun _ _ => by simp only [ex]) fun _ _ _ _ h => h
  | .Continue pos, h =>
    cases (show some IS.cnt = some cs from h)
    exact ok_end (f := .cnt) ps_continue (fun _ _ => by simp only [ex]) fun _ _ _ _ h => h
  | .Pass pos, h =>
    cases (show some IS.pas = some cs from h)
    exact ok_end (f := .nx) ps_pass (fun _ _ => by simp only [ex]) fun _ _ _ _ h => h
  | .Assign [.Constant ..] _ _, h => exact nomatch (show none = some cs from h)
  | .Assign [.BoolOp ..] _ _, h => exact nomatch (show none = some cs from h)
  | .Assign [.NamedExpr ..] _ _, h => exact nomatch (show none = some cs from h)
  | .Assign [.BinOp ..] _ _, h => exact nomatch (show none = some cs from h)
  | .Assign [.UnaryOp ..] _ _, h => exact nomatch (show none = some cs from h)
  | .Assign [.Compare ..] _ _, h => exact nomatch (show none = some cs from h)
  | .Assign [.IfExp ..] _ _, h => exact nomatch (show none = some cs from h)
  | .Assign [.Lambda ..] _ _, h => exact nomatch (show none = some cs from h)
  | .Assign [.Dict ..] _ _, h => exact nomatch (show none = some cs from h)
  | .Assign [.Set ..] _ _, h => exact nomatch (show none = some cs from h)
  | .Assign [.ListComp ..] _ _, h => exact nomatch (show none = some cs from h)
  | .Assign [.SetComp ..] _ _, h => exact nomatch (show none = some cs from h)
  | .Assign [.DictComp ..] _ _, h => exact nomatch (show none = some cs from h)
  | .Assign [.GeneratorExp ..] _ _, h => exact nomatch (show none = some cs from h)
  | .Assign [.Await ..] _ _, h => exact nomatch (show none = some cs from h)
  | .Assign [.Yield ..] _ _, h => exact nomatch (show none = some cs from h)
  | .Assign [.YieldFrom ..] _ _, h => exact nomatch (show none = some cs from h)
  | .Assign [.Call ..] _ _, h => exact nomatch (show none = some cs from h)
  | .Assign [.JoinedStr ..] _ _, h => exact nomatch (show none = some cs from h)
  | .Assign [.FormattedValue ..] _ _, h => exact nomatch (show none = some cs from h)
  | .Assign [.Attribute ..] _ _, h => exact nomatch (show none = some cs from h)
  | .Assign [.Starred ..] _ _, h => exact nomatch (show none = some cs from h)
  | .Assign [.List ..] _ _, h => exact nomatch (show none = some cs from h)
  | .Assign [.Slice ..] _ _, h => exact nomatch (show none = some cs from h)
  | .Assign [] _ _, h => exact nomatch (show none = some cs from h)
  | .Assign (.Constant .. :: _ :: _) _ _, h => exact nomatch (show none = some cs from h)
  | .Assign (.BoolOp .. :: _ :: _) _ _, h => exact nomatch (show none = some cs from h)
  | .Assign (.NamedExpr .. :: _ :: _) _ _, h => exact nomatch (show none = some cs from h)
  | .Assign (.BinOp .. :: _ :: _) _ _, h => exact nomatch (show none = some cs from h)
  | .Assign (.UnaryOp .. :: _ :: _) _ _, h => exact nomatch (show none = some cs from h)
  | .Assign (.Compare .. :: _ :: _) _ _, h => exact nomatch (show none = some cs from h)
  | .Assign (.IfExp .. :: _ :: _) _ _, h => exact nomatch (show none = some cs from h)
  | .Assign (.Lambda .. :: _ :: _) _ _, h => exact nomatch (show none = some cs from h)
  | .Assign (.Dict .. :: _ :: _) _ _, h => exact nomatch (show none = some cs from h)
  | .Assign (.Set .. :: _ :: _) _ _, h => exact nomatch (show none = some cs from h)
  | .Assign (.ListComp .. :: _ :: _) _ _, h => exact nomatch (show none = some cs from h)
  | .Assign (.SetComp .. :: _ :: _) _ _, h => exact nomatch (show none = some cs from h)
  | .Assign (.DictComp .. :: _ :: _) _ _, h => exact nomatch (show none = some cs from h)
  | .Assign (.GeneratorExp .. :: _ :: _) _ _, h => exact nomatch (show none = some cs from h)
  | .Assign (.Await .. :: _ :: _) _ _, h => exact nomatch (show none = some cs from h)
  | .Assign (.Yield .. :: _ :: _) _ _, h => exact nomatch (show none = some cs from h)
  | .Assign (.YieldFrom .. :: _ :: _) _ _, h => exact nomatch (show none = some cs from h)
  | .Assign (.Call .. :: _ :: _) _ _, h => exact nomatch (show none = some cs from h)
  | .Assign (.JoinedStr .. :: _ :: _) _ _, h => exact nomatch (show none = some cs from h)
  | .Assign (.FormattedValue .. :: _ :: _) _ _, h => exact nomatch (show none = some cs from h)
  | .Assign (.Attribute .. :: _ :: _) _ _, h => exact nomatch (show none = some cs from h)
  | .Assign (.Starred .. :: _ :: _) _ _, h => exact nomatch (show none = some cs from h)
  | .Assign (.List .. :: _ :: _) _ _, h => exact nomatch (show none = some cs from h)
  | .Assign (.Slice .. :: _ :: _) _ _, h => exact nomatch (show none = some cs from h)
  | .Assign (.Subscript .. :: _ :: _) _ _, h => exact nomatch (show none = some cs from h)
  | .Assign (.Name .. :: _ :: _) _ _, h => exact nomatch (show none = some cs from h)
  | .Assign (.Tuple .. :: _ :: _) _ _, h => exact nomatch (show none = some cs from h)
  | .AugAssign (.Constant ..) _ _ _, h => exact nomatch (show none = some cs from h)
  | .AugAssign (.BoolOp ..) _ _ _, h => exact nomatch (show none = some cs from h)
  | .AugAssign (.NamedExpr ..) _ _ _, h => exact nomatch (show none = some cs from h)
  | .AugAssign (.BinOp ..) _ _ _, h => exact nomatch (show none = some cs from h)
  | .AugAssign (.UnaryOp ..) _ _ _, h => exact nomatch (show none = some cs from h)
  | .AugAssign (.Compare ..) _ _ _, h => exact nomatch (show none = some cs from h)
  | .AugAssign (.IfExp ..) _ _ _, h => exact nomatch (show none = some cs from h)
  | .AugAssign (.Lambda ..) _ _ _, h => exact nomatch (show none = some cs from h)
  | .AugAssign (.Dict ..) _ _ _, h => exact nomatch (show none = some cs from h)
  | .AugAssign (.Set ..) _ _ _, h => exact nomatch (show none = some cs from h)
  | .AugAssign (.ListComp ..) _ _ _, h => exact nomatch (show none = some cs from h)
  | .AugAssign (.SetComp ..) _ _ _, h => exact nomatch (show none = some cs from h)
  | .AugAssign (.DictComp ..) _ _ _, h => exact nomatch (show none = some cs from h)
  | .AugAssign (.GeneratorExp ..) _ _ _, h => exact nomatch (show none = some cs from h)
  | .AugAssign (.Await ..) _ _ _, h => exact nomatch (show none = some cs from h)
  | .AugAssign (.Yield ..) _ _ _, h => exact nomatch (show none = some cs from h)
  | .AugAssign (.YieldFrom ..) _ _ _, h => exact nomatch (show none = some cs from h)
  | .AugAssign (.Call ..) _ _ _, h => exact nomatch (show none = some cs from h)
  | .AugAssign (.JoinedStr ..) _ _ _, h => exact nomatch (show none = some cs from h)
  | .AugAssign (.FormattedValue ..) _ _ _, h => exact nomatch (show none = some cs from h)
  | .AugAssign (.Attribute ..) _ _ _, h => exact nomatch (show none = some cs from h)
  | .AugAssign (.Starred ..) _ _ _, h => exact nomatch (show none = some cs from h)
  | .AugAssign (.List ..) _ _ _, h => exact nomatch (show none = some cs from h)
  | .AugAssign (.Slice ..) _ _ _, h => exact nomatch (show none = some cs from h)
  | .AugAssign (.Tuple ..) _ _ _, h => exact nomatch (show none = some cs from h)
  | .While _ _ (_ :: _) _, h => exact nomatch (show none = some cs from h)
  | .For _ _ _ (_ :: _) _, h => exact nomatch (show none = some cs from h)
  | .FunctionDef .., h => exact nomatch (show none = some cs from h)
  | .AsyncFunctionDef .., h => exact nomatch (show none = some cs from h)
  | .ClassDef .., h => exact nomatch (show none = some cs from h)
  | .Delete .., h => exact nomatch (show none = some cs from h)
  | .TypeAlias .., h => exact nomatch (show none = some cs from h)
  | .AnnAssign .., h => exact nomatch (show none = some cs from h)
  | .AsyncFor .., h => exact nomatch (show none = some cs from h)
  | .With .., h => exact nomatch (show none = some cs from h)
  | .AsyncWith .., h => exact nomatch (show none = some cs from h)
  | .Match .., h => exact nomatch (show none = some cs from h)
  | .Raise .., h => exact nomatch (show none = some cs from h)
  | .Try .., h => exact nomatch (show none = some cs from h)
  | .TryStar .., h => exact nomatch (show none = some cs from h)
  | .Assert .., h => exact nomatch (show none = some cs from h)
  | .Import .., h => exact nomatch (show none = some cs from h)
  | .ImportFrom .., h => exact nomatch (show none = some cs from h)
  | .Global .., h => exact nomatch (show none = some cs from h)
  | .Nonlocal .., h => exact nomatch (show none = some cs from h)
theorem succ_B (ih : SOk n) {s : List Stmt} {cs : ISs} (G : Gd C c X) (hp : PassesOwn (model X.prog X.w) X.A X.env X.xe) (h : cSs c (n + 1) s = some cs) : PSs X s (rSs X.K C W cs) := by
  cases s with
  | nil =>
    simp only [cSs, Option.some.injEq] at h
    subst h
    exact ok_nilS
  | cons s r =>
    simp only [cSs] at h
    obtain ⟨c1, h1, h⟩ := bind_some h
    obtain ⟨c2, h2, rfl⟩ := map_some h
    exact ok_consS (ih.S G hp h1) (ih.B G hp h2)
end
theorem sok : ∀ n, SOk n
  | 0 => ⟨fun _ _ h => by simp [cS] at h, fun _ _ h => by simp [cSs] at h⟩
  | n + 1 => ⟨fun G hp h => succ_S (sok n) G hp h, fun G hp h => succ_B (sok n) G hp h⟩
end Mi

namespace Mi
open PySem L2
/-! ### the table -/
section
variable {P : Program} {w : World} {K : PySem.W.Frag} {mg : Str → Option Value} {base : Heap}
structure DefIn (K : PySem.W.Frag) (mg : Str → Option Value) (kws : List (Nat × Nat × List Str × List Nat)) (f : Nat) (x qual : Str) (ps : List Str) (st : Stmt) (a : Addr) (fd : FuncData) : Prop where
  F : Fun K x qual st a fd
  m : mg x = some (.ref a)
  B : Binds K fd ps []
  kw : ∀ e ∈ kws, e.1 = f → e.2.2.2.length = ps.length ∧ ∀ (s : Shared) (us ws : List Value), us.length = e.2.1 → ws.length = e.2.2.1.length → BindsTo s fd ⟨us, e.2.2.1.zip ws⟩ (ps.zip (permV Value.none e.2.2.2 (us ++ ws)))
def ctOf (funs : List (Str × List Str)) (kws : List (Nat × Nat × List Str × List Nat)) (N : List Str) (st : Stmt) : Ct := ⟨N, defScope st, fun _ => true, funs, kws⟩
structure DefC (Φ : List Fn) (funs : List (Str × List Str)) (kws : List (Nat × Nat × List Str × List Nat)) (f : Nat) (ps N : List Str) (st : Stmt) : Prop where
  S : FnScope N ps (defScope st)
  C : ∃ (fn : Fn) (k : Nat), Φ[f]? = some fn ∧ fn.np = ps.length ∧ fn.ns = N.length ∧ cSs (ctOf funs kws N st) k (defBody st) = some fn.body
theorem bgn_get {ds : List D} {ns i : Nat} {d : D} (h : (bgn ns ds)[i]? = some (some d)) : ds[i]? = some d := by
  unfold bgn at h
  by_cases hi : i < ds.length
  · rw [List.getElem?_append_left (by simpa using hi), List.getElem?_map] at h
    cases q : ds[i]? with
    | none => rw [q] at h; cases h
    | some e => rw [q] at h; cases h; rfl
  · rw [List.getElem?_append_right (by simpa using hi), List.getElem?_replicate] at h
    split at h <;> cases h
theorem se_start {m : List Addr} {H : Hp} {ds : List D} {vs : List V} {N : List Str} (r : RVs K H m ds vs) : SE K m H (bgn N.length ds) (L2.start N vs) := by
  have hl := r.length
  refine ⟨?_, fun i d h => ?_⟩
  · unfold bgn L2.start
    simp [hl]
  · have h1 := bgn_get h
    obtain ⟨v, h2, h3⟩ := r.get h1
    refine ⟨v, ?_, h3⟩
    unfold L2.start
    have hi : i < vs.length := (List.getElem?_eq_some_iff.mp h2).1
    rw [List.getElem?_append_left (by simpa using hi), List.getElem?_map, h2]
    rfl
theorem table {Φ : List Fn} {W : Nat} {funs : List (Str × List Str)} {kws : List (Nat × Nat × List Str × List Nat)} {dst : Nat → Stmt} {dN : Nat → List Str} (bl : ∀ y ∈ bltNames, mg y = none)
    (Dd : ∀ (f : Nat) (x : Str) (ps : List Str), funs[f]? = some (x, ps) → ∃ qual a fd, DefIn K mg kws f x qual ps (dst f) a fd)
    (Dc : ∀ (f : Nat) (x : Str) (ps : List Str), funs[f]? = some (x, ps) → DefC Φ funs kws f ps (dN f) (dst f)) :
    ∀ (n f : Nat) (x qual : Str) (ps : List Str) (a : Addr) (fd : FuncData), funs[f]? = some (x, ps) → DefIn K mg kws f x qual ps (dst f) a fd → FnOk P w K mg base CX0 n a fd ps (spC K (run Φ W n) f ps.length)
  | 0, f, x, qual, ps, a, fd, hf, d => ⟨fun vs H Q E h => h.1, fun A outer s H args us vs Q E hr he hb hv hs => by
    obtain ⟨_, m, S, ds, d, S', _, _, h, _⟩ := hs
    cases h⟩
  | n + 1, f, x, qual, ps, a, fd, hf, d => by
    obtain ⟨fn, k, c1, c2, c3, c4⟩ := (Dc f x ps hf).C
    refine d.F.ok (Dc f x ps hf).S (fun vs H Q E h => h.1) fun cdv A outer s H vs Q E hr hs => ?_
    have G : Gd (run Φ W n) (ctOf funs kws (dN f) (dst f)) (cxOf CX0 P w K mg base (dN f) qual (defScope (dst f)) a cdv A outer s H E).nox :=
      { N := rfl, nd := (Dc f x ps hf).S.nd, sc := rfl, kd := (Dc f x ps hf).S.kind, calm := rfl, fn := fun _ _ => rfl, blt := bl
        hu := by
          have := hr.un
          show (A.deeper (PyProof.Rows.envOfC qual (defScope (dst f)) s.heap.objs.size a cdv)).units + 65 < cLine
          omega
        fns := fun g y qs hg => by
          obtain ⟨qual', a', fd', d'⟩ := Dd g y qs hg
          exact ⟨a', fd', n, d'.m, d'.F.kp, d'.B, hr, table bl Dd Dc n g y qual' qs a' fd' hg d', fun n ks pm hm => d'.kw _ hm rfl⟩ }
    refine ⟨rSs K (run Φ W n) W fn.body, (sok k).B G PassesOwn.never c4, ?_⟩
    obtain ⟨hl, m, S, ds, d, S', sh, rv, hv, q⟩ := hs
    simp only [run] at hv
    obtain ⟨fn', e0, hv⟩ := bind_some hv
    rw [c1] at e0
    cases e0
    obtain ⟨hlen, hv⟩ := ite_some hv
    obtain ⟨⟨fl, ρ', S2⟩, e1, hv⟩ := bind_some hv
    refine ⟨m, bgn fn.ns ds, S, fl, ρ', S2, by rw [c3]; exact se_start rv, sh, e1, fun m' H' σ' x' sh' se' => ?_⟩
    cases fl with
    | nx => cases hv; exact q m' H' _ x' sh' rv_non
    | ret d => cases hv; exact fun v r => q m' H' v x' sh' r
    | brk => cases hv
    | cnt => cases hv
/-- the law's own promise -/
theorem law_sp {C : CallT} {f : Nat} {H : Hp} {a : Addr} {ns : List Int} {E : XK} (hO : Only H) (hS : SqL K H a (ns.map V.int)) (h : ∃ S', C f [.ptr 0] [.frz (ns.map D.int)] = some (.bl true, S')) : spC K C f 1 [.ref a] H (fun v _ => v = .bl true) E := by
  obtain ⟨S', h⟩ := h
  refine ⟨rfl, [a], [.frz (ns.map D.int)], [.ptr 0], .bl true, S', ?_, ?_, h, fun m' H' v _ _ r => by simpa only [RV] using r⟩
  · refine ⟨rfl, fun n b o e1 e2 => ?_, fun i j b o p e1 e2 e3 e4 z1 z2 => ?_⟩
    · cases n with
      | zero =>
        simp at e1 e2
        subst e1 e2
        refine ⟨_, ?_, RVs.ofInts ns⟩
        rcases hS with (h | ⟨o, h⟩) | h
        · rcases hO a with z | ⟨o, u, z⟩
          · rw [h] at z; cases z
          · rw [h] at z; cases z
        · exact .inl ⟨o, h⟩
        · exact .inr h
      | succ n => simp at e1
    · cases i with
      | zero =>
        simp at e3
        subst e3
        cases z1
      | succ i => simp at e3
  · simp only [RVs, RV]
    exact ⟨⟨a, by simp, rfl⟩, trivial⟩
end
end Mi

namespace Mi
open PySem L2
/-! ### what a run reaches -/
def Wp {α : Type} (r : M α) (Q : α → Sto → Prop) : Prop := ∃ a S, r = some (a, S) ∧ Q a S
def RP (r : R) (Q : Fl → Env → Sto → Prop) : Prop := ∃ f ρ S, r = some (f, ρ, S) ∧ Q f ρ S
/-- a value without a store -/
def Vp {α : Type} (r : Option α) (Q : α → Prop) : Prop := ∃ a, r = some a ∧ Q a
section
variable {α β : Type} {Q : α → Sto → Prop} {Q' : β → Sto → Prop} {P : Fl → Env → Sto → Prop}
theorem Wp.mono {r : M α} {Q Q' : α → Sto → Prop} (h : Wp r Q) (q : ∀ a S, Q a S → Q' a S) : Wp r Q' := let ⟨a, S, e, h⟩ := h; ⟨a, S, e, q a S h⟩
theorem RP.mono {r : R} {Q Q' : Fl → Env → Sto → Prop} (h : RP r Q) (q : ∀ a ρ S, Q a ρ S → Q' a ρ S) : RP r Q' := let ⟨a, ρ, S, e, h⟩ := h; ⟨a, ρ, S, e, q a ρ S h⟩
theorem wp_some {a : α} {S : Sto} : Wp (some (a, S)) Q ↔ Q a S := ⟨fun ⟨b, T, e, h⟩ => by cases e; exact h, fun h => ⟨a, S, rfl, h⟩⟩
theorem wp_none : Wp (none : M α) Q ↔ False := ⟨fun ⟨_, _, e, _⟩ => (nomatch e), False.elim⟩
theorem wp_bind {r : M β} {f : β × Sto → M α} : Wp (r.bind f) Q ↔ Wp r fun a S => Wp (f (a, S)) Q := by
  constructor
  · rintro ⟨a, S, e, h⟩
    obtain ⟨⟨b, T⟩, e1, e2⟩ := Option.bind_eq_some_iff.mp e
    exact ⟨b, T, e1, a, S, e2, h⟩
  · rintro ⟨b, T, e1, a, S, e2, h⟩
    exact ⟨a, S, by rw [e1]; exact e2, h⟩
theorem wp_map {r : M β} {f : β × Sto → α × Sto} : Wp (r.map f) Q ↔ Wp r fun a S => Q (f (a, S)).1 (f (a, S)).2 := by
  constructor
  · rintro ⟨a, S, e, h⟩
    obtain ⟨⟨b, T⟩, e1, e2⟩ := Option.map_eq_some_iff.mp e
    exact ⟨b, T, e1, by dsimp only; rw [e2]; exact h⟩
  · rintro ⟨b, T, e1, h⟩
    exact ⟨_, _, by rw [e1]; rfl, h⟩
/-- of a value without a store -/
theorem wp_bindV {r : Option β} {f : β → M α} : Wp (r.bind f) Q ↔ Vp r fun a => Wp (f a) Q := by
  constructor
  · rintro ⟨a, S, e, h⟩
    obtain ⟨b, e1, e2⟩ := Option.bind_eq_some_iff.mp e
    exact ⟨b, e1, a, S, e2, h⟩
  · rintro ⟨b, e1, a, S, e2, h⟩
    exact ⟨a, S, by rw [e1]; exact e2, h⟩
theorem wp_mapV {r : Option β} {f : β → α × Sto} : Wp (r.map f) Q ↔ Vp r fun a => Q (f a).1 (f a).2 := by
  constructor
  · rintro ⟨a, S, e, h⟩
    obtain ⟨b, e1, e2⟩ := Option.map_eq_some_iff.mp e
    exact ⟨b, e1, by dsimp only; rw [e2]; exact h⟩
  · rintro ⟨b, e1, h⟩
    exact ⟨_, _, by rw [e1]; rfl, h⟩
theorem wp_ite {c : Prop} [Decidable c] {a b : M α} : Wp (if c then a else b) Q ↔ (c → Wp a Q) ∧ (¬ c → Wp b Q) := by
  by_cases h : c
  · simp [h]
  · simp [h]
theorem vp_some {a : α} {Q : α → Prop} : Vp (some a) Q ↔ Q a := ⟨fun ⟨b, e, h⟩ => by cases e; exact h, fun h => ⟨a, rfl, h⟩⟩
theorem vp_none {Q : α → Prop} : Vp (none : Option α) Q ↔ False := ⟨fun ⟨_, e, _⟩ => (nomatch e), False.elim⟩
theorem vp_bind {r : Option β} {f : β → Option α} {Q : α → Prop} : Vp (r.bind f) Q ↔ Vp r fun a => Vp (f a) Q := by
  constructor
  · rintro ⟨a, e, h⟩
    obtain ⟨b, e1, e2⟩ := Option.bind_eq_some_iff.mp e
    exact ⟨b, e1, a, e2, h⟩
  · rintro ⟨b, e1, a, e2, h⟩
    exact ⟨a, by rw [e1]; exact e2, h⟩
theorem vp_map {r : Option β} {f : β → α} {Q : α → Prop} : Vp (r.map f) Q ↔ Vp r fun a => Q (f a) := by
  constructor
  · rintro ⟨a, e, h⟩
    obtain ⟨b, e1, e2⟩ := Option.map_eq_some_iff.mp e
    exact ⟨b, e1, by dsimp only; rw [e2]; exact h⟩
  · rintro ⟨b, e1, h⟩
    exact ⟨_, by rw [e1]; rfl, h⟩
theorem vp_ite {c : Prop} [Decidable c] {a b : Option α} {Q : α → Prop} : Vp (if c then a else b) Q ↔ (c → Vp a Q) ∧ (¬ c → Vp b Q) := by
  by_cases h : c
  · simp [h]
  · simp [h]
theorem rp_some {f : Fl} {ρ : Env} {S : Sto} : RP (some (f, ρ, S)) P ↔ P f ρ S := ⟨fun ⟨b, T, U, e, h⟩ => by cases e; exact h, fun h => ⟨f, ρ, S, rfl, h⟩⟩
theorem rp_none : RP none P ↔ False := ⟨fun ⟨_, _, _, e, _⟩ => (nomatch e), False.elim⟩
/-- behind a value -/
theorem rp_bindM {r : M β} {f : β × Sto → R} : RP (r.bind f) P ↔ Wp r fun a S => RP (f (a, S)) P := by
  constructor
  · rintro ⟨a, ρ, S, e, h⟩
    obtain ⟨⟨b, T⟩, e1, e2⟩ := Option.bind_eq_some_iff.mp e
    exact ⟨b, T, e1, a, ρ, S, e2, h⟩
  · rintro ⟨b, T, e1, a, ρ, S, e2, h⟩
    exact ⟨a, ρ, S, by rw [e1]; exact e2, h⟩
theorem rp_mapM {r : M β} {f : β × Sto → Fl × Env × Sto} : RP (r.map f) P ↔ Wp r fun a S => P (f (a, S)).1 (f (a, S)).2.1 (f (a, S)).2.2 := by
  constructor
  · rintro ⟨a, ρ, S, e, h⟩
    obtain ⟨⟨b, T⟩, e1, e2⟩ := Option.map_eq_some_iff.mp e
    exact ⟨b, T, e1, by dsimp only; rw [e2]; exact h⟩
  · rintro ⟨b, T, e1, h⟩
    exact ⟨_, _, _, by rw [e1]; rfl, h⟩
theorem rp_bindV {r : Option β} {f : β → R} : RP (r.bind f) P ↔ Vp r fun a => RP (f a) P := by
  constructor
  · rintro ⟨a, ρ, S, e, h⟩
    obtain ⟨b, e1, e2⟩ := Option.bind_eq_some_iff.mp e
    exact ⟨b, e1, a, ρ, S, e2, h⟩
  · rintro ⟨b, e1, a, ρ, S, e2, h⟩
    exact ⟨a, ρ, S, by rw [e1]; exact e2, h⟩
theorem rp_mapV {r : Option β} {f : β → Fl × Env × Sto} : RP (r.map f) P ↔ Vp r fun a => P (f a).1 (f a).2.1 (f a).2.2 := by
  constructor
  · rintro ⟨a, ρ, S, e, h⟩
    obtain ⟨b, e1, e2⟩ := Option.map_eq_some_iff.mp e
    exact ⟨b, e1, by dsimp only; rw [e2]; exact h⟩
  · rintro ⟨b, e1, h⟩
    exact ⟨_, _, _, by rw [e1]; rfl, h⟩
theorem rp_ite {c : Prop} [Decidable c] {a b : R} : RP (if c then a else b) P ↔ (c → RP a P) ∧ (¬ c → RP b P) := by
  by_cases h : c
  · simp [h]
  · simp [h]
/-- behind a statement -/
def seqP (k : Env → Sto → R) (P : Fl → Env → Sto → Prop) : Fl → Env → Sto → Prop
  | .nx, ρ, S => RP (k ρ S) P
  | .brk, ρ, S => P .brk ρ S
  | .cnt, ρ, S => P .cnt ρ S
  | .ret d, ρ, S => P (.ret d) ρ S
theorem rp_cons {C : CallT} {W : Nat} {s : IS} {r : ISs} {ρ : Env} {S : Sto} : RP (exs C W (.cons s r) ρ S) P ↔ RP (ex C W s ρ S) (seqP (exs C W r) P) := by
  simp only [exs]
  constructor
  · rintro ⟨a, ρ', S', e, h⟩
    obtain ⟨⟨f, ρ1, S1⟩, e1, e2⟩ := Option.bind_eq_some_iff.mp e
    refine ⟨f, ρ1, S1, e1, ?_⟩
    cases f with
    | nx => exact ⟨a, ρ', S', e2, h⟩
    | brk => cases e2; exact h
    | cnt => cases e2; exact h
    | ret d => cases e2; exact h
  · rintro ⟨f, ρ1, S1, e1, h⟩
    rw [e1]
    cases f with
    | nx =>
      obtain ⟨a, ρ', S', e2, h⟩ := h
      exact ⟨a, ρ', S', e2, h⟩
    | brk => exact ⟨_, _, _, rfl, h⟩
    | cnt => exact ⟨_, _, _, rfl, h⟩
    | ret d => exact ⟨_, _, _, rfl, h⟩
theorem rp_nil {C : CallT} {W : Nat} {ρ : Env} {S : Sto} : RP (exs C W .nil ρ S) P ↔ P .nx ρ S := by
  simp only [exs]
  exact rp_some
theorem seq_nx {k : Env → Sto → R} {ρ : Env} {S : Sto} : seqP k P .nx ρ S ↔ RP (k ρ S) P := Iff.rfl
theorem seq_ret {k : Env → Sto → R} {ρ : Env} {S : Sto} {d : D} : seqP k P (.ret d) ρ S ↔ P (.ret d) ρ S := Iff.rfl
theorem seq_brk {k : Env → Sto → R} {ρ : Env} {S : Sto} : seqP k P .brk ρ S ↔ P .brk ρ S := Iff.rfl
theorem seq_cnt {k : Env → Sto → R} {ρ : Env} {S : Sto} : seqP k P .cnt ρ S ↔ P .cnt ρ S := Iff.rfl
/-- the ends of a loop's body: I the loop's own -/
def loopP (I : Env → Sto → Prop) (P : Fl → Env → Sto → Prop) : Fl → Env → Sto → Prop
  | .nx, ρ, S => I ρ S
  | .cnt, ρ, S => I ρ S
  | .brk, ρ, S => P .nx ρ S
  | .ret d, ρ, S => P (.ret d) ρ S
theorem loop_nx {I : Env → Sto → Prop} {ρ : Env} {S : Sto} : loopP I P .nx ρ S ↔ I ρ S := Iff.rfl
theorem loop_ret {I : Env → Sto → Prop} {ρ : Env} {S : Sto} {d : D} : loopP I P (.ret d) ρ S ↔ P (.ret d) ρ S := Iff.rfl
theorem loop_brk {I : Env → Sto → Prop} {ρ : Env} {S : Sto} : loopP I P .brk ρ S ↔ P .nx ρ S := Iff.rfl
theorem loop_cnt {I : Env → Sto → Prop} {ρ : Env} {S : Sto} : loopP I P .cnt ρ S ↔ I ρ S := Iff.rfl
/-- while, by a measure below the fuel -/
theorem rp_while {c : Env → Sto → M Bool} {body : Env → Sto → R} (I : Nat → Env → Sto → Prop)
    (turn : ∀ n ρ S, I n ρ S → Wp (c ρ S) fun b S1 => if b = true then RP (body ρ S1) (loopP (fun ρ' S' => ∃ m, m < n ∧ I m ρ' S') P) else P .nx ρ S1) :
    ∀ (k n : Nat) (ρ : Env) (S : Sto), I n ρ S → n < k → RP (whlF c body k ρ S) P
  | 0, n, ρ, S, _, h => absurd h (Nat.not_lt_zero n)
  | k + 1, n, ρ, S, hI, hk => by
    simp only [whlF]
    obtain ⟨b, S1, e1, h1⟩ := turn n ρ S hI
    rw [e1]
    cases b with
    | false => exact ⟨_, _, _, rfl, by simpa using h1⟩
    | true =>
      rw [if_pos rfl] at h1
      obtain ⟨f, ρ2, S2, e2, h2⟩ := h1
      simp only [Option.bind_some, if_true, e2]
      cases f with
      | nx =>
        obtain ⟨m, hm, h2⟩ := h2
        exact rp_while I turn k m ρ2 S2 h2 (by omega)
      | cnt =>
        obtain ⟨m, hm, h2⟩ := h2
        exact rp_while I turn k m ρ2 S2 h2 (by omega)
      | brk => exact ⟨_, _, _, rfl, h2⟩
      | ret d => exact ⟨_, _, _, rfl, h2⟩
/-- for, over items that stay -/
theorem rp_for {it : IT} {body : D → Env → Sto → R} (xs : List D) (I : Nat → Env → Sto → Prop) (hit : ∀ i ρ S, i ≤ xs.length → I i ρ S → itm it i S = some xs[i]?)
    (turn : ∀ i d ρ S, xs[i]? = some d → I i ρ S → RP (body d ρ S) (loopP (I (i + 1)) P)) (done : ∀ ρ S, I xs.length ρ S → P .nx ρ S) :
    ∀ (k i : Nat) (ρ : Env) (S : Sto), I i ρ S → i ≤ xs.length → xs.length ≤ k + i → RP (forF it body k i ρ S) P
  | 0, i, ρ, S, hI, hl, hk => by
    obtain rfl : i = xs.length := by omega
    simp only [forF, hit _ ρ S hl hI]
    rw [List.getElem?_eq_none (Nat.le_refl _)]
    exact ⟨_, _, _, rfl, done ρ S hI⟩
  | k + 1, i, ρ, S, hI, hl, hk => by
    simp only [forF, hit _ ρ S hl hI]
    cases e : xs[i]? with
    | none =>
      obtain rfl : i = xs.length := by
        have := List.getElem?_eq_none_iff.mp e
        omega
      exact ⟨_, _, _, rfl, done ρ S hI⟩
    | some d =>
      obtain ⟨f, ρ2, S2, e2, h2⟩ := turn i d ρ S e hI
      have hi := (List.getElem?_eq_some_iff.mp e).1
      show RP ((body d ρ S).bind _) P
      rw [e2]
      cases f with
      | nx => exact rp_for xs I hit turn done k (i + 1) ρ2 S2 h2 hi (by omega)
      | cnt => exact rp_for xs I hit turn done k (i + 1) ρ2 S2 h2 hi (by omega)
      | brk => exact ⟨_, _, _, rfl, h2⟩
      | ret d => exact ⟨_, _, _, rfl, h2⟩
/-- the turns of a comprehension -/
theorem vp_loop {it : IT} {turn : D → Sto → Option Sto} {Q : Sto → Prop} (xs : List D) (I : Nat → Sto → Prop) (hit : ∀ i S, i ≤ xs.length → I i S → itm it i S = some xs[i]?)
    (ht : ∀ i d S, xs[i]? = some d → I i S → Vp (turn d S) (I (i + 1))) (done : ∀ S, I xs.length S → Q S) :
    ∀ (k i : Nat) (S : Sto), I i S → i ≤ xs.length → xs.length ≤ k + i → Vp (itLoop it turn k i S) Q
  | 0, i, S, hI, hl, hk => by
    obtain rfl : i = xs.length := by omega
    simp only [itLoop, hit _ S hl hI]
    rw [List.getElem?_eq_none (Nat.le_refl _)]
    exact ⟨_, rfl, done S hI⟩
  | k + 1, i, S, hI, hl, hk => by
    simp only [itLoop, hit _ S hl hI]
    cases e : xs[i]? with
    | none =>
      obtain rfl : i = xs.length := by
        have := List.getElem?_eq_none_iff.mp e
        omega
      exact ⟨_, rfl, done S hI⟩
    | some d =>
      obtain ⟨S2, e2, h2⟩ := ht i d S e hI
      have hi := (List.getElem?_eq_some_iff.mp e).1
      show Vp ((turn d S).bind _) Q
      rw [e2]
      exact vp_loop xs I hit ht done k (i + 1) S2 h2 hi (by omega)
/-- V behind M -/
theorem vp_bindM {r : M β} {f : β × Sto → Option α} {Q : α → Prop} : Vp (r.bind f) Q ↔ Wp r fun a S => Vp (f (a, S)) Q := by
  constructor
  · rintro ⟨a, e, h⟩
    obtain ⟨⟨b, T⟩, e1, e2⟩ := Option.bind_eq_some_iff.mp e
    exact ⟨b, T, e1, a, e2, h⟩
  · rintro ⟨b, T, e1, a, e2, h⟩
    exact ⟨a, by rw [e1]; exact e2, h⟩
/-- a def of the table -/
theorem wp_run {Φ : List Fn} {W n f : Nat} {fn : Fn} {ds : List D} {S : Sto} {Q : D → Sto → Prop} (hf : Φ[f]? = some fn) (hl : ds.length = fn.np) (h : RP (exs (run Φ W n) W fn.body (bgn fn.ns ds) S) fun f ρ S => match f with
    | .nx => Q .non S
    | .ret d => Q d S
    | _ => False) : Wp (run Φ W (n + 1) f ds S) Q := by
  obtain ⟨fl, ρ, S', e, h⟩ := h
  simp only [run, hf, Option.bind_some, if_pos hl, e]
  cases fl with
  | nx => exact ⟨_, _, rfl, h⟩
  | ret d => exact ⟨_, _, rfl, h⟩
  | brk => exact h.elim
  | cnt => exact h.elim
end
/-! ### stores -/
/-- what stood at b and behind it stands -/
structure Kp (b : Nat) (S S' : Sto) : Prop where
  len : S.length ≤ S'.length
  kp : ∀ i, b ≤ i → i < S.length → S'[i]? = S[i]?
section
variable {b k i : Nat} {S S1 S2 : Sto} {o o' : O}
theorem Kp.refl : Kp b S S := ⟨Nat.le_refl _, fun _ _ _ => rfl⟩
theorem Kp.trans (h : Kp b S S1) (g : Kp b S1 S2) : Kp b S S2 := ⟨Nat.le_trans h.len g.len, fun i hb hi => (g.kp i hb (Nat.lt_of_lt_of_le hi h.len)).trans (h.kp i hb hi)⟩
theorem Kp.mono {b' : Nat} (h : Kp b S S1) (hb : b ≤ b') : Kp b' S S1 := ⟨h.len, fun i hi hl => h.kp i (Nat.le_trans hb hi) hl⟩
theorem Kp.app {T : Sto} (h : Kp b S S1) : Kp b S (S1 ++ T) := ⟨by rw [List.length_append]; exact Nat.le_trans h.len (Nat.le_add_right _ _), fun i hb hi => by
  rw [List.getElem?_append_left (Nat.lt_of_lt_of_le hi h.len)]
  exact h.kp i hb hi⟩
/-- a write to what is new, or below b -/
theorem Kp.set (h : Kp b S S1) (hk : S.length ≤ k ∨ k < b) : Kp b S (S1.set k o) := ⟨by rw [List.length_set]; exact h.len, fun i hb hi => by
  rw [List.getElem?_set_ne (by omega)]
  exact h.kp i hb hi⟩
theorem Kp.get (h : Kp b S S1) (e : S[i]? = some o) (hb : b ≤ i) : S1[i]? = some o := by
  rw [h.kp i hb (List.getElem?_eq_some_iff.mp e).1]
  exact e
theorem get_lt (e : S[i]? = some o) : i < S.length := (List.getElem?_eq_some_iff.mp e).1
theorem get_app {T : Sto} (e : S[i]? = some o) : (S ++ T)[i]? = some o := by
  rw [List.getElem?_append_left (get_lt e)]
  exact e
theorem get_new {T : Sto} : (S ++ o :: T)[S.length]? = some o := by simp
theorem get_set (h : i < S.length) : (S.set i o)[i]? = some o := List.getElem?_set_self h
theorem get_set_ne (e : S[i]? = some o) (h : k ≠ i) : (S.set k o')[i]? = some o := by
  rw [List.getElem?_set_ne h]
  exact e
theorem lst_get {xs : List D} (e : S[i]? = some (.lst xs)) : lstOf S i = some xs := by unfold lstOf; rw [e]
theorem frz_get {xs : List D} (e : S[i]? = some (.frz xs)) : lstOf S i = some xs := by unfold lstOf; rw [e]
theorem mut_get {xs : List D} (e : S[i]? = some (.lst xs)) : mutOf S i = some xs := by unfold mutOf; rw [e]
theorem dct_get {xs : List (Key × D)} (e : S[i]? = some (.dct xs)) : dctOf S i = some xs := by unfold dctOf; rw [e]
end
end Mi

namespace Mi
open PySem L2
section
variable {C : CallT} {W : Nat} {ρ : Env} {S : Sto} {Q : D → Sto → Prop} {QB : Bool → Sto → Prop} {P : Fl → Env → Sto → Prop}
/-! ### expressions -/
theorem wv_var {i : Ix} : Wp (ev C (.var i) ρ S) Q ↔ Vp (look ρ i) fun d => Q d S := by simp only [ev]; exact wp_mapV
theorem wv_cst {d : D} : Wp (ev C (.cst d) ρ S) Q ↔ Q d S := by simp only [ev]; exact wp_some
theorem wv_bin {op : Operator} {a b : IE} : Wp (ev C (.bin op a b) ρ S) Q ↔ Wp (ev C a ρ S) fun x S1 => Wp (ev C b ρ S1) fun y S2 => Wp (binD op x y S2) Q := by
  simp only [ev, wp_bind]
def negD : D → Option D
  | .int i => some (.int (-i))
  | _ => none
theorem wv_neg {a : IE} : Wp (ev C (.neg a) ρ S) Q ↔ Wp (ev C a ρ S) fun x S1 => Vp (negD x) fun d => Q d S1 := by
  simp only [ev, wp_bind]
  constructor
  · rintro ⟨x, S1, e, h⟩
    refine ⟨x, S1, e, ?_⟩
    cases x <;> simp only [wp_none, wp_some] at h
    exact ⟨_, rfl, h⟩
  · rintro ⟨x, S1, e, d, e2, h⟩
    refine ⟨x, S1, e, ?_⟩
    cases x <;> simp only [negD] at e2 <;> cases e2
    exact wp_some.mpr h
theorem wv_cmp {op : CmpOp} {a b : IE} : Wp (ev C (.cmp op a b) ρ S) Q ↔ Wp (ev C a ρ S) fun x S1 => Wp (ev C b ρ S1) fun y S2 => Vp (cmpD op x y S2) fun k => Q (.bl k) S2 := by
  simp only [ev, wp_bind, wp_mapV]
theorem wv_chn {op op' : CmpOp} {a b c : IE} : Wp (ev C (.chn op op' a b c) ρ S) Q ↔ Wp (ev C a ρ S) fun x S1 => Wp (ev C b ρ S1) fun y S2 => Vp (cmpD op x y S2) fun k =>
    (k = true → Wp (ev C c ρ S2) fun z S3 => Vp (cmpD op' y z S3) fun k => Q (.bl k) S3) ∧ (¬ k = true → Q (.bl false) S2) := by
  simp only [ev, wp_bind, wp_bindV (β := Bool), wp_ite, wp_mapV (β := Bool), wp_some]
theorem wv_not {a : IE} : Wp (ev C (.not a) ρ S) Q ↔ Wp (ev C a ρ S) fun x S1 => Vp (truD x S1) fun k => Q (.bl (!k)) S1 := by
  simp only [ev, wp_bind, wp_mapV]
def boolD : D → Option Bool
  | .bl k => some k
  | _ => none
theorem wv_and {a b : IE} : Wp (ev C (.and a b) ρ S) Q ↔ Wp (ev C a ρ S) fun x S1 => Vp (boolD x) fun k => (k = true → Wp (ev C b ρ S1) Q) ∧ (¬ k = true → Q (.bl false) S1) := by
  simp only [ev, wp_bind]
  constructor
  · rintro ⟨x, S1, e, h⟩
    refine ⟨x, S1, e, ?_⟩
    cases x with
    | bl k => cases k <;> simp_all [boolD, vp_some, wp_some]
    | _ => exact (wp_none.mp h).elim
  · rintro ⟨x, S1, e, d, e2, h⟩
    refine ⟨x, S1, e, ?_⟩
    cases x with
    | bl k => cases k <;> simp_all [boolD, wp_some]
    | _ => cases e2
theorem wv_or {a b : IE} : Wp (ev C (.or a b) ρ S) Q ↔ Wp (ev C a ρ S) fun x S1 => Vp (boolD x) fun k => (k = true → Q (.bl true) S1) ∧ (¬ k = true → Wp (ev C b ρ S1) Q) := by
  simp only [ev, wp_bind]
  constructor
  · rintro ⟨x, S1, e, h⟩
    refine ⟨x, S1, e, ?_⟩
    cases x with
    | bl k => cases k <;> simp_all [boolD, vp_some, wp_some]
    | _ => exact (wp_none.mp h).elim
  · rintro ⟨x, S1, e, d, e2, h⟩
    refine ⟨x, S1, e, ?_⟩
    cases x with
    | bl k => cases k <;> simp_all [boolD, wp_some]
    | _ => cases e2
theorem wv_ite {c : IC} {a b : IE} : Wp (ev C (.ite c a b) ρ S) Q ↔ Wp (tst C c ρ S) fun k S1 => (k = true → Wp (ev C a ρ S1) Q) ∧ (¬ k = true → Wp (ev C b ρ S1) Q) := by
  simp only [ev, wp_bind, wp_ite]
theorem wv_idx {a b : IE} : Wp (ev C (.idx a b) ρ S) Q ↔ Wp (ev C a ρ S) fun x S1 => Wp (ev C b ρ S1) fun y S2 => Vp (idxD x y S2) fun d => Q d S2 := by
  simp only [ev, wp_bind, wp_mapV]
theorem wv_slc {a : IE} {l h : IP} : Wp (ev C (.slc a l h) ρ S) Q ↔ Wp (ev C a ρ S) fun x S1 => Wp (evp C l ρ S1) fun y S2 => Wp (evp C h ρ S2) fun z S3 => Wp (slcD x y z S3) Q := by
  simp only [ev, wp_bind]
theorem wv_tup {es : IEs} : Wp (ev C (.tup es) ρ S) Q ↔ Wp (evs C es ρ S) fun xs S1 => xs.length ≤ sizeLine ∧ Q (.tup xs) S1 := by
  simp only [ev, wp_bind]
  constructor
  · rintro ⟨xs, S1, e, h⟩
    refine ⟨xs, S1, e, ?_⟩
    by_cases g : xs.length ≤ sizeLine
    · simp only [g, decide_true, if_true, wp_some] at h; exact ⟨g, h⟩
    · simp [g, wp_none] at h
  · rintro ⟨xs, S1, e, g, h⟩
    exact ⟨xs, S1, e, by simp only [g, decide_true, if_true, wp_some]; exact h⟩
theorem wv_lst {es : IEs} : Wp (ev C (.lst es) ρ S) Q ↔ Wp (evs C es ρ S) fun xs S1 => xs.length ≤ sizeLine ∧ Q (.ptr S1.length) (S1 ++ [.lst xs]) := by
  simp only [ev, wp_bind]
  constructor
  · rintro ⟨xs, S1, e, h⟩
    refine ⟨xs, S1, e, ?_⟩
    by_cases g : xs.length ≤ sizeLine
    · simp only [g, decide_true, if_true, wp_some] at h; exact ⟨g, h⟩
    · simp [g, wp_none] at h
  · rintro ⟨xs, S1, e, g, h⟩
    exact ⟨xs, S1, e, by simp only [g, decide_true, if_true, wp_some]; exact h⟩
theorem wv_dsp0 : Wp (ev C (.dsp .nil) ρ S) Q ↔ Q (.ptr S.length) (S ++ [.dct []]) := by
  simp only [ev, evd, wp_bind, wp_some]
  simp [wp_some, List.foldl]
theorem wd_nil {Q : List (Key × D) → Sto → Prop} : Wp (evd C .nil ρ S) Q ↔ Q [] S := by simp only [evd]; exact wp_some
theorem wd_cons {k v : IE} {r : IKV} {Q : List (Key × D) → Sto → Prop} : Wp (evd C (.cons k v r) ρ S) Q ↔ Wp (ev C k ρ S) fun x S1 => Vp (keyOf x) fun kk => Wp (ev C v ρ S1) fun y S2 => Wp (evd C r ρ S2) fun ps S3 => Q ((kk, y) :: ps) S3 := by
  simp only [evd, wp_bind, wp_map, wp_bindV (β := Key)]
def putAll (ps : List (Key × D)) : List (Key × D) := ps.foldl (fun acc kv => putKD acc kv.1 kv.2) []
theorem wv_dsp {k v : IE} {r : IKV} : Wp (ev C (.dsp (.cons k v r)) ρ S) Q ↔ Wp (evd C (.cons k v r) ρ (S ++ [.dct []])) fun ps S1 => S1[S.length]? = some (.dct []) ∧ Q (.ptr S.length) (S1.set S.length (.dct (putAll ps))) := by
  generalize IKV.cons k v r = kvs
  simp only [ev, wp_bind]
  constructor
  · rintro ⟨ps, S1, e, h⟩
    refine ⟨ps, S1, e, ?_⟩
    split at h
    · rename_i g
      exact ⟨g, wp_some.mp h⟩
    · exact (wp_none.mp h).elim
  · rintro ⟨ps, S1, e, g, h⟩
    refine ⟨ps, S1, e, ?_⟩
    simp only [g]
    exact wp_some.mpr h
theorem wv_call {f : Nat} {es : IEs} : Wp (ev C (.call f es) ρ S) Q ↔ Wp (evs C es ρ S) fun xs S1 => Wp (C f xs S1) Q := by
  simp only [ev, wp_bind]
theorem wv_callK {f : Nat} {es ks : IEs} {pm : List Nat} : Wp (ev C (.callK f es ks pm) ρ S) Q ↔ Wp (evs C es ρ S) fun xs S1 => Wp (evs C ks ρ S1) fun ys S2 => Wp (C f (pm.map fun i => (xs ++ ys).getD i .non) S2) Q := by
  simp only [ev, wp_bind]
theorem wv_blt {b : Bt} {es : IEs} : Wp (ev C (.blt b es) ρ S) Q ↔ Wp (evs C es ρ S) fun xs S1 => Wp (bltD b xs S1) Q := by
  simp only [ev, wp_bind]
theorem wv_mth {m : Mt} {o : IE} {es : IEs} : Wp (ev C (.mth m o es) ρ S) Q ↔ Wp (ev C o ρ S) fun x S1 => rcvOk m x S1 = true ∧ Wp (evs C es ρ S1) fun xs S2 => Wp (mthD m x xs S2) Q := by
  simp only [ev, wp_bind]
  constructor
  · rintro ⟨x, S1, e, h⟩
    refine ⟨x, S1, e, ?_⟩
    by_cases g : rcvOk m x S1 = true
    · rw [if_pos g, wp_bind] at h
      exact ⟨g, h⟩
    · rw [if_neg g, wp_none] at h
      exact h.elim
  · rintro ⟨x, S1, e, g, h⟩
    exact ⟨x, S1, e, by dsimp only; rw [if_pos g, wp_bind]; exact h⟩
theorem wv_isi {a : IE} {t : Ty} : Wp (ev C (.isi a t) ρ S) Q ↔ Wp (ev C a ρ S) fun x S1 => Vp (isiD x t S1) fun k => Q (.bl k) S1 := by
  simp only [ev, wp_bind, wp_mapV]
theorem wv_lc {elt : IE} {tg : Tg} {it : II} {ifs : IO} {own : List Ix} : Wp (ev C (.lc elt tg it ifs own) ρ S) Q ↔ Wp (evi C it ρ S) fun w S1 =>
    Vp (itLoop w (fun d S2 => (tgt tg d (wip ρ own)).bind fun ρ1 => (tsts C ifs ρ1 S2).bind fun q => if q.1 = true then (ev C elt ρ1 q.2).bind fun p => lcApp S1.length p.1 p.2 else some q.2) (cntI w S1) 0 (S1 ++ [.lst []])) fun S3 => Q (.ptr S1.length) S3 := by
  simp only [ev, wp_bind, wp_mapV]
theorem vp_turn {elt : IE} {tg : Tg} {ifs : IO} {l : Nat} {d : D} {Q : Sto → Prop} : Vp ((tgt tg d ρ).bind fun ρ1 => (tsts C ifs ρ1 S).bind fun q => if q.1 = true then (ev C elt ρ1 q.2).bind fun p => lcApp l p.1 p.2 else some q.2) Q ↔
    Vp (tgt tg d ρ) fun ρ1 => Wp (tsts C ifs ρ1 S) fun k S1 => (k = true → Wp (ev C elt ρ1 S1) fun x S2 => Vp (lcApp l x S2) Q) ∧ (¬ k = true → Q S1) := by
  simp only [vp_bind (β := Env), vp_bindM, vp_ite, vp_some]
theorem vp_turn2 {elt : IE} {ifs : IO} {l : Nat} {Q : Sto → Prop} : Vp ((tsts C ifs ρ S).bind fun q => if q.1 = true then (ev C elt ρ q.2).bind fun p => lcApp l p.1 p.2 else some q.2) Q ↔
    Wp (tsts C ifs ρ S) fun k S1 => (k = true → Wp (ev C elt ρ S1) fun x S2 => Vp (lcApp l x S2) Q) ∧ (¬ k = true → Q S1) := by
  simp only [vp_bindM, vp_ite, vp_some]
theorem ws_nil {Q : List D → Sto → Prop} : Wp (evs C .nil ρ S) Q ↔ Q [] S := by simp only [evs]; exact wp_some
theorem ws_cons {e : IE} {es : IEs} {Q : List D → Sto → Prop} : Wp (evs C (.cons e es) ρ S) Q ↔ Wp (ev C e ρ S) fun x S1 => Wp (evs C es ρ S1) fun xs S2 => Q (x :: xs) S2 := by
  simp only [evs, wp_bind, wp_map]
theorem wp_no {Q : Option Int → Sto → Prop} : Wp (evp C .no ρ S) Q ↔ Q none S := by simp only [evp]; exact wp_some
def intD : D → Option Int
  | .int i => some i
  | _ => none
theorem wp_yes {e : IE} {Q : Option Int → Sto → Prop} : Wp (evp C (.yes e) ρ S) Q ↔ Wp (ev C e ρ S) fun x S1 => Vp (intD x) fun i => Q (some i) S1 := by
  simp only [evp, wp_bind]
  constructor
  · rintro ⟨x, S1, e, h⟩
    refine ⟨x, S1, e, ?_⟩
    cases x <;> simp only [wp_none, wp_some] at h
    exact ⟨_, rfl, h⟩
  · rintro ⟨x, S1, e, d, e2, h⟩
    refine ⟨x, S1, e, ?_⟩
    cases x <;> simp only [intD] at e2 <;> cases e2
    exact wp_some.mpr h
theorem wt_val {e : IE} : Wp (tst C (.val e) ρ S) QB ↔ Wp (ev C e ρ S) fun x S1 => Vp (truD x S1) fun k => QB k S1 := by
  simp only [tst, wp_bind, wp_mapV]
theorem wt_not {a : IC} : Wp (tst C (.not a) ρ S) QB ↔ Wp (tst C a ρ S) fun k S1 => QB (!k) S1 := by
  simp only [tst, wp_map]
theorem wt_and {a b : IC} : Wp (tst C (.and a b) ρ S) QB ↔ Wp (tst C a ρ S) fun k S1 => (k = true → Wp (tst C b ρ S1) QB) ∧ (¬ k = true → QB false S1) := by
  simp only [tst, wp_bind, wp_ite, wp_some]
theorem wt_or {a b : IC} : Wp (tst C (.or a b) ρ S) QB ↔ Wp (tst C a ρ S) fun k S1 => (k = true → QB true S1) ∧ (¬ k = true → Wp (tst C b ρ S1) QB) := by
  simp only [tst, wp_bind, wp_ite, wp_some]
theorem wo_yes : Wp (tsts C .yes ρ S) QB ↔ QB true S := by simp only [tsts]; exact wp_some
theorem wo_one {c : IC} : Wp (tsts C (.one c) ρ S) QB ↔ Wp (tst C c ρ S) QB := by simp only [tsts]
/-! ### walks -/
def seqI (x : D) (S : Sto) : Option IT := match x with
  | .tup xs => some (.tup xs)
  | .ptr n => (lstOf S n).map fun _ => .ptr n
  | .str z => some (.str z)
  | _ => none
theorem wi_seq {a : IE} {Q : IT → Sto → Prop} : Wp (evi C (.seq a) ρ S) Q ↔ Wp (ev C a ρ S) fun x S1 => Vp (seqI x S1) fun w => Q w S1 := by
  simp only [evi, wp_bind]
  constructor
  · rintro ⟨x, S1, e, h⟩
    refine ⟨x, S1, e, ?_⟩
    cases x <;> simp only [wp_none, wp_some, wp_mapV, seqI, vp_some, vp_map] at h ⊢ <;> exact h
  · rintro ⟨x, S1, e, h⟩
    refine ⟨x, S1, e, ?_⟩
    cases x <;> simp only [wp_none, vp_none, wp_some, wp_mapV, seqI, vp_some, vp_map] at h ⊢ <;> exact h
theorem wi_rng1 {a : IE} {Q : IT → Sto → Prop} : Wp (evi C (.rng1 a) ρ S) Q ↔ Wp (ev C a ρ S) fun x S1 => Vp (intD x) fun j => (-(2 ^ 62) ≤ j ∧ j < 2 ^ 62) ∧ Q (.rng 0 j.toNat) S1 := by
  simp only [evi, wp_bind]
  constructor
  · rintro ⟨x, S1, e, h⟩
    refine ⟨x, S1, e, ?_⟩
    cases x <;> simp only [wp_none] at h
    rename_i j
    by_cases g : (decide (-(2 ^ 62) ≤ j) && decide (j < 2 ^ 62)) = true
    · rw [if_pos g, wp_some] at h
      exact ⟨j, rfl, by simpa using g, h⟩
    · rw [if_neg g, wp_none] at h
      exact h.elim
  · rintro ⟨x, S1, e, j, e2, g, h⟩
    refine ⟨x, S1, e, ?_⟩
    cases x <;> simp only [intD] at e2 <;> cases e2
    dsimp only
    rw [if_pos (by simpa using g), wp_some]
    exact h
theorem wi_rng2 {a b : IE} {Q : IT → Sto → Prop} : Wp (evi C (.rng2 a b) ρ S) Q ↔ Wp (ev C a ρ S) fun x S1 => Wp (ev C b ρ S1) fun y S2 => Vp (intD x) fun i => Vp (intD y) fun j => (-(2 ^ 62) ≤ i ∧ i < 2 ^ 62 ∧ -(2 ^ 62) ≤ j ∧ j < 2 ^ 62) ∧ Q (.rng i (j - i).toNat) S2 := by
  simp only [evi, wp_bind]
  constructor
  · rintro ⟨x, S1, e, y, S2, e', h⟩
    refine ⟨x, S1, e, y, S2, e', ?_⟩
    cases x <;> cases y <;> simp only [wp_none] at h
    rename_i i j
    by_cases g : (decide (-(2 ^ 62) ≤ i) && decide (i < 2 ^ 62) && decide (-(2 ^ 62) ≤ j) && decide (j < 2 ^ 62)) = true
    · rw [if_pos g, wp_some] at h
      exact ⟨i, rfl, j, rfl, by simpa [and_assoc] using g, h⟩
    · rw [if_neg g, wp_none] at h
      exact h.elim
  · rintro ⟨x, S1, e, y, S2, e', i, e2, j, e3, g, h⟩
    refine ⟨x, S1, e, y, S2, e', ?_⟩
    cases x <;> simp only [intD] at e2 <;> cases e2
    cases y <;> simp only [intD] at e3 <;> cases e3
    dsimp only
    rw [if_pos (by simpa [and_assoc] using g), wp_some]
    exact h
def enmI (x : D) (S : Sto) : Option IT := match x with
  | .tup xs => some (.enmT xs)
  | .ptr n => (lstOf S n).map fun _ => .enmP n
  | _ => none
theorem wi_enm {a : IE} {Q : IT → Sto → Prop} : Wp (evi C (.enm a) ρ S) Q ↔ Wp (ev C a ρ S) fun x S1 => Vp (enmI x S1) fun w => Q w S1 := by
  simp only [evi, wp_bind]
  constructor
  · rintro ⟨x, S1, e, h⟩
    refine ⟨x, S1, e, ?_⟩
    cases x <;> simp only [wp_none, wp_some, wp_mapV, enmI, vp_some, vp_map] at h ⊢ <;> exact h
  · rintro ⟨x, S1, e, h⟩
    refine ⟨x, S1, e, ?_⟩
    cases x <;> simp only [wp_none, vp_none, wp_some, wp_mapV, enmI, vp_some, vp_map] at h ⊢ <;> exact h
/-! ### statements -/
theorem rs_asg {t : Tg} {e : IE} : RP (ex C W (.asg t e) ρ S) P ↔ Wp (ev C e ρ S) fun x S1 => Vp (tgt t x ρ) fun ρ1 => P .nx ρ1 S1 := by
  simp only [ex, rp_bindM, rp_mapV]
theorem rs_asgS {o i e : IE} : RP (ex C W (.asgS o i e) ρ S) P ↔ Wp (ev C e ρ S) fun x S1 => Wp (ev C o ρ S1) fun y S2 => Wp (ev C i ρ S2) fun z S3 => Vp (setD y z x S3) fun S4 => P .nx ρ S4 := by
  simp only [ex, rp_bindM, rp_mapV]
theorem rs_aug {i : Ix} {op : Operator} {e : IE} : RP (ex C W (.aug i op e) ρ S) P ↔ Vp (look ρ i) fun x => Wp (ev C e ρ S) fun y S1 => Wp (augD op x y S1) fun z S2 => P .nx (put ρ i (some z)) S2 := by
  simp only [ex, rp_bindV (β := D), rp_bindM, rp_mapM]
theorem rs_augS {o i e : IE} {op : Operator} : RP (ex C W (.augS o i op e) ρ S) P ↔ Wp (ev C o ρ S) fun y S1 => Wp (ev C i ρ S1) fun z S2 => Vp (idxD y z S2) fun x => Wp (ev C e ρ S2) fun v S3 => Wp (augD op x v S3) fun u S4 => Vp (setD y z u S4) fun S5 => P .nx ρ S5 := by
  simp only [ex, rp_bindM, rp_bindV (β := D), rp_mapV (β := Sto)]
theorem rs_exp {e : IE} : RP (ex C W (.exp e) ρ S) P ↔ Wp (ev C e ρ S) fun _ S1 => P .nx ρ S1 := by
  simp only [ex, rp_mapM]
theorem rs_ret {e : IE} : RP (ex C W (.ret e) ρ S) P ↔ Wp (ev C e ρ S) fun x S1 => P (.ret x) ρ S1 := by
  simp only [ex, rp_mapM]
theorem rs_retN : RP (ex C W .retN ρ S) P ↔ P (.ret .non) ρ S := by simp only [ex]; exact rp_some
theorem rs_ite {c : IC} {a b : ISs} : RP (ex C W (.ite c a b) ρ S) P ↔ Wp (tst C c ρ S) fun k S1 => (k = true → RP (exs C W a ρ S1) P) ∧ (¬ k = true → RP (exs C W b ρ S1) P) := by
  simp only [ex, rp_bindM, rp_ite]
theorem rs_for {t : Tg} {it : II} {b : ISs} : RP (ex C W (.for t it b) ρ S) P ↔ Wp (evi C it ρ S) fun w S1 => RP (forF w (fun d ρ1 S1 => (tgt t d ρ1).bind fun ρ2 => exs C W b ρ2 S1) (cntI w S1) 0 ρ S1) P := by
  simp only [ex, rp_bindM]
theorem rs_body {t : Tg} {d : D} {b : ISs} : RP ((tgt t d ρ).bind fun ρ2 => exs C W b ρ2 S) P ↔ Vp (tgt t d ρ) fun ρ2 => RP (exs C W b ρ2 S) P := rp_bindV
theorem rs_whl {c : IC} {b : ISs} : RP (ex C W (.whl c b) ρ S) P ↔ RP (whlF (tst C c) (exs C W b) W ρ S) P := by simp only [ex]
theorem rs_brk : RP (ex C W .brk ρ S) P ↔ P .brk ρ S := by simp only [ex]; exact rp_some
theorem rs_cnt : RP (ex C W .cnt ρ S) P ↔ P .cnt ρ S := by simp only [ex]; exact rp_some
theorem rs_pas : RP (ex C W .pas ρ S) P ↔ P .nx ρ S := by simp only [ex]; exact rp_some
/-! ### operations -/
variable {xs ys : List D} {i j : Int} {x y : D} {n : Nat} {z : Str}
def idxO : Option O → Int → Option D
  | some (.lst xs), i => atI xs i
  | some (.frz xs), i => atI xs i
  | some (.dct kvs), i => getK kvs (.inl i)
  | none, _ => none
def idxK : Option O → Str → Option D
  | some (.dct kvs), i => getK kvs (.inr i)
  | _, _ => none
theorem o_ixT : idxD (.tup xs) (.int i) S = atI xs i := rfl
theorem o_ixP : idxD (.ptr n) (.int i) S = idxO S[n]? i := by
  simp only [idxD]
  cases S[n]? with
  | none => rfl
  | some o => cases o <;> rfl
theorem o_ixK : idxD (.ptr n) (.str z) S = idxK S[n]? z := by
  simp only [idxD]
  cases S[n]? with
  | none => rfl
  | some o => cases o <;> rfl
theorem o_ixS (h : z.length ≤ sizeLine) : idxD (.str z) (.int i) S = (atI z.cps.toList i).map fun c => .str ⟨#[c]⟩ := by
  simp only [idxD, h, decide_true, if_true]
theorem i_lst : idxO (some (.lst xs)) i = atI xs i := rfl
theorem i_frz : idxO (some (.frz xs)) i = atI xs i := rfl
theorem i_dct {kvs : List (Key × D)} : idxO (some (.dct kvs)) i = getK kvs (.inl i) := rfl
theorem i_dctK {kvs : List (Key × D)} : idxK (some (.dct kvs)) z = getK kvs (.inr z) := rfl
theorem at0 : atI (x :: xs) 0 = some x := atI_nat (j := 0) rfl
theorem at1 {a : D} : atI (a :: x :: xs) 1 = some x := atI_nat (j := 1) rfl
theorem at2 {a b : D} : atI (a :: b :: x :: xs) 2 = some x := atI_nat (j := 2) rfl
theorem at3 {a b c : D} : atI (a :: b :: c :: x :: xs) 3 = some x := atI_nat (j := 3) rfl
theorem ixOf_nat {k : Nat} (h : k < n) : ixN n (k : Int) = some k := by
  unfold ixN
  rw [if_pos (Int.natCast_nonneg k), if_pos (by exact_mod_cast h)]
  simp
theorem ix0 : ixN (n + 1) 0 = some 0 := ixOf_nat (k := 0) (by omega)
theorem ix1 : ixN (n + 1 + 1) 1 = some 1 := ixOf_nat (k := 1) (by omega)
theorem ix2 : ixN (n + 1 + 1 + 1) 2 = some 2 := ixOf_nat (k := 2) (by omega)
theorem cast_pos : (0 : Int) < ((n + 1 : Nat) : Int) ↔ True := ⟨fun _ => trivial, fun _ => by omega⟩
theorem cast_ne : ((n + 1 : Nat) : Int) = 0 ↔ False := ⟨fun h => by omega, False.elim⟩
theorem zero_cast : ((0 : Nat) : Int) = 0 := rfl
def lenO : Option O → Option Int
  | some (.lst xs) => some xs.length
  | some (.frz xs) => some xs.length
  | some (.dct kvs) => some kvs.length
  | none => none
theorem b_lenT : Wp (bltD .len [.tup xs] S) Q ↔ Q (.int xs.length) S := wp_some
theorem b_lenP : Wp (bltD .len [.ptr n] S) Q ↔ Vp (lenO S[n]?) fun k => Q (.int k) S := by
  simp only [bltD]
  cases S[n]? with
  | none => simp only [lenO, wp_none, vp_none]
  | some o => cases o <;> simp only [lenO, wp_some, vp_some]
theorem l_lst : lenO (some (.lst xs)) = some (xs.length : Int) := rfl
theorem l_frz : lenO (some (.frz xs)) = some (xs.length : Int) := rfl
theorem l_dct {kvs : List (Key × D)} : lenO (some (.dct kvs)) = some (kvs.length : Int) := rfl
theorem b_abs : Wp (bltD .abs [.int i] S) Q ↔ Q (.int (if i < 0 then -i else i)) S := wp_some
theorem b_int : Wp (bltD .int [.int i] S) Q ↔ Q (.int i) S := wp_some
theorem b_intB {k : Bool} : Wp (bltD .int [.bl k] S) Q ↔ Q (.int (if k then 1 else 0)) S := wp_some
theorem b_tupT : Wp (bltD .tuple [.tup xs] S) Q ↔ Q (.tup xs) S := wp_some
theorem b_tupP : Wp (bltD .tuple [.ptr n] S) Q ↔ Vp (lstOf S n) fun xs => Q (.tup xs) S := by simp only [bltD, wp_mapV]
theorem b_lstT : Wp (bltD .list [.tup xs] S) Q ↔ Q (.ptr S.length) (S ++ [.lst xs]) := wp_some
theorem b_lstP : Wp (bltD .list [.ptr n] S) Q ↔ Vp (lstOf S n) fun xs => Q (.ptr S.length) (S ++ [.lst xs]) := by simp only [bltD, wp_mapV]
theorem b_srt : Wp (bltD .sorted [.ptr n] S) Q ↔ Vp (lstOf S n) fun xs => Vp (intsOf xs) fun is => Q (.ptr S.length) (S ++ [.lst ((isort is).map D.int)]) := by simp only [bltD, wp_bindV, wp_mapV]
theorem b_sum : Wp (bltD .sum [.ptr n] S) Q ↔ Vp (lstOf S n) fun xs => Vp (intsOf xs) fun is => Q (.int is.sum) S := by simp only [bltD, wp_bindV, wp_mapV]
theorem b_any : Wp (bltD .any [.ptr n] S) Q ↔ Vp (lstOf S n) fun xs => Vp (bolsOf xs) fun is => Q (.bl (is.any id)) S := by simp only [bltD, wp_bindV, wp_mapV]
theorem b_all : Wp (bltD .all [.ptr n] S) Q ↔ Vp (lstOf S n) fun xs => Vp (bolsOf xs) fun is => Q (.bl (is.all id)) S := by simp only [bltD, wp_bindV, wp_mapV]
theorem b_max2 : Wp (bltD .max2 [.int i, .int j] S) Q ↔ Q (.int (if j > i then j else i)) S := wp_some
theorem b_min2 : Wp (bltD .min2 [.int i, .int j] S) Q ↔ Q (.int (if j < i then j else i)) S := wp_some
theorem b_lrg : Wp (bltD .listRange [.int i] S) Q ↔ (-(2 ^ 62) ≤ i ∧ i < 1000000) ∧ Q (.ptr S.length) (S ++ [.lst ((List.range i.toNat).map fun k => D.int (k : Nat))]) := by
  simp only [bltD]
  by_cases g : (decide (-(2 ^ 62) ≤ i) && decide (i < 1000000)) = true
  · rw [if_pos g, wp_some]
    simp only [Bool.and_eq_true, decide_eq_true_eq] at g
    exact ⟨fun h => ⟨g, h⟩, fun h => h.2⟩
  · rw [if_neg g, wp_none]
    simp only [Bool.and_eq_true, decide_eq_true_eq] at g
    exact ⟨False.elim, fun h => g h.1⟩
theorem o_add : Wp (binD .Add (.int i) (.int j) S) Q ↔ Q (.int (i + j)) S := wp_some
theorem o_sub : Wp (binD .Sub (.int i) (.int j) S) Q ↔ Q (.int (i - j)) S := wp_some
theorem gte {α : Type} {b : Bool} {r : M α} {Q : α → Sto → Prop} : Wp (if b = true then r else none) Q ↔ b = true ∧ Wp r Q := by
  cases b <;> simp [wp_none]
theorem gteP {α : Type} {b : Prop} [Decidable b] {r : M α} {Q : α → Sto → Prop} : Wp (if b then r else none) Q ↔ b ∧ Wp r Q := by
  by_cases h : b <;> simp [h, wp_none]
theorem o_mul : Wp (binD .Mult (.int i) (.int j) S) Q ↔ mulOk i j = true ∧ Q (.int (i * j)) S := by
  simp only [binD]
  rw [gte, wp_some]
theorem o_fdv : Wp (binD .FloorDiv (.int i) (.int j) S) Q ↔ divOk j = true ∧ Q (.int (i / j)) S := by
  simp only [binD]
  rw [gte, wp_some]
theorem o_mod : Wp (binD .Mod (.int i) (.int j) S) Q ↔ 0 < j ∧ Q (.int (i % j)) S := by
  simp only [binD]
  rw [gte, wp_some, decide_eq_true_eq]
theorem o_pow : Wp (binD .Pow (.int i) (.int j) S) Q ↔ powOk i j = true ∧ Q (.int (i ^ j.toNat)) S := by
  simp only [binD]
  rw [gte, wp_some]
theorem o_cat : Wp (binD .Add (.tup xs) (.tup ys) S) Q ↔ xs.length + ys.length ≤ sizeLine ∧ Q (.tup (xs ++ ys)) S := by
  simp only [binD]
  rw [gte, wp_some, decide_eq_true_eq]
theorem o_catS {z' : Str} : Wp (binD .Add (.str z) (.str z') S) Q ↔ z.length + z'.length ≤ sizeLine ∧ Q (.str (z ++ z')) S := by
  simp only [binD]
  rw [gte, wp_some, decide_eq_true_eq]
theorem o_catP {n' : Nat} : Wp (binD .Add (.ptr n) (.ptr n') S) Q ↔ Vp (mutOf S n) fun xs => Vp (mutOf S n') fun ys => xs.length + ys.length ≤ sizeLine ∧ Q (.ptr S.length) (S ++ [.lst (xs ++ ys)]) := by
  simp only [binD]
  cases mutOf S n with
  | none => simp only [wp_none, vp_none]
  | some xs =>
    cases mutOf S n' with
    | none => simp only [wp_none, vp_none, vp_some]
    | some ys => simp only [vp_some]; rw [gte, wp_some, decide_eq_true_eq]
theorem o_rep : Wp (binD .Mult (.ptr n) (.int j) S) Q ↔ Vp (mutOf S n) fun xs => (-(2 ^ 63) ≤ j ∧ j < 2 ^ 63 ∧ xs.length * j.toNat ≤ sizeLine) ∧ Q (.ptr S.length) (S ++ [.lst (List.replicate j.toNat xs).flatten]) := by
  simp only [binD]
  cases mutOf S n with
  | none => simp only [wp_none, vp_none]
  | some xs =>
    simp only [vp_some]
    rw [gte, wp_some]
    simp only [Bool.and_eq_true, decide_eq_true_eq, and_assoc]
theorem n_int : negD (.int i) = some (.int (-i)) := rfl
theorem bo_bl {k : Bool} : boolD (.bl k) = some k := rfl
theorem in_int : intD (.int i) = some i := rfl
theorem c_lt : cmpD .Lt (.int i) (.int j) S = some (decide (i < j)) := rfl
theorem c_le : cmpD .LtE (.int i) (.int j) S = some (decide (i ≤ j)) := rfl
theorem c_gt : cmpD .Gt (.int i) (.int j) S = some (decide (j < i)) := rfl
theorem c_ge : cmpD .GtE (.int i) (.int j) S = some (decide (j ≤ i)) := rfl
theorem c_eq : cmpD .Eq x y S = eqA x y := rfl
theorem c_ne : cmpD .NotEq x y S = (eqA x y).map (!·) := rfl
theorem c_in : cmpD .In x y S = inD x y S := rfl
theorem c_nin : cmpD .NotIn x y S = (inD x y S).map (!·) := rfl
theorem e_ii : eqA (.int i) (.int j) = some (decide (i = j)) := rfl
theorem e_ss {z' : Str} : eqA (.str z) (.str z') = some (decide (z = z')) := rfl
theorem e_bb {a b : Bool} : eqA (.bl a) (.bl b) = some (decide (a = b)) := rfl
theorem t_bl {k : Bool} : truD (.bl k) S = some k := rfl
theorem t_int : truD (.int i) S = some (i != 0) := rfl
theorem t_tup : truD (.tup xs) S = some (!xs.isEmpty) := rfl
theorem t_ptr : truD (.ptr n) S = (lstOf S n).map fun xs => !xs.isEmpty := rfl
theorem s_tup {l h : Option Int} : Wp (slcD (.tup xs) l h S) Q ↔ Q (.tup (cutD xs l h)) S := wp_some
theorem s_ptr {l h : Option Int} : Wp (slcD (.ptr n) l h S) Q ↔ Vp (lstOf S n) fun xs => Q (.ptr S.length) (S ++ [.lst (cutD xs l h)]) := by simp only [slcD, wp_mapV]
theorem m_app : Wp (mthD .append (.ptr n) [x] S) Q ↔ Vp (mutOf S n) fun xs => xs.length < sizeLine ∧ Q .non (S.set n (.lst (xs ++ [x]))) := by
  simp only [mthD, wp_bindV]
  simp only [decide_eq_true_eq, gteP, wp_some]
theorem m_pop : Wp (mthD .pop (.ptr n) [] S) Q ↔ Vp (mutOf S n) fun xs => Vp (xs[xs.length - 1]?) fun y => Q y (S.set n (.lst xs.dropLast)) := by simp only [mthD, wp_bindV, wp_mapV]
theorem m_popAt : Wp (mthD .popAt (.ptr n) [.int i] S) Q ↔ Vp (mutOf S n) fun xs => Vp (ixN xs.length i) fun k => xs.length ≤ sizeLine ∧ Vp (xs[k]?) fun y => Q y (S.set n (.lst (xs.eraseIdx k))) := by
  simp only [mthD, wp_bindV]
  simp only [decide_eq_true_eq, gteP, wp_mapV]
theorem m_joinP {a : Str} : Wp (mthD .join (.str a) [.ptr n] S) Q ↔ Vp (lstOf S n) fun xs => Vp (strsOf xs) fun ys => (ys.map (·.length)).sum + ys.length * a.length ≤ 16777216 ∧ Q (.str (Txt.join a ys)) S := by
  simp only [mthD, wp_bindV]
  simp only [decide_eq_true_eq, gteP, wp_some]
theorem r_app : rcvOk .append (.ptr n) S = (mutOf S n).isSome := rfl
theorem r_pop : rcvOk .pop (.ptr n) S = (mutOf S n).isSome := rfl
theorem r_popAt : rcvOk .popAt (.ptr n) S = (mutOf S n).isSome := rfl
theorem r_join {a : Str} : rcvOk .join (.str a) S = true := rfl
theorem a_add : Wp (augD .Add (.int i) (.int j) S) Q ↔ Q (.int (i + j)) S := wp_some
theorem a_sub : Wp (augD .Sub (.int i) (.int j) S) Q ↔ Q (.int (i - j)) S := wp_some
def setO (S : Sto) (n : Nat) (i x : D) : Option O → Option Sto
  | some (.lst xs) => (intD i).bind fun i => (ixN xs.length i).map fun j => S.set n (.lst (xs.set j x))
  | some (.dct kvs) => (keyOf i).bind fun k => if decide (kvs.length < sizeLine) then some (S.set n (.dct (putKD kvs k x))) else none
  | _ => none
theorem d_set {i : D} : setD (.ptr n) i x S = setO S n i x S[n]? := by
  simp only [setD]
  cases S[n]? with
  | none => rfl
  | some o =>
    cases o with
    | lst xs => cases i <;> rfl
    | frz xs => rfl
    | dct kvs => rfl
theorem d_lst {i : Int} : setO S n (.int i) x (some (.lst xs)) = (ixN xs.length i).map fun j => S.set n (.lst (xs.set j x)) := rfl
theorem d_dct {kvs : List (Key × D)} {k : D} : setO S n k x (some (.dct kvs)) = (keyOf k).bind fun k => if decide (kvs.length < sizeLine) then some (S.set n (.dct (putKD kvs k x))) else none := rfl
theorem k_int : keyOf (.int i) = some (.inl i) := rfl
theorem k_str : keyOf (.str z) = some (.inr z) := rfl
theorem n_dct {kvs : List (Key × D)} {k : D} (h : S[n]? = some (.dct kvs)) : inD k (.ptr n) S = (keyOf k).map fun k => (getK kvs k).isSome := by simp only [inD, h]
theorem vp_gte {α : Type} {b : Bool} {r : Option α} {Q : α → Prop} : Vp (if b = true then r else none) Q ↔ b = true ∧ Vp r Q := by
  cases b <;> simp [vp_none]
theorem vp_gteP {α : Type} {b : Prop} [Decidable b] {r : Option α} {Q : α → Prop} : Vp (if b then r else none) Q ↔ b ∧ Vp r Q := by
  by_cases h : b <;> simp [h, vp_none]
theorem z_n {t : Ty} : isiD .non t S = some false := rfl
theorem z_b {b : Bool} {t : Ty} : isiD (.bl b) t S = some (isT t .bool) := rfl
theorem z_i {t : Ty} : isiD (.int i) t S = some (isT t .int) := rfl
theorem z_s {t : Ty} : isiD (.str z) t S = some (isT t .str) := rfl
theorem z_t {t : Ty} : isiD (.tup xs) t S = some (isT t .tuple) := rfl
theorem cs_n : cmpD .Is .non .non S = some true := rfl
theorem cs_b {b : Bool} : cmpD .Is (.bl b) .non S = some false := rfl
theorem cs_i : cmpD .Is (.int i) .non S = some false := rfl
theorem cs_s : cmpD .Is (.str z) .non S = some false := rfl
theorem cs_t : cmpD .Is (.tup xs) .non S = some false := rfl
theorem cn_n : cmpD .IsNot .non .non S = some false := rfl
theorem cn_b {b : Bool} : cmpD .IsNot (.bl b) .non S = some true := rfl
theorem cn_i : cmpD .IsNot (.int i) .non S = some true := rfl
theorem cn_s : cmpD .IsNot (.str z) .non S = some true := rfl
theorem cn_t : cmpD .IsNot (.tup xs) .non S = some true := rfl
theorem q_name {i : Ix} : tgt (.name i) x ρ = some (put ρ i (some x)) := rfl
theorem q_tup {ts : List Tg} : tgt (.tup ts) (.tup xs) ρ = tgts ts xs ρ := rfl
theorem q_nil : tgts [] [] ρ = some ρ := rfl
theorem q_cons {t : Tg} {ts : List Tg} : tgts (t :: ts) (x :: xs) ρ = (tgt t x ρ).bind fun ρ' => tgts ts xs ρ' := rfl
theorem p_z {a : Option D} {r : Env} {d : Option D} : put (a :: r) .z d = d :: r := rfl
theorem p_s {a : Option D} {r : Env} {i : Ix} {d : Option D} : put (a :: r) (.s i) d = a :: put r i d := rfl
theorem g_z {a : Option D} {r : Env} : look (a :: r) .z = a := rfl
theorem g_s {a : Option D} {r : Env} {i : Ix} : look (a :: r) (.s i) = look r i := rfl
theorem f_nil : wip ρ [] = ρ := rfl
theorem f_cons {v : Ix} {vs : List Ix} : wip ρ (v :: vs) = put (wip ρ vs) v none := rfl
end
end Mi

namespace Mi
open PySem L2
abbrev i0 : Ix := .z
abbrev i1 : Ix := .s (.z)
abbrev i2 : Ix := .s (.s (.z))
abbrev i3 : Ix := .s (.s (.s (.z)))
abbrev i4 : Ix := .s (.s (.s (.s (.z))))
abbrev i5 : Ix := .s (.s (.s (.s (.s (.z)))))
abbrev i6 : Ix := .s (.s (.s (.s (.s (.s (.z))))))
abbrev i7 : Ix := .s (.s (.s (.s (.s (.s (.s (.z)))))))
abbrev i8 : Ix := .s (.s (.s (.s (.s (.s (.s (.s (.z))))))))
abbrev i9 : Ix := .s (.s (.s (.s (.s (.s (.s (.s (.s (.z)))))))))
abbrev i10 : Ix := .s (.s (.s (.s (.s (.s (.s (.s (.s (.s (.z))))))))))
abbrev i11 : Ix := .s (.s (.s (.s (.s (.s (.s (.s (.s (.s (.s (.z)))))))))))
abbrev i12 : Ix := .s (.s (.s (.s (.s (.s (.s (.s (.s (.s (.s (.s (.z))))))))))))
abbrev i13 : Ix := .s (.s (.s (.s (.s (.s (.s (.s (.s (.s (.s (.s (.s (.z)))))))))))))
abbrev i14 : Ix := .s (.s (.s (.s (.s (.s (.s (.s (.s (.s (.s (.s (.s (.s (.z))))))))))))))
abbrev i15 : Ix := .s (.s (.s (.s (.s (.s (.s (.s (.s (.s (.s (.s (.s (.s (.s (.z)))))))))))))))
def bagB (s0 a c : Int) : ISs := (.cons (.asg (.name i1) (.lst .nil)) (.cons (.asg (.name i2) (.cst (.int s0))) (.cons (.for (.name i3) (.seq (.slc (.var i0) .no (.yes (.cst (.int 63))))) (.cons (.asg (.name i4) (.bin .Add (.bin .Mult (.cst (.int 2)) (.blt .abs (.cons (.blt .int (.cons (.var i3) .nil)) .nil))) (.blt .int (.cons (.cmp .Lt (.var i3) (.cst (.int 0))) .nil)))) (.cons (.ite (.val (.cmp .GtE (.var i4) (.bin .Pow (.cst (.int 10)) (.cst (.int 18))))) (.cons (.exp (.mth .append (.var i1) (.cons (.var i4) .nil))) .nil) .nil) (.cons (.asg (.name i2) (.bin .Mod (.blt .int (.cons (.bin .Add (.bin .Add (.bin .Mult (.var i2) (.cst (.int a))) (.bin .Mod (.var i4) (.cst (.int 2147480009)))) (.cst (.int c))) .nil)) (.cst (.int 2147483647)))) .nil)))) (.cons (.ret (.lst (.cons (.var i1) (.cons (.var i2) (.cons (.dsp .nil) .nil))))) .nil))))
def drawB (a c d : Int) : ISs := (.cons (.whl (.and (.val (.cmp .Gt (.blt .len (.cons (.idx (.var i0) (.cst (.int 0))) .nil)) (.cst (.int 0)))) (.val (.cmp .Eq (.idx (.idx (.var i0) (.cst (.int 0))) (.cst (.int 0))) (.cst (.int 0))))) (.cons (.exp (.mth .popAt (.idx (.var i0) (.cst (.int 0))) (.cons (.cst (.int 0)) .nil))) .nil)) (.cons (.ite (.val (.cmp .Gt (.blt .len (.cons (.idx (.var i0) (.cst (.int 0))) .nil)) (.cst (.int 0)))) (.cons (.asg (.name i2) (.bin .Mod (.blt .int (.cons (.idx (.idx (.var i0) (.cst (.int 0))) (.cst (.int 0))) .nil)) (.var i1))) (.cons (.asgS (.idx (.var i0) (.cst (.int 0))) (.cst (.int 0)) (.bin .FloorDiv (.idx (.idx (.var i0) (.cst (.int 0))) (.cst (.int 0))) (.var i1))) (.cons (.ret (.var i2)) .nil))) .nil) (.cons (.asgS (.var i0) (.cst (.int 1)) (.bin .Mod (.blt .int (.cons (.bin .Add (.bin .Mult (.idx (.var i0) (.cst (.int 1))) (.cst (.int a))) (.cst (.int c))) .nil)) (.cst (.int 2147483647)))) (.cons (.ret (.bin .Mod (.blt .int (.cons (.bin .FloorDiv (.idx (.var i0) (.cst (.int 1))) (.cst (.int d))) .nil)) (.var i1))) .nil))))
def pickB (fd : Nat) : ISs := (.cons (.ite (.val (.cmp .NotIn (.var i1) (.idx (.var i0) (.cst (.int 2))))) (.cons (.asgS (.idx (.var i0) (.cst (.int 2))) (.var i1) (.tup (.cons (.call fd (.cons (.var i0) (.cons (.cst (.int 7)) .nil))) (.cons (.call fd (.cons (.var i0) (.cons (.cst (.int 9973)) .nil))) .nil)))) .nil) .nil) (.cons (.asg (.tup [(.name i3), (.name i4)]) (.idx (.idx (.var i0) (.cst (.int 2))) (.var i1))) (.cons (.ite (.val (.cmp .Lt (.var i3) (.cst (.int 2)))) (.cons (.ret (.bin .Mult (.var i3) (.bin .Sub (.var i2) (.cst (.int 1))))) .nil) .nil) (.cons (.ret (.ite (.val (.cmp .Eq (.var i3) (.cst (.int 2)))) (.bin .Mod (.blt .int (.cons (.var i4) .nil)) (.var i2)) (.call fd (.cons (.var i0) (.cons (.var i2) .nil))))) .nil))))
def orderB (fd : Nat) : ISs := (.cons (.asg (.name i2) (.blt .listRange (.cons (.var i1) .nil))) (.cons (.asg (.name i3) (.lst .nil)) (.cons (.for (.name i4) (.rng1 (.var i1)) (.cons (.exp (.mth .append (.var i3) (.cons (.mth .popAt (.var i2) (.cons (.call fd (.cons (.var i0) (.cons (.blt .len (.cons (.var i2) .nil)) .nil))) .nil)) .nil))) .nil)) (.cons (.ret (.var i3)) .nil))))
def wordsB (fd fo : Nat) : ISs := (.cons (.asg (.name i2) (.cst (.str ("abcdefghijklmnopqrstuvwxyz0123456789" : PySem.Str)))) (.cons (.asg (.name i3) (.lst .nil)) (.cons (.for (.name i4) (.seq (.slc (.call fo (.cons (.var i0) (.cons (.cst (.int 26)) .nil))) .no (.yes (.var i1)))) (.cons (.asg (.name i5) (.idx (.tup (.cons (.cst (.int 0)) (.cons (.cst (.int 1)) (.cons (.cst (.int 7)) (.cons (.call fd (.cons (.var i0) (.cons (.cst (.int 8)) .nil))) .nil))))) (.call fd (.cons (.var i0) (.cons (.cst (.int 4)) .nil))))) (.cons (.exp (.mth .append (.var i3) (.cons (.bin .Add (.idx (.var i2) (.var i4)) (.mth .join (.cst (.str ("" : PySem.Str))) (.cons (.lc (.idx (.var i2) (.call fd (.cons (.var i0) (.cons (.cst (.int 36)) .nil)))) (.name i6) (.rng1 (.var i5)) .yes [i6]) .nil))) .nil))) .nil))) (.cons (.ret (.var i3)) .nil))))
def bookB (fw fp : Nat) : ISs := (.cons (.asg (.name i5) (.lst .nil)) (.cons (.for (.name i6) (.rng1 (.var i2)) (.cons (.asg (.name i7) (.call fw (.cons (.var i0) (.cons (.call fp (.cons (.var i0) (.cons (.cst (.str ("moves" : PySem.Str))) (.cons (.bin .Add (.var i3) (.cst (.int 1))) .nil)))) .nil)))) (.cons (.asg (.name i8) (.lst .nil)) (.cons (.for (.name i9) (.seq (.var i7)) (.cons (.asg (.name i10) (.blt .tuple (.cons (.lc (.bin .Sub (.call fp (.cons (.var i0) (.cons (.cst (.str ("pour" : PySem.Str))) (.cons (.bin .Add (.bin .Mult (.cst (.int 2)) (.var i4)) (.cst (.int 1))) .nil)))) (.var i4)) (.name i11) (.rng1 (.var i1)) .yes [i11]) .nil))) (.cons (.exp (.mth .append (.var i8) (.cons (.tup (.cons (.var i9) (.cons (.var i10) (.cons (.call fp (.cons (.var i0) (.cons (.cst (.str ("goal" : PySem.Str))) (.cons (.var i2) .nil)))) .nil)))) .nil))) .nil))) (.cons (.exp (.mth .append (.var i5) (.cons (.tup (.cons (.idx (.tup (.cons (.cst (.str ("outside" : PySem.Str))) (.cons (.cst (.str ("house" : PySem.Str))) .nil))) (.call fp (.cons (.var i0) (.cons (.cst (.str ("owner" : PySem.Str))) (.cons (.cst (.int 2)) .nil))))) (.cons (.blt .tuple (.cons (.var i8) .nil)) .nil))) .nil))) .nil))))) (.cons (.ret (.tup (.cons (.var i1) (.cons (.blt .tuple (.cons (.var i5) .nil)) .nil)))) .nil)))
def sameB : ISs := (.cons (.asg (.name i2) (.lst (.cons (.tup (.cons (.var i0) (.cons (.var i1) .nil))) .nil))) (.cons (.whl (.val (.cmp .Gt (.blt .len (.cons (.var i2) .nil)) (.cst (.int 0)))) (.cons (.asg (.tup [(.name i3), (.name i4)]) (.mth .pop (.var i2) .nil)) (.cons (.ite (.val (.isi (.var i4) .tupleList)) (.cons (.ite (.or (.val (.cmp .NotEq (.isi (.var i3) .tuple) (.isi (.var i4) .tuple))) (.val (.cmp .NotEq (.isi (.var i3) .list) (.isi (.var i4) .list)))) (.cons (.ret (.cst (.bl false))) .nil) .nil) (.cons (.ite (.val (.cmp .NotEq (.blt .len (.cons (.var i3) .nil)) (.blt .len (.cons (.var i4) .nil)))) (.cons (.ret (.cst (.bl false))) .nil) .nil) (.cons (.asg (.name i2) (.bin .Add (.var i2) (.lc (.tup (.cons (.idx (.var i3) (.var i5)) (.cons (.idx (.var i4) (.var i5)) .nil))) (.name i5) (.rng1 (.blt .len (.cons (.var i4) .nil))) .yes [i5]))) .nil))) (.cons (.ite (.val (.cmp .Is (.var i4) (.cst .non))) (.cons (.ite (.val (.cmp .IsNot (.var i3) (.cst .non))) (.cons (.ret (.cst (.bl false))) .nil) .nil) .nil) (.cons (.ite (.val (.isi (.var i4) .bool)) (.cons (.ite (.or (.not (.val (.isi (.var i3) .bool))) (.val (.cmp .NotEq (.var i3) (.var i4)))) (.cons (.ret (.cst (.bl false))) .nil) .nil) .nil) (.cons (.ite (.val (.isi (.var i4) .int)) (.cons (.ite (.or (.not (.val (.isi (.var i3) .int))) (.or (.val (.isi (.var i3) .bool)) (.val (.cmp .NotEq (.var i3) (.var i4))))) (.cons (.ret (.cst (.bl false))) .nil) .nil) .nil) (.cons (.ite (.or (.not (.val (.isi (.var i3) .str))) (.val (.cmp .NotEq (.var i3) (.var i4)))) (.cons (.ret (.cst (.bl false))) .nil) .nil) .nil)) .nil)) .nil)) .nil)) .nil))) (.cons (.ret (.cst (.bl true))) .nil)))
def keyNames : List Key := [.inr "moves", .inr "pour", .inr "goal", .inr "owner", .inr "far", .inr "gain", .inr "height", .inr "level", .inr "new", .inr "number", .inr "one", .inr "other", .inr "plan", .inr "ring", .inr "sign", .inr "size", .inr "weight", .inr "words"]
/-- the bag: its great cells, its mixed number, its habits -/
structure BagV (great : List Int) (mixed : Int) (kvs : List (Key × D)) : Prop where
  gpos : ∀ x ∈ great, 0 ≤ x
  glen : great.length ≤ 63
  mpos : 0 ≤ mixed
  mlt : mixed < 2147483648
  val : ∀ e ∈ kvs, ∃ h v : Int, e.2 = .tup [.int h, .int v] ∧ 0 ≤ h ∧ h < 7 ∧ 0 ≤ v ∧ v < 9973
  nd : (kvs.map (·.1)).Nodup
  sub : ∀ e ∈ kvs, e.1 ∈ keyNames
structure BgAt (S : Sto) (great : List Int) (mixed : Int) (kvs : List (Key × D)) : Prop where
  v : BagV great mixed kvs
  s1 : S[1]? = some (.lst (great.map D.int))
  s3 : S[3]? = some (.dct kvs)
  s4 : S[4]? = some (.lst [.ptr 1, .int mixed, .ptr 3])
section
variable {S : Sto} {g g' : List Int} {m m' : Int} {kvs kvs' : List (Key × D)} {k : Nat} {o : O} {T : Sto}
theorem BgAt.set1 (h : BgAt S g m kvs) (v : BagV g' m kvs) : BgAt (S.set 1 (.lst (g'.map D.int))) g' m kvs := ⟨v, get_set (get_lt h.s1), get_set_ne h.s3 (by decide), get_set_ne h.s4 (by decide)⟩
theorem BgAt.set3 (h : BgAt S g m kvs) (v : BagV g m kvs') : BgAt (S.set 3 (.dct kvs')) g m kvs' := ⟨v, get_set_ne h.s1 (by decide), get_set (get_lt h.s3), get_set_ne h.s4 (by decide)⟩
theorem BgAt.set4 (h : BgAt S g m kvs) (v : BagV g m' kvs) : BgAt (S.set 4 (.lst [.ptr 1, .int m', .ptr 3])) g m' kvs := ⟨v, get_set_ne h.s1 (by decide), get_set_ne h.s3 (by decide), get_set (get_lt h.s4)⟩
theorem BgAt.set (h : BgAt S g m kvs) (hk : 5 ≤ k) : BgAt (S.set k o) g m kvs := ⟨h.v, get_set_ne h.s1 (by omega), get_set_ne h.s3 (by omega), get_set_ne h.s4 (by omega)⟩
theorem BgAt.app (h : BgAt S g m kvs) : BgAt (S ++ T) g m kvs := ⟨h.v, get_app h.s1, get_app h.s3, get_app h.s4⟩
end
def Bg (S : Sto) : Prop := ∃ great mixed kvs, BgAt S great mixed kvs
variable {C : CallT} {W : Nat}
theorem draw_ok {a c d many : Int} {S : Sto} {great : List Int} {mixed : Int} {kvs : List (Key × D)} (ha : 0 < a ∧ a < 2 ^ 31) (hc : 0 ≤ c ∧ c < 2 ^ 31) (hd : 0 < d ∧ d < 2 ^ 30) (hW : 63 < W) (hb : BgAt S great mixed kvs) (hm : 0 < many ∧ many < 2 ^ 30) :
    RP (exs C W (drawB a c d) (bgn 3 [.ptr 4, .int many]) S) fun f _ S' => ∃ r, f = .ret (.int r) ∧ 0 ≤ r ∧ r < many ∧ (∃ g m, BgAt S' g m kvs) ∧ Kp 5 S S' ∧ S'.length = S.length := by
  obtain ⟨hv, h1, h3, h4⟩ := hb
  unfold drawB
  rw [rp_cons]
  simp only [ex, bgn, List.map, List.length, Nat.reduceSub, Nat.reduceAdd, List.replicate, List.append, List.cons_append, List.nil_append]
  refine rp_while (fun n ρ S1 => ∃ g, n = g.length ∧ ρ = [some (.ptr 4), some (.int many), none] ∧ BgAt S1 g mixed kvs ∧ Kp 5 S S1 ∧ S1.length = S.length) ?_ W great.length _ _ ⟨great, rfl, rfl, ⟨hv, h1, h3, h4⟩, Kp.refl, rfl⟩ (by have := hv.glen; omega)
  rintro n ρ S1 ⟨g, rfl, rfl, ⟨gv, g1, g3, g4⟩, kp, hl⟩
  have m1 : mutOf S1 1 = some (g.map D.int) := mut_get g1
  have hb : BgAt S1 g mixed kvs := ⟨gv, g1, g3, g4⟩
  have draw2 : mulOk mixed a = true ∧ divOk d = true ∧ ∀ m', m' = (mixed * a + c) % 2147483647 → BagV g m' kvs := by
    have e1 := Int.emod_nonneg (mixed * a + c) (show (2147483647 : Int) ≠ 0 by decide)
    have e2 := Int.emod_lt_of_pos (mixed * a + c) (show (0 : Int) < 2147483647 by decide)
    refine ⟨?_, ?_, fun m' e => ⟨gv.gpos, gv.glen, by omega, by omega, gv.val, gv.nd, gv.sub⟩⟩
    · simp only [mulOk, Bool.or_eq_true, Bool.and_eq_true, decide_eq_true_eq]
      exact .inl (.inr ⟨by omega, by omega⟩)
    · simp only [divOk, Bool.or_eq_true, Bool.and_eq_true, decide_eq_true_eq]
      exact ⟨by omega, .inl (by omega)⟩
  cases g with
  | nil =>
    simp only [wv_var, wv_cst, wv_bin, wv_neg, wv_cmp, wv_chn, wv_not, wv_and, wv_or, wv_ite, wv_idx, wv_slc, wv_tup, wv_lst, wv_dsp0, wv_dsp, wd_nil, wd_cons, wv_call, wv_callK, wv_blt, wv_mth, wv_isi, wv_lc, vp_turn, vp_turn2, ws_nil, ws_cons, wp_no, wp_yes, wt_val, wt_not, wt_and, wt_or, wo_yes, wo_one, wi_seq, wi_rng1, wi_rng2, wi_enm, rs_asg, rs_asgS, rs_aug, rs_augS, rs_exp, rs_ret, rs_retN, rs_ite, rs_for, rs_body, rs_whl, rs_brk, rs_cnt, rs_pas, rp_cons, rp_nil, seq_nx, seq_ret, seq_brk, seq_cnt, loop_nx, loop_ret, loop_brk, loop_cnt, wp_some, vp_some, vp_map, vp_gte, vp_gteP, gteP, o_ixT, o_ixP, o_ixK, i_lst, i_frz, i_dct, i_dctK, at0, at1, at2, at3, ix0, ix1, ix2, cast_pos, cast_ne, zero_cast, if_false, if_true, ite_false, ite_true, b_lenT, b_lenP, l_lst, l_frz, l_dct, b_abs, b_int, b_intB, b_tupT, b_tupP, b_lstT, b_lstP, b_srt, b_sum, b_any, b_all, b_max2, b_min2, b_lrg, o_add, o_sub, o_mul, o_fdv, o_mod, o_pow, o_cat, o_catS, o_catP, o_rep, n_int, bo_bl, in_int, c_lt, c_le, c_gt, c_ge, c_eq, c_ne, c_in, c_nin, e_ii, e_ss, e_bb, t_bl, t_int, t_tup, t_ptr, s_tup, s_ptr, m_app, m_pop, m_popAt, m_joinP, r_app, r_pop, r_popAt, r_join, a_add, a_sub, d_set, d_lst, d_dct, k_int, k_str, q_name, q_tup, q_nil, q_cons, p_z, p_s, g_z, g_s, f_nil, f_cons, z_n, z_b, z_i, z_s, z_t, cs_n, cs_b, cs_i, cs_s, cs_t, cn_n, cn_b, cn_i, cn_s, cn_t, isT, reduceCtorEq, decide_true, decide_false, Bool.or_true, Bool.or_false, Bool.true_or, Bool.false_or, Bool.not_true, Bool.not_false, true_implies, Bool.true_eq_false, Bool.false_eq_true, not_true_eq_false, not_false_eq_true, false_implies, and_true, true_and, decide_eq_true_eq, forall_const, Option.map_some, Option.bind_some, List.length_cons, List.length_nil, g4, g1, g3, List.length_map, List.map_nil, Int.lt_irrefl, Int.natCast_zero, List.set, List.getElem?_set_self (get_lt g4)]
    refine ⟨draw2.1, by decide, draw2.2.1, by omega, _, rfl, Int.emod_nonneg _ (by omega), Int.emod_lt_of_pos _ (by omega), ⟨_, _, hb.set4 (draw2.2.2 _ rfl)⟩, kp.set (.inr (by decide)), by rw [List.length_set, hl]⟩
  | cons x g =>
    have hx : 0 ≤ x := gv.gpos x List.mem_cons_self
    simp only [wv_var, wv_cst, wv_bin, wv_neg, wv_cmp, wv_chn, wv_not, wv_and, wv_or, wv_ite, wv_idx, wv_slc, wv_tup, wv_lst, wv_dsp0, wv_dsp, wd_nil, wd_cons, wv_call, wv_callK, wv_blt, wv_mth, wv_isi, wv_lc, vp_turn, vp_turn2, ws_nil, ws_cons, wp_no, wp_yes, wt_val, wt_not, wt_and, wt_or, wo_yes, wo_one, wi_seq, wi_rng1, wi_rng2, wi_enm, rs_asg, rs_asgS, rs_aug, rs_augS, rs_exp, rs_ret, rs_retN, rs_ite, rs_for, rs_body, rs_whl, rs_brk, rs_cnt, rs_pas, rp_cons, rp_nil, seq_nx, seq_ret, seq_brk, seq_cnt, loop_nx, loop_ret, loop_brk, loop_cnt, wp_some, vp_some, vp_map, vp_gte, vp_gteP, gteP, o_ixT, o_ixP, o_ixK, i_lst, i_frz, i_dct, i_dctK, at0, at1, at2, at3, ix0, ix1, ix2, cast_pos, cast_ne, zero_cast, if_false, if_true, ite_false, ite_true, b_lenT, b_lenP, l_lst, l_frz, l_dct, b_abs, b_int, b_intB, b_tupT, b_tupP, b_lstT, b_lstP, b_srt, b_sum, b_any, b_all, b_max2, b_min2, b_lrg, o_add, o_sub, o_mul, o_fdv, o_mod, o_pow, o_cat, o_catS, o_catP, o_rep, n_int, bo_bl, in_int, c_lt, c_le, c_gt, c_ge, c_eq, c_ne, c_in, c_nin, e_ii, e_ss, e_bb, t_bl, t_int, t_tup, t_ptr, s_tup, s_ptr, m_app, m_pop, m_popAt, m_joinP, r_app, r_pop, r_popAt, r_join, a_add, a_sub, d_set, d_lst, d_dct, k_int, k_str, q_name, q_tup, q_nil, q_cons, p_z, p_s, g_z, g_s, f_nil, f_cons, z_n, z_b, z_i, z_s, z_t, cs_n, cs_b, cs_i, cs_s, cs_t, cn_n, cn_b, cn_i, cn_s, cn_t, isT, reduceCtorEq, decide_true, decide_false, Bool.or_true, Bool.or_false, Bool.true_or, Bool.false_or, Bool.not_true, Bool.not_false, true_implies, Bool.true_eq_false, Bool.false_eq_true, not_true_eq_false, not_false_eq_true, false_implies, and_true, true_and, decide_eq_true_eq, forall_const, Option.map_some, Option.bind_some, List.length_cons, List.length_nil, g4, g1, g3, m1, List.length_map, List.map_cons, List.set, List.getElem?_set_self (get_lt g4), Option.isSome, List.getElem?_cons_zero, List.eraseIdx]
    refine ite2 (fun e => ⟨?_, g.length, by omega, g, rfl, hb.set1 ?_, kp.set (.inr (by decide)), by rw [List.length_set, hl]⟩) fun e => ⟨by omega, ?_, _, rfl, Int.emod_nonneg _ (by omega), Int.emod_lt_of_pos _ (by omega), ⟨x / many :: g, mixed, hb.set1 (g' := x / many :: g) ?_⟩, kp.set (.inr (by decide)), by rw [List.length_set, hl]⟩
    · have h63 : g.length + 1 ≤ 63 := gv.glen
      rw [sizeLine_eq]
      omega
    · exact ⟨fun y hy => gv.gpos y (List.mem_cons_of_mem _ hy), Nat.le_of_succ_le gv.glen, gv.mpos, gv.mlt, gv.val, gv.nd, gv.sub⟩
    · simp only [divOk, Bool.or_eq_true, Bool.and_eq_true, decide_eq_true_eq]
      exact ⟨by omega, .inl (by omega)⟩
    · refine ⟨fun y hy => ?_, gv.glen, gv.mpos, gv.mlt, gv.val, gv.nd, gv.sub⟩
      rcases List.mem_cons.mp hy with rfl | hy
      · exact Int.ediv_nonneg hx (by omega)
      · exact gv.gpos y (List.mem_cons_of_mem _ hy)
theorem nodup_len {α : Type} [DecidableEq α] : ∀ (l m : List α), l.Nodup → (∀ x ∈ l, x ∈ m) → l.length ≤ m.length
  | [], m, _, _ => Nat.zero_le _
  | a :: l, m, hn, hs => by
    have ha := hs a List.mem_cons_self
    obtain ⟨h1, h2⟩ := List.nodup_cons.mp hn
    have := nodup_len l (m.erase a) h2 fun x hx => (List.mem_erase_of_ne (fun e => h1 (by rw [← e]; exact hx))).mpr (hs x (List.mem_cons_of_mem _ hx))
    rw [List.length_erase_of_mem ha] at this
    have hm := List.length_pos_of_mem ha
    rw [List.length_cons]
    omega
theorem BagV.len {g : List Int} {m : Int} {kvs : List (Key × D)} (h : BagV g m kvs) : kvs.length ≤ 18 := by
  have := nodup_len (kvs.map (·.1)) keyNames h.nd fun x hx => by
    obtain ⟨e, he, rfl⟩ := List.mem_map.mp hx
    exact h.sub e he
  rw [List.length_map] at this
  exact this
theorem cutD_map (ns : List Int) (lo hi : Option Int) : ∃ ms : List Int, cutD (ns.map D.int) lo hi = ms.map D.int ∧ ms.length ≤ ns.length := by
  refine ⟨(ns.drop (HT.sIx ns.length 0 lo)).take (HT.sIx ns.length ns.length hi - HT.sIx ns.length 0 lo), ?_, ?_⟩
  · simp only [cutD, List.length_map, List.map_take, List.map_drop]
  · rw [List.length_take, List.length_drop]
    omega
theorem bag_ok {s0 a c : Int} {ns : List Int} (hs : 0 ≤ s0 ∧ s0 < 2147483648) (ha : 0 < a ∧ a < 2 ^ 31) (hc : 0 ≤ c) (hl : ns.length ≤ 63) :
    RP (exs C W (bagB s0 a c) (bgn 5 [.ptr 0]) [.frz (ns.map D.int)]) fun f _ S' => f = .ret (.ptr 4) ∧ S'.length = 5 ∧ ∃ g m, BgAt S' g m [] := by
  unfold bagB
  simp only [wv_var, wv_cst, wv_bin, wv_neg, wv_cmp, wv_chn, wv_not, wv_and, wv_or, wv_ite, wv_idx, wv_slc, wv_tup, wv_lst, wv_dsp0, wv_dsp, wd_nil, wd_cons, wv_call, wv_callK, wv_blt, wv_mth, wv_isi, wv_lc, vp_turn, vp_turn2, ws_nil, ws_cons, wp_no, wp_yes, wt_val, wt_not, wt_and, wt_or, wo_yes, wo_one, wi_seq, wi_rng1, wi_rng2, wi_enm, rs_asg, rs_asgS, rs_aug, rs_augS, rs_exp, rs_ret, rs_retN, rs_ite, rs_for, rs_body, rs_whl, rs_brk, rs_cnt, rs_pas, rp_cons, rp_nil, seq_nx, seq_ret, seq_brk, seq_cnt, loop_nx, loop_ret, loop_brk, loop_cnt, wp_some, vp_some, vp_map, vp_gte, vp_gteP, gteP, o_ixT, o_ixP, o_ixK, i_lst, i_frz, i_dct, i_dctK, at0, at1, at2, at3, ix0, ix1, ix2, cast_pos, cast_ne, zero_cast, if_false, if_true, ite_false, ite_true, b_lenT, b_lenP, l_lst, l_frz, l_dct, b_abs, b_int, b_intB, b_tupT, b_tupP, b_lstT, b_lstP, b_srt, b_sum, b_any, b_all, b_max2, b_min2, b_lrg, o_add, o_sub, o_mul, o_fdv, o_mod, o_pow, o_cat, o_catS, o_catP, o_rep, n_int, bo_bl, in_int, c_lt, c_le, c_gt, c_ge, c_eq, c_ne, c_in, c_nin, e_ii, e_ss, e_bb, t_bl, t_int, t_tup, t_ptr, s_tup, s_ptr, m_app, m_pop, m_popAt, m_joinP, r_app, r_pop, r_popAt, r_join, a_add, a_sub, d_set, d_lst, d_dct, k_int, k_str, q_name, q_tup, q_nil, q_cons, p_z, p_s, g_z, g_s, f_nil, f_cons, z_n, z_b, z_i, z_s, z_t, cs_n, cs_b, cs_i, cs_s, cs_t, cn_n, cn_b, cn_i, cn_s, cn_t, isT, reduceCtorEq, decide_true, decide_false, Bool.or_true, Bool.or_false, Bool.true_or, Bool.false_or, Bool.not_true, Bool.not_false, true_implies, Bool.true_eq_false, Bool.false_eq_true, not_true_eq_false, not_false_eq_true, false_implies, and_true, true_and, decide_eq_true_eq, forall_const, Option.map_some, Option.bind_some, List.length_cons, List.length_nil, bgn, List.map, List.replicate, List.append, Nat.reduceSub, Nat.reduceAdd, List.cons_append, List.nil_append, List.length_append, seqI, lstOf, List.getElem?_cons_zero, List.getElem?_cons_succ, cntI, Option.getD_some, Nat.zero_le]
  obtain ⟨ms, hms, hml⟩ := cutD_map ns none (some 63)
  rw [hms]
  have e19 : (10 : Int) ^ (18 : Int).toNat = 1000000000000000000 := rfl
  refine rp_for (ms.map D.int) (fun i ρ S => ∃ (great : List Int) (mixed : Int) (x3 x4 : Option D), ρ = [some (.ptr 0), some (.ptr 1), some (.int mixed), x3, x4] ∧ S = [.frz (ns.map D.int), .lst (great.map D.int), .lst (ms.map D.int)] ∧ (∀ x ∈ great, 0 ≤ x) ∧ great.length ≤ i ∧ 0 ≤ mixed ∧ mixed < 2147483648) ?_ ?_ ?_ _ 0 _ _ ⟨[], s0, none, none, rfl, rfl, by simp, Nat.le_refl _, hs.1, hs.2⟩ (Nat.zero_le _) (by simp)
  · rintro i ρ S _ ⟨great, mixed, x3, x4, rfl, rfl, _⟩
    rfl
  · rintro i d ρ S hi ⟨great, mixed, x3, x4, rfl, rfl, h1, h2, h3, h4⟩
    rw [List.getElem?_map] at hi
    obtain ⟨cell, hcell, rfl⟩ := map_some hi
    have m1 : ∀ z, mulOk 2 z = true := fun z => by simp [mulOk]
    have m2 : mulOk mixed a = true := by
      simp only [mulOk, Bool.or_eq_true, Bool.and_eq_true, decide_eq_true_eq]
      exact .inl (.inr ⟨by omega, by omega⟩)
    have m3 : powOk 10 18 = true := by decide
    simp only [wv_var, wv_cst, wv_bin, wv_neg, wv_cmp, wv_chn, wv_not, wv_and, wv_or, wv_ite, wv_idx, wv_slc, wv_tup, wv_lst, wv_dsp0, wv_dsp, wd_nil, wd_cons, wv_call, wv_callK, wv_blt, wv_mth, wv_isi, wv_lc, vp_turn, vp_turn2, ws_nil, ws_cons, wp_no, wp_yes, wt_val, wt_not, wt_and, wt_or, wo_yes, wo_one, wi_seq, wi_rng1, wi_rng2, wi_enm, rs_asg, rs_asgS, rs_aug, rs_augS, rs_exp, rs_ret, rs_retN, rs_ite, rs_for, rs_body, rs_whl, rs_brk, rs_cnt, rs_pas, rp_cons, rp_nil, seq_nx, seq_ret, seq_brk, seq_cnt, loop_nx, loop_ret, loop_brk, loop_cnt, wp_some, vp_some, vp_map, vp_gte, vp_gteP, gteP, o_ixT, o_ixP, o_ixK, i_lst, i_frz, i_dct, i_dctK, at0, at1, at2, at3, ix0, ix1, ix2, cast_pos, cast_ne, zero_cast, if_false, if_true, ite_false, ite_true, b_lenT, b_lenP, l_lst, l_frz, l_dct, b_abs, b_int, b_intB, b_tupT, b_tupP, b_lstT, b_lstP, b_srt, b_sum, b_any, b_all, b_max2, b_min2, b_lrg, o_add, o_sub, o_mul, o_fdv, o_mod, o_pow, o_cat, o_catS, o_catP, o_rep, n_int, bo_bl, in_int, c_lt, c_le, c_gt, c_ge, c_eq, c_ne, c_in, c_nin, e_ii, e_ss, e_bb, t_bl, t_int, t_tup, t_ptr, s_tup, s_ptr, m_app, m_pop, m_popAt, m_joinP, r_app, r_pop, r_popAt, r_join, a_add, a_sub, d_set, d_lst, d_dct, k_int, k_str, q_name, q_tup, q_nil, q_cons, p_z, p_s, g_z, g_s, f_nil, f_cons, z_n, z_b, z_i, z_s, z_t, cs_n, cs_b, cs_i, cs_s, cs_t, cn_n, cn_b, cn_i, cn_s, cn_t, isT, reduceCtorEq, decide_true, decide_false, Bool.or_true, Bool.or_false, Bool.true_or, Bool.false_or, Bool.not_true, Bool.not_false, true_implies, Bool.true_eq_false, Bool.false_eq_true, not_true_eq_false, not_false_eq_true, false_implies, and_true, true_and, decide_eq_true_eq, forall_const, Option.map_some, Option.bind_some, List.length_cons, List.length_nil, m1, m2, m3, e19, mutOf, List.getElem?_cons_zero, List.getElem?_cons_succ, Option.isSome, List.length_map, List.set]
    generalize hz : (2 * (if cell < 0 then -cell else cell) + (if cell < 0 then 1 else 0) : Int) = size
    have hz0 : 0 ≤ size := by
      rw [← hz]
      split <;> omega
    have e1 := Int.emod_nonneg (mixed * a + size % 2147480009 + c) (show (2147483647 : Int) ≠ 0 by decide)
    have e2 := Int.emod_lt_of_pos (mixed * a + size % 2147480009 + c) (show (0 : Int) < 2147483647 by decide)
    have hi' := (List.getElem?_eq_some_iff.mp hcell).1
    refine ⟨fun _ => ⟨by rw [sizeLine_eq]; omega, by decide, by decide, great ++ [size], _, _, _, rfl, by rw [List.map_append]; rfl, fun x hx => ?_, by rw [List.length_append, List.length_singleton]; omega, e1, by omega⟩, fun _ => ⟨by decide, by decide, great, _, _, _, rfl, rfl, h1, by omega, e1, by omega⟩⟩
    rcases List.mem_append.mp hx with hx | hx
    · exact h1 x hx
    · rw [List.mem_singleton.mp hx]
      exact hz0
  · rintro ρ S ⟨great, mixed, x3, x4, rfl, rfl, h1, h2, h3, h4⟩
    simp only [wv_var, wv_cst, wv_bin, wv_neg, wv_cmp, wv_chn, wv_not, wv_and, wv_or, wv_ite, wv_idx, wv_slc, wv_tup, wv_lst, wv_dsp0, wv_dsp, wd_nil, wd_cons, wv_call, wv_callK, wv_blt, wv_mth, wv_isi, wv_lc, vp_turn, vp_turn2, ws_nil, ws_cons, wp_no, wp_yes, wt_val, wt_not, wt_and, wt_or, wo_yes, wo_one, wi_seq, wi_rng1, wi_rng2, wi_enm, rs_asg, rs_asgS, rs_aug, rs_augS, rs_exp, rs_ret, rs_retN, rs_ite, rs_for, rs_body, rs_whl, rs_brk, rs_cnt, rs_pas, rp_cons, rp_nil, seq_nx, seq_ret, seq_brk, seq_cnt, loop_nx, loop_ret, loop_brk, loop_cnt, wp_some, vp_some, vp_map, vp_gte, vp_gteP, gteP, o_ixT, o_ixP, o_ixK, i_lst, i_frz, i_dct, i_dctK, at0, at1, at2, at3, ix0, ix1, ix2, cast_pos, cast_ne, zero_cast, if_false, if_true, ite_false, ite_true, b_lenT, b_lenP, l_lst, l_frz, l_dct, b_abs, b_int, b_intB, b_tupT, b_tupP, b_lstT, b_lstP, b_srt, b_sum, b_any, b_all, b_max2, b_min2, b_lrg, o_add, o_sub, o_mul, o_fdv, o_mod, o_pow, o_cat, o_catS, o_catP, o_rep, n_int, bo_bl, in_int, c_lt, c_le, c_gt, c_ge, c_eq, c_ne, c_in, c_nin, e_ii, e_ss, e_bb, t_bl, t_int, t_tup, t_ptr, s_tup, s_ptr, m_app, m_pop, m_popAt, m_joinP, r_app, r_pop, r_popAt, r_join, a_add, a_sub, d_set, d_lst, d_dct, k_int, k_str, q_name, q_tup, q_nil, q_cons, p_z, p_s, g_z, g_s, f_nil, f_cons, z_n, z_b, z_i, z_s, z_t, cs_n, cs_b, cs_i, cs_s, cs_t, cn_n, cn_b, cn_i, cn_s, cn_t, isT, reduceCtorEq, decide_true, decide_false, Bool.or_true, Bool.or_false, Bool.true_or, Bool.false_or, Bool.not_true, Bool.not_false, true_implies, Bool.true_eq_false, Bool.false_eq_true, not_true_eq_false, not_false_eq_true, false_implies, and_true, true_and, decide_eq_true_eq, forall_const, Option.map_some, Option.bind_some, List.length_cons, List.length_nil, List.length_append, List.cons_append, List.nil_append, Nat.reduceAdd]
    refine ⟨by rw [sizeLine_eq]; decide, great, mixed, ⟨h1, by rw [List.length_map] at h2; omega, h3, h4, fun e he => absurd he List.not_mem_nil, List.nodup_nil, fun e he => absurd he List.not_mem_nil⟩, rfl, rfl, rfl⟩
/-! ### draw, as a call -/
def DrawC (C : CallT) (fd : Nat) : Prop := ∀ (many : Int) (S : Sto) (g : List Int) (m : Int) (kvs : List (Key × D)), BgAt S g m kvs → 0 < many ∧ many < 2 ^ 30 → Wp (C fd [.ptr 4, .int many] S) fun d S' => ∃ r, d = .int r ∧ 0 ≤ r ∧ r < many ∧ (∃ g m, BgAt S' g m kvs) ∧ Kp 5 S S' ∧ S'.length = S.length
theorem draw_call {Φ : List Fn} {n fd : Nat} {a c d : Int} (ha : 0 < a ∧ a < 2 ^ 31) (hc : 0 ≤ c ∧ c < 2 ^ 31) (hd : 0 < d ∧ d < 2 ^ 30) (hW : 63 < W) (hf : Φ[fd]? = some ⟨2, 3, drawB a c d⟩) : DrawC (run Φ W (n + 1)) fd := fun many S g m kvs hb hm =>
  wp_run hf rfl ((draw_ok ha hc hd hW hb hm).mono fun f ρ S' ⟨r, e, h⟩ => by subst e; exact ⟨r, rfl, h⟩)
theorem getK_mem {kvs : List (Key × D)} {k : Key} {d : D} (h : getK kvs k = some d) : ∃ e, e ∈ kvs ∧ e.1 = k ∧ e.2 = d := by
  unfold getK at h
  obtain ⟨e, h1, h2⟩ := map_some h
  exact ⟨e, List.mem_of_find?_eq_some h1, by simpa using List.find?_some h1, h2⟩
theorem getK_none {kvs : List (Key × D)} {k : Key} (h : getK kvs k = none) : ∀ e ∈ kvs, e.1 ≠ k := by
  unfold getK at h
  rw [Option.map_eq_none_iff, List.find?_eq_none] at h
  intro e he z
  exact h e he (by simpa using z)
theorem put_new {kvs : List (Key × D)} {k : Key} {d : D} (h : getK kvs k = none) : putKD kvs k d = kvs ++ [(k, d)] := by
  unfold putKD
  rw [if_neg]
  intro z
  obtain ⟨e, he, ee⟩ := List.any_eq_true.mp z
  exact getK_none h e he (by simpa using ee)
theorem put_mem {kvs : List (Key × D)} {k : Key} {d : D} {e : Key × D} (h : getK kvs k = none) (he : e ∈ putKD kvs k d) : e ∈ kvs ∨ e = (k, d) := by
  rw [put_new h] at he
  rcases List.mem_append.mp he with he | he
  · exact .inl he
  · exact .inr (List.mem_singleton.mp he)
theorem put_nodup {kvs : List (Key × D)} {k : Key} {d : D} (h : getK kvs k = none) (hn : (kvs.map (·.1)).Nodup) : ((putKD kvs k d).map (·.1)).Nodup := by
  rw [put_new h, List.map_append, List.nodup_append]
  refine ⟨hn, by simp, fun a ha b hb => ?_⟩
  obtain ⟨e, he, rfl⟩ := List.mem_map.mp ha
  simp only [List.map_cons, List.map_nil, List.mem_singleton] at hb
  rw [hb]
  exact getK_none h e he
theorem getK_put {kvs : List (Key × D)} {k : Key} {d : D} : getK (putKD kvs k d) k = some d := by
  unfold putKD
  split
  · rename_i h
    unfold getK
    induction kvs with
    | nil => simp at h
    | cons e r ih =>
      rw [List.map_cons, List.find?_cons]
      by_cases he : e.1 = k
      · simp [he]
      · rw [if_neg he]
        simp only [he, decide_false]
        simp only [List.any_cons, he, decide_false, Bool.false_or] at h
        exact ih h
  · rename_i h
    unfold getK
    rw [List.find?_append]
    have : kvs.find? (fun kv => decide (kv.1 = k)) = none := by
      rw [List.find?_eq_none]
      intro e he z
      exact h (List.any_eq_true.mpr ⟨e, he, z⟩)
    rw [this]
    simp
theorem pick_ok {fd : Nat} {many : Int} {S : Sto} {x : Str} {g : List Int} {m : Int} {kvs : List (Key × D)} (hD : DrawC C fd) (hb : BgAt S g m kvs) (hx : Sum.inr x ∈ keyNames) (hm : 0 < many ∧ many < 2 ^ 30) :
    RP (exs C W (pickB fd) (bgn 5 [.ptr 4, .str x, .int many]) S) fun f _ S' => ∃ r, f = .ret (.int r) ∧ 0 ≤ r ∧ r < many ∧ Bg S' ∧ Kp 5 S S' ∧ S'.length = S.length := by
  unfold pickB
  obtain ⟨hv, h1, h3, h4⟩ := hb
  rw [rp_cons]
  have b0 : bgn 5 [D.ptr 4, .str x, .int many] = [some (.ptr 4), some (.str x), some (.int many), none, none] := rfl
  rw [b0]
  refine RP.mono (Q := fun f ρ S1 => f = .nx ∧ ρ = [some (.ptr 4), some (.str x), some (.int many), none, none] ∧ ∃ g m kvs h v, BgAt S1 g m kvs ∧ getK kvs (.inr x) = some (.tup [.int h, .int v]) ∧ (0 ≤ h ∧ h < 7 ∧ 0 ≤ v ∧ v < 9973) ∧ Kp 5 S S1 ∧ S1.length = S.length) ?_ ?_
  · simp only [wv_var, wv_cst, wv_bin, wv_neg, wv_cmp, wv_chn, wv_not, wv_and, wv_or, wv_ite, wv_idx, wv_slc, wv_tup, wv_lst, wv_dsp0, wv_dsp, wd_nil, wd_cons, wv_call, wv_callK, wv_blt, wv_mth, wv_isi, wv_lc, vp_turn, vp_turn2, ws_nil, ws_cons, wp_no, wp_yes, wt_val, wt_not, wt_and, wt_or, wo_yes, wo_one, wi_seq, wi_rng1, wi_rng2, wi_enm, rs_asg, rs_asgS, rs_aug, rs_augS, rs_exp, rs_ret, rs_retN, rs_ite, rs_for, rs_body, rs_whl, rs_brk, rs_cnt, rs_pas, rp_cons, rp_nil, seq_nx, seq_ret, seq_brk, seq_cnt, loop_nx, loop_ret, loop_brk, loop_cnt, wp_some, vp_some, vp_map, vp_gte, vp_gteP, gteP, o_ixT, o_ixP, o_ixK, i_lst, i_frz, i_dct, i_dctK, at0, at1, at2, at3, ix0, ix1, ix2, cast_pos, cast_ne, zero_cast, if_false, if_true, ite_false, ite_true, b_lenT, b_lenP, l_lst, l_frz, l_dct, b_abs, b_int, b_intB, b_tupT, b_tupP, b_lstT, b_lstP, b_srt, b_sum, b_any, b_all, b_max2, b_min2, b_lrg, o_add, o_sub, o_mul, o_fdv, o_mod, o_pow, o_cat, o_catS, o_catP, o_rep, n_int, bo_bl, in_int, c_lt, c_le, c_gt, c_ge, c_eq, c_ne, c_in, c_nin, e_ii, e_ss, e_bb, t_bl, t_int, t_tup, t_ptr, s_tup, s_ptr, m_app, m_pop, m_popAt, m_joinP, r_app, r_pop, r_popAt, r_join, a_add, a_sub, d_set, d_lst, d_dct, k_int, k_str, q_name, q_tup, q_nil, q_cons, p_z, p_s, g_z, g_s, f_nil, f_cons, z_n, z_b, z_i, z_s, z_t, cs_n, cs_b, cs_i, cs_s, cs_t, cn_n, cn_b, cn_i, cn_s, cn_t, isT, reduceCtorEq, decide_true, decide_false, Bool.or_true, Bool.or_false, Bool.true_or, Bool.false_or, Bool.not_true, Bool.not_false, true_implies, Bool.true_eq_false, Bool.false_eq_true, not_true_eq_false, not_false_eq_true, false_implies, and_true, true_and, decide_eq_true_eq, forall_const, Option.map_some, Option.bind_some, List.length_cons, List.length_nil, h4, n_dct h3]
    cases hk : getK kvs (.inr x) with
    | some d =>
      refine ⟨fun z => absurd z (by simp), fun _ => ⟨g, m, kvs, ?_⟩⟩
      obtain ⟨e, he, hd, rfl⟩ := getK_mem hk
      obtain ⟨h, v, ev, hh⟩ := hv.val e he
      exact ⟨h, v, ⟨hv, h1, h3, h4⟩, by rw [hk, ev], hh, Kp.refl⟩
    | none =>
      refine ⟨fun _ => ?_, fun z => absurd rfl z⟩
      refine (hD 7 S g m kvs ⟨hv, h1, h3, h4⟩ (by decide)).mono fun d1 S1 ⟨r1, e1, p1, p2, ⟨g1, m1, hb1⟩, kp1, l1⟩ => ?_
      refine (hD 9973 S1 g1 m1 kvs hb1 (by decide)).mono fun d2 S2 ⟨r2, e2, p3, p4, ⟨g2, m2, hb2⟩, kp2, l2⟩ => ?_
      subst e1 e2
      simp only [wv_var, wv_cst, wv_bin, wv_neg, wv_cmp, wv_chn, wv_not, wv_and, wv_or, wv_ite, wv_idx, wv_slc, wv_tup, wv_lst, wv_dsp0, wv_dsp, wd_nil, wd_cons, wv_call, wv_callK, wv_blt, wv_mth, wv_isi, wv_lc, vp_turn, vp_turn2, ws_nil, ws_cons, wp_no, wp_yes, wt_val, wt_not, wt_and, wt_or, wo_yes, wo_one, wi_seq, wi_rng1, wi_rng2, wi_enm, rs_asg, rs_asgS, rs_aug, rs_augS, rs_exp, rs_ret, rs_retN, rs_ite, rs_for, rs_body, rs_whl, rs_brk, rs_cnt, rs_pas, rp_cons, rp_nil, seq_nx, seq_ret, seq_brk, seq_cnt, loop_nx, loop_ret, loop_brk, loop_cnt, wp_some, vp_some, vp_map, vp_gte, vp_gteP, gteP, o_ixT, o_ixP, o_ixK, i_lst, i_frz, i_dct, i_dctK, at0, at1, at2, at3, ix0, ix1, ix2, cast_pos, cast_ne, zero_cast, if_false, if_true, ite_false, ite_true, b_lenT, b_lenP, l_lst, l_frz, l_dct, b_abs, b_int, b_intB, b_tupT, b_tupP, b_lstT, b_lstP, b_srt, b_sum, b_any, b_all, b_max2, b_min2, b_lrg, o_add, o_sub, o_mul, o_fdv, o_mod, o_pow, o_cat, o_catS, o_catP, o_rep, n_int, bo_bl, in_int, c_lt, c_le, c_gt, c_ge, c_eq, c_ne, c_in, c_nin, e_ii, e_ss, e_bb, t_bl, t_int, t_tup, t_ptr, s_tup, s_ptr, m_app, m_pop, m_popAt, m_joinP, r_app, r_pop, r_popAt, r_join, a_add, a_sub, d_set, d_lst, d_dct, k_int, k_str, q_name, q_tup, q_nil, q_cons, p_z, p_s, g_z, g_s, f_nil, f_cons, z_n, z_b, z_i, z_s, z_t, cs_n, cs_b, cs_i, cs_s, cs_t, cn_n, cn_b, cn_i, cn_s, cn_t, isT, reduceCtorEq, decide_true, decide_false, Bool.or_true, Bool.or_false, Bool.true_or, Bool.false_or, Bool.not_true, Bool.not_false, true_implies, Bool.true_eq_false, Bool.false_eq_true, not_true_eq_false, not_false_eq_true, false_implies, and_true, true_and, decide_eq_true_eq, forall_const, Option.map_some, Option.bind_some, List.length_cons, List.length_nil, hb2.s4, hb2.s3]
      have hl := hv.len
      refine ⟨by rw [sizeLine_eq]; decide, by rw [sizeLine_eq]; omega, g2, m2, _, r1, r2, hb2.set3 ?_, getK_put, ⟨p1, p2, p3, p4⟩, (kp1.trans kp2).set (.inr (by decide)), by rw [List.length_set, l2, l1]⟩
      refine ⟨hb2.v.gpos, hb2.v.glen, hb2.v.mpos, hb2.v.mlt, fun e he => ?_, ?_, fun e he => ?_⟩
      · rcases put_mem hk he with he | rfl
        · exact hv.val e he
        · exact ⟨r1, r2, rfl, p1, p2, p3, p4⟩
      · exact put_nodup hk hv.nd
      · rcases put_mem hk he with he | rfl
        · exact hv.sub e he
        · exact hx
  · rintro f ρ S1 ⟨rfl, rfl, g1, m1, kvs1, h, v, hb, hk, ⟨p1, p2, p3, p4⟩, kp, hl⟩
    have mo : mulOk h (many - 1) = true := by
      simp only [mulOk, Bool.or_eq_true, Bool.and_eq_true, decide_eq_true_eq]
      exact .inl (.inl ⟨by omega, by omega⟩)
    simp only [wv_var, wv_cst, wv_bin, wv_neg, wv_cmp, wv_chn, wv_not, wv_and, wv_or, wv_ite, wv_idx, wv_slc, wv_tup, wv_lst, wv_dsp0, wv_dsp, wd_nil, wd_cons, wv_call, wv_callK, wv_blt, wv_mth, wv_isi, wv_lc, vp_turn, vp_turn2, ws_nil, ws_cons, wp_no, wp_yes, wt_val, wt_not, wt_and, wt_or, wo_yes, wo_one, wi_seq, wi_rng1, wi_rng2, wi_enm, rs_asg, rs_asgS, rs_aug, rs_augS, rs_exp, rs_ret, rs_retN, rs_ite, rs_for, rs_body, rs_whl, rs_brk, rs_cnt, rs_pas, rp_cons, rp_nil, seq_nx, seq_ret, seq_brk, seq_cnt, loop_nx, loop_ret, loop_brk, loop_cnt, wp_some, vp_some, vp_map, vp_gte, vp_gteP, gteP, o_ixT, o_ixP, o_ixK, i_lst, i_frz, i_dct, i_dctK, at0, at1, at2, at3, ix0, ix1, ix2, cast_pos, cast_ne, zero_cast, if_false, if_true, ite_false, ite_true, b_lenT, b_lenP, l_lst, l_frz, l_dct, b_abs, b_int, b_intB, b_tupT, b_tupP, b_lstT, b_lstP, b_srt, b_sum, b_any, b_all, b_max2, b_min2, b_lrg, o_add, o_sub, o_mul, o_fdv, o_mod, o_pow, o_cat, o_catS, o_catP, o_rep, n_int, bo_bl, in_int, c_lt, c_le, c_gt, c_ge, c_eq, c_ne, c_in, c_nin, e_ii, e_ss, e_bb, t_bl, t_int, t_tup, t_ptr, s_tup, s_ptr, m_app, m_pop, m_popAt, m_joinP, r_app, r_pop, r_popAt, r_join, a_add, a_sub, d_set, d_lst, d_dct, k_int, k_str, q_name, q_tup, q_nil, q_cons, p_z, p_s, g_z, g_s, f_nil, f_cons, z_n, z_b, z_i, z_s, z_t, cs_n, cs_b, cs_i, cs_s, cs_t, cn_n, cn_b, cn_i, cn_s, cn_t, isT, reduceCtorEq, decide_true, decide_false, Bool.or_true, Bool.or_false, Bool.true_or, Bool.false_or, Bool.not_true, Bool.not_false, true_implies, Bool.true_eq_false, Bool.false_eq_true, not_true_eq_false, not_false_eq_true, false_implies, and_true, true_and, decide_eq_true_eq, forall_const, Option.map_some, Option.bind_some, List.length_cons, List.length_nil, hb.s4, hb.s3, hk, mo]
    have hB : Bg S1 := ⟨_, _, _, hb⟩
    refine ⟨fun h2 => ⟨_, rfl, ?_, ?_, hB, kp, hl⟩, fun h2 => ⟨fun _ => ⟨hm.1, _, rfl, Int.emod_nonneg _ (by omega), Int.emod_lt_of_pos _ hm.1, hB, kp, hl⟩, fun _ => ?_⟩⟩
    · exact Int.mul_nonneg p1 (by omega)
    · have : h = 0 ∨ h = 1 := by omega
      rcases this with rfl | rfl <;> omega
    · exact (hD many S1 g1 m1 kvs1 hb hm).mono fun d1 S2 ⟨r1, e1, q1, q2, ⟨g2, m2, hb1⟩, kp1, l1⟩ => ⟨r1, by rw [e1], q1, q2, ⟨_, _, _, hb1⟩, kp.trans kp1, by rw [l1, hl]⟩
end Mi

namespace Mi
open PySem L2
variable {C : CallT} {W : Nat}
theorem Bg.len {S : Sto} (h : Bg S) : 5 ≤ S.length := by
  obtain ⟨g, m, kvs, h⟩ := h
  exact get_lt h.s4
theorem Bg.set {S : Sto} {k : Nat} {o : O} (h : Bg S) (hk : 5 ≤ k) : Bg (S.set k o) := by
  obtain ⟨g, m, kvs, h⟩ := h
  exact ⟨_, _, _, h.set hk⟩
theorem Bg.app {S T : Sto} (h : Bg S) : Bg (S ++ T) := by
  obtain ⟨g, m, kvs, h⟩ := h
  exact ⟨_, _, _, h.app⟩
/-- a draw, the bag's inside forgotten -/
theorem DrawC.b {fd : Nat} (hD : DrawC C fd) {many : Int} {S : Sto} (hb : Bg S) (hm : 0 < many) (hm2 : many < 2 ^ 30) : Wp (C fd [.ptr 4, .int many] S) fun d S' => ∃ r : Int, d = .int r ∧ 0 ≤ r ∧ r < many ∧ Bg S' ∧ Kp 5 S S' ∧ S'.length = S.length := by
  obtain ⟨g, m, kvs, h⟩ := hb
  exact (hD many S g m kvs h ⟨hm, hm2⟩).mono fun d S' ⟨r, e, p1, p2, ⟨g1, m1, h1⟩, kp, hl⟩ => ⟨r, e, p1, p2, ⟨_, _, _, h1⟩, kp, hl⟩
def PickC (C : CallT) (fp : Nat) : Prop := ∀ (many : Int) (S : Sto) (x : Str), Bg S → Sum.inr x ∈ keyNames → 0 < many → many < 2 ^ 30 → Wp (C fp [.ptr 4, .str x, .int many] S) fun d S' => ∃ r : Int, d = .int r ∧ 0 ≤ r ∧ r < many ∧ Bg S' ∧ Kp 5 S S' ∧ S'.length = S.length
theorem pick_call {Φ : List Fn} {n fd fp : Nat} (hD : DrawC (run Φ W n) fd) (hf : Φ[fp]? = some ⟨3, 5, pickB fd⟩) : PickC (run Φ W (n + 1)) fp := fun many S x hb hx h1 h2 => by
  obtain ⟨g, m, kvs, h⟩ := hb
  exact wp_run hf rfl ((pick_ok hD h hx ⟨h1, h2⟩).mono fun f ρ S' ⟨r, e, h⟩ => by subst e; exact ⟨r, rfl, h⟩)
theorem itm_rng {lo : Int} {n i : Nat} {S : Sto} : itm (.rng lo n) i S = some (((List.range n).map fun k => D.int (lo + (k : Nat)))[i]?) := by
  simp only [itm, List.getElem?_map]
  by_cases h : i < n
  · simp [h]
  · simp [h]
theorem erase_map {α β : Type} (f : α → β) : ∀ (l : List α) (k : Nat), (l.map f).eraseIdx k = (l.eraseIdx k).map f
  | [], _ => rfl
  | a :: l, 0 => rfl
  | a :: l, k + 1 => by
    simp only [List.map_cons, List.eraseIdx_cons_succ, erase_map f l k]
theorem erase_perm {α : Type} : ∀ {l : List α} {k : Nat} (h : k < l.length), (l[k] :: l.eraseIdx k).Perm l
  | a :: l, 0, _ => List.Perm.refl _
  | a :: l, k + 1, h => by
    have ih := erase_perm (l := l) (k := k) (by simpa using h)
    simp only [List.getElem_cons_succ, List.eraseIdx_cons_succ]
    exact (List.Perm.swap _ _ _).trans (ih.cons a)
theorem order_ok {fd : Nat} {n : Nat} {S : Sto} (hD : DrawC C fd) (hb : Bg S) (hn : n ≤ 100000) :
    RP (exs C W (orderB fd) (bgn 5 [.ptr 4, .int n]) S) fun f _ S' => ∃ (k : Nat) (xs : List Nat), f = .ret (.ptr k) ∧ S.length ≤ k ∧ S'[k]? = some (.lst (xs.map fun x => D.int (x : Nat))) ∧ xs.Perm (List.range n) ∧ Bg S' ∧ Kp 5 S S' := by
  unfold orderB
  have h5 := hb.len
  have b0 : bgn 5 [D.ptr 4, .int n] = [some (.ptr 4), some (.int n), none, none, none] := rfl
  simp only [wv_var, wv_cst, wv_bin, wv_neg, wv_cmp, wv_chn, wv_not, wv_and, wv_or, wv_ite, wv_idx, wv_slc, wv_tup, wv_lst, wv_dsp0, wv_dsp, wd_nil, wd_cons, wv_call, wv_callK, wv_blt, wv_mth, wv_isi, wv_lc, vp_turn, vp_turn2, ws_nil, ws_cons, wp_no, wp_yes, wt_val, wt_not, wt_and, wt_or, wo_yes, wo_one, wi_seq, wi_rng1, wi_rng2, wi_enm, rs_asg, rs_asgS, rs_aug, rs_augS, rs_exp, rs_ret, rs_retN, rs_ite, rs_for, rs_body, rs_whl, rs_brk, rs_cnt, rs_pas, rp_cons, rp_nil, seq_nx, seq_ret, seq_brk, seq_cnt, loop_nx, loop_ret, loop_brk, loop_cnt, wp_some, vp_some, vp_map, vp_gte, vp_gteP, gteP, o_ixT, o_ixP, o_ixK, i_lst, i_frz, i_dct, i_dctK, at0, at1, at2, at3, ix0, ix1, ix2, cast_pos, cast_ne, zero_cast, if_false, if_true, ite_false, ite_true, b_lenT, b_lenP, l_lst, l_frz, l_dct, b_abs, b_int, b_intB, b_tupT, b_tupP, b_lstT, b_lstP, b_srt, b_sum, b_any, b_all, b_max2, b_min2, b_lrg, o_add, o_sub, o_mul, o_fdv, o_mod, o_pow, o_cat, o_catS, o_catP, o_rep, n_int, bo_bl, in_int, c_lt, c_le, c_gt, c_ge, c_eq, c_ne, c_in, c_nin, e_ii, e_ss, e_bb, t_bl, t_int, t_tup, t_ptr, s_tup, s_ptr, m_app, m_pop, m_popAt, m_joinP, r_app, r_pop, r_popAt, r_join, a_add, a_sub, d_set, d_lst, d_dct, k_int, k_str, q_name, q_tup, q_nil, q_cons, p_z, p_s, g_z, g_s, f_nil, f_cons, z_n, z_b, z_i, z_s, z_t, cs_n, cs_b, cs_i, cs_s, cs_t, cn_n, cn_b, cn_i, cn_s, cn_t, isT, reduceCtorEq, decide_true, decide_false, Bool.or_true, Bool.or_false, Bool.true_or, Bool.false_or, Bool.not_true, Bool.not_false, true_implies, Bool.true_eq_false, Bool.false_eq_true, not_true_eq_false, not_false_eq_true, false_implies, and_true, true_and, decide_eq_true_eq, forall_const, Option.map_some, Option.bind_some, List.length_cons, List.length_nil, b0, cntI, List.append_assoc, List.cons_append, List.nil_append, List.length_append]
  refine ⟨⟨by omega, by omega⟩, by decide, ⟨by omega, by omega⟩, ?_⟩
  refine rp_for ((List.range n).map fun k => D.int (0 + (k : Nat))) (fun i ρ S1 => ∃ (ls fs : List Nat) (x4 : Option D), ρ = [some (.ptr 4), some (.int n), some (.ptr S.length), some (.ptr (S.length + 1)), x4] ∧ S1[S.length]? = some (.lst (ls.map fun x => D.int (x : Nat))) ∧ S1[S.length + 1]? = some (.lst (fs.map fun x => D.int (x : Nat))) ∧ (fs ++ ls).Perm (List.range n) ∧ fs.length = i ∧ Bg S1 ∧ Kp 5 S S1)
    (fun _ _ _ _ _ => itm_rng) ?_ ?_ _ 0 _ _ ?_ (Nat.zero_le _) (by simp)
  · rintro i d ρ S1 hi ⟨ls, fs, x4, rfl, hL, hF, hp, hl, hB, kp⟩
    have hlen := hp.length_eq
    rw [List.length_append, List.length_range] at hlen
    have hi' : i < n := by
      have := (List.getElem?_eq_some_iff.mp hi).1
      simpa using this
    simp only [wv_var, wv_cst, wv_bin, wv_neg, wv_cmp, wv_chn, wv_not, wv_and, wv_or, wv_ite, wv_idx, wv_slc, wv_tup, wv_lst, wv_dsp0, wv_dsp, wd_nil, wd_cons, wv_call, wv_callK, wv_blt, wv_mth, wv_isi, wv_lc, vp_turn, vp_turn2, ws_nil, ws_cons, wp_no, wp_yes, wt_val, wt_not, wt_and, wt_or, wo_yes, wo_one, wi_seq, wi_rng1, wi_rng2, wi_enm, rs_asg, rs_asgS, rs_aug, rs_augS, rs_exp, rs_ret, rs_retN, rs_ite, rs_for, rs_body, rs_whl, rs_brk, rs_cnt, rs_pas, rp_cons, rp_nil, seq_nx, seq_ret, seq_brk, seq_cnt, loop_nx, loop_ret, loop_brk, loop_cnt, wp_some, vp_some, vp_map, vp_gte, vp_gteP, gteP, o_ixT, o_ixP, o_ixK, i_lst, i_frz, i_dct, i_dctK, at0, at1, at2, at3, ix0, ix1, ix2, cast_pos, cast_ne, zero_cast, if_false, if_true, ite_false, ite_true, b_lenT, b_lenP, l_lst, l_frz, l_dct, b_abs, b_int, b_intB, b_tupT, b_tupP, b_lstT, b_lstP, b_srt, b_sum, b_any, b_all, b_max2, b_min2, b_lrg, o_add, o_sub, o_mul, o_fdv, o_mod, o_pow, o_cat, o_catS, o_catP, o_rep, n_int, bo_bl, in_int, c_lt, c_le, c_gt, c_ge, c_eq, c_ne, c_in, c_nin, e_ii, e_ss, e_bb, t_bl, t_int, t_tup, t_ptr, s_tup, s_ptr, m_app, m_pop, m_popAt, m_joinP, r_app, r_pop, r_popAt, r_join, a_add, a_sub, d_set, d_lst, d_dct, k_int, k_str, q_name, q_tup, q_nil, q_cons, p_z, p_s, g_z, g_s, f_nil, f_cons, z_n, z_b, z_i, z_s, z_t, cs_n, cs_b, cs_i, cs_s, cs_t, cn_n, cn_b, cn_i, cn_s, cn_t, isT, reduceCtorEq, decide_true, decide_false, Bool.or_true, Bool.or_false, Bool.true_or, Bool.false_or, Bool.not_true, Bool.not_false, true_implies, Bool.true_eq_false, Bool.false_eq_true, not_true_eq_false, not_false_eq_true, false_implies, and_true, true_and, decide_eq_true_eq, forall_const, Option.map_some, Option.bind_some, List.length_cons, List.length_nil, hL, hF, mut_get hL, mut_get hF, Option.isSome, List.length_map]
    refine (hD.b hB (by omega) (by omega)).mono fun d1 S2 ⟨r, e, p1, p2, hB2, kp2, l2⟩ => ?_
    subst e
    obtain ⟨k, rfl⟩ := Int.eq_ofNat_of_zero_le p1
    have hk : k < ls.length := by omega
    have hL2 := kp2.get hL h5
    have hF2 := kp2.get hF (by omega)
    have hF3 := get_set_ne (k := S.length) (o' := .lst ((ls.map fun x => D.int (x : Nat)).eraseIdx k)) hF2 (by omega)
    have hlt := get_lt hF3
    simp only [wv_var, wv_cst, wv_bin, wv_neg, wv_cmp, wv_chn, wv_not, wv_and, wv_or, wv_ite, wv_idx, wv_slc, wv_tup, wv_lst, wv_dsp0, wv_dsp, wd_nil, wd_cons, wv_call, wv_callK, wv_blt, wv_mth, wv_isi, wv_lc, vp_turn, vp_turn2, ws_nil, ws_cons, wp_no, wp_yes, wt_val, wt_not, wt_and, wt_or, wo_yes, wo_one, wi_seq, wi_rng1, wi_rng2, wi_enm, rs_asg, rs_asgS, rs_aug, rs_augS, rs_exp, rs_ret, rs_retN, rs_ite, rs_for, rs_body, rs_whl, rs_brk, rs_cnt, rs_pas, rp_cons, rp_nil, seq_nx, seq_ret, seq_brk, seq_cnt, loop_nx, loop_ret, loop_brk, loop_cnt, wp_some, vp_some, vp_map, vp_gte, vp_gteP, gteP, o_ixT, o_ixP, o_ixK, i_lst, i_frz, i_dct, i_dctK, at0, at1, at2, at3, ix0, ix1, ix2, cast_pos, cast_ne, zero_cast, if_false, if_true, ite_false, ite_true, b_lenT, b_lenP, l_lst, l_frz, l_dct, b_abs, b_int, b_intB, b_tupT, b_tupP, b_lstT, b_lstP, b_srt, b_sum, b_any, b_all, b_max2, b_min2, b_lrg, o_add, o_sub, o_mul, o_fdv, o_mod, o_pow, o_cat, o_catS, o_catP, o_rep, n_int, bo_bl, in_int, c_lt, c_le, c_gt, c_ge, c_eq, c_ne, c_in, c_nin, e_ii, e_ss, e_bb, t_bl, t_int, t_tup, t_ptr, s_tup, s_ptr, m_app, m_pop, m_popAt, m_joinP, r_app, r_pop, r_popAt, r_join, a_add, a_sub, d_set, d_lst, d_dct, k_int, k_str, q_name, q_tup, q_nil, q_cons, p_z, p_s, g_z, g_s, f_nil, f_cons, z_n, z_b, z_i, z_s, z_t, cs_n, cs_b, cs_i, cs_s, cs_t, cn_n, cn_b, cn_i, cn_s, cn_t, isT, reduceCtorEq, decide_true, decide_false, Bool.or_true, Bool.or_false, Bool.true_or, Bool.false_or, Bool.not_true, Bool.not_false, true_implies, Bool.true_eq_false, Bool.false_eq_true, not_true_eq_false, not_false_eq_true, false_implies, and_true, true_and, decide_eq_true_eq, forall_const, Option.map_some, Option.bind_some, List.length_cons, List.length_nil, hL2, mut_get hL2, mut_get hF3, Option.isSome, List.length_map, ixOf_nat hk, List.getElem?_map, List.getElem?_eq_getElem hk]
    refine ⟨by rw [sizeLine_eq]; omega, by rw [sizeLine_eq]; omega, ls.eraseIdx k, fs ++ [ls[k]], _, rfl, get_set_ne (get_set (get_lt hL2)) (by omega) |>.trans ?_, (get_set hlt).trans ?_, ?_, by rw [List.length_append, hl, List.length_singleton], (hB2.set h5).set (by omega), ((kp.trans kp2).set (.inl (by omega))).set (.inl (by omega))⟩
    · rw [erase_map]
    · rw [List.map_append]
      rfl
    · refine List.Perm.trans ?_ hp
      rw [List.append_assoc]
      exact (erase_perm hk).append_left fs
  · rintro ρ S1 ⟨ls, fs, x4, rfl, hL, hF, hp, hl, hB, kp⟩
    simp only [wv_var, wv_cst, wv_bin, wv_neg, wv_cmp, wv_chn, wv_not, wv_and, wv_or, wv_ite, wv_idx, wv_slc, wv_tup, wv_lst, wv_dsp0, wv_dsp, wd_nil, wd_cons, wv_call, wv_callK, wv_blt, wv_mth, wv_isi, wv_lc, vp_turn, vp_turn2, ws_nil, ws_cons, wp_no, wp_yes, wt_val, wt_not, wt_and, wt_or, wo_yes, wo_one, wi_seq, wi_rng1, wi_rng2, wi_enm, rs_asg, rs_asgS, rs_aug, rs_augS, rs_exp, rs_ret, rs_retN, rs_ite, rs_for, rs_body, rs_whl, rs_brk, rs_cnt, rs_pas, rp_cons, rp_nil, seq_nx, seq_ret, seq_brk, seq_cnt, loop_nx, loop_ret, loop_brk, loop_cnt, wp_some, vp_some, vp_map, vp_gte, vp_gteP, gteP, o_ixT, o_ixP, o_ixK, i_lst, i_frz, i_dct, i_dctK, at0, at1, at2, at3, ix0, ix1, ix2, cast_pos, cast_ne, zero_cast, if_false, if_true, ite_false, ite_true, b_lenT, b_lenP, l_lst, l_frz, l_dct, b_abs, b_int, b_intB, b_tupT, b_tupP, b_lstT, b_lstP, b_srt, b_sum, b_any, b_all, b_max2, b_min2, b_lrg, o_add, o_sub, o_mul, o_fdv, o_mod, o_pow, o_cat, o_catS, o_catP, o_rep, n_int, bo_bl, in_int, c_lt, c_le, c_gt, c_ge, c_eq, c_ne, c_in, c_nin, e_ii, e_ss, e_bb, t_bl, t_int, t_tup, t_ptr, s_tup, s_ptr, m_app, m_pop, m_popAt, m_joinP, r_app, r_pop, r_popAt, r_join, a_add, a_sub, d_set, d_lst, d_dct, k_int, k_str, q_name, q_tup, q_nil, q_cons, p_z, p_s, g_z, g_s, f_nil, f_cons, z_n, z_b, z_i, z_s, z_t, cs_n, cs_b, cs_i, cs_s, cs_t, cn_n, cn_b, cn_i, cn_s, cn_t, isT, reduceCtorEq, decide_true, decide_false, Bool.or_true, Bool.or_false, Bool.true_or, Bool.false_or, Bool.not_true, Bool.not_false, true_implies, Bool.true_eq_false, Bool.false_eq_true, not_true_eq_false, not_false_eq_true, false_implies, and_true, true_and, decide_eq_true_eq, forall_const, Option.map_some, Option.bind_some, List.length_cons, List.length_nil]
    have hlen := hp.length_eq
    rw [List.length_append, List.length_range, hl, List.length_map, List.length_range] at hlen
    have : ls = [] := List.length_eq_zero_iff.mp (by omega)
    subst this
    exact ⟨_, fs, rfl, by omega, hF, by simpa using hp, hB, kp⟩
  · refine ⟨List.range n, [], none, rfl, ?_, ?_, by simp, rfl, hb.app, Kp.refl.app⟩
    · rw [Int.toNat_natCast]
      exact get_new
    · rw [List.getElem?_append_right (by omega)]
      simp
def OrderC (C : CallT) (fo : Nat) : Prop := ∀ (n : Nat) (S : Sto), Bg S → n ≤ 100000 → Wp (C fo [.ptr 4, .int n] S) fun d S' => ∃ (k : Nat) (xs : List Nat), d = .ptr k ∧ S.length ≤ k ∧ S'[k]? = some (.lst (xs.map fun x => D.int (x : Nat))) ∧ xs.Perm (List.range n) ∧ Bg S' ∧ Kp 5 S S'
theorem order_call {Φ : List Fn} {n fd fo : Nat} (hD : DrawC (run Φ W n) fd) (hf : Φ[fo]? = some ⟨2, 5, orderB fd⟩) : OrderC (run Φ W (n + 1)) fo := fun many S hb hn =>
  wp_run hf rfl ((order_ok hD hb hn).mono fun f ρ S' ⟨k, xs, e, h⟩ => by subst e; exact ⟨k, xs, rfl, h⟩)
end Mi

namespace Mi
open PySem L2
variable {C : CallT} {W : Nat}
def code (k : Nat) : Nat := if k < 26 then 97 + k else 22 + k
abbrev signs : Str := "abcdefghijklmnopqrstuvwxyz0123456789"
theorem signs_at : ∀ k < 36, signs.cps.toList[k]? = some (code k) := by decide +kernel
theorem signs_len : signs.length = 36 := by decide +kernel
theorem signs_idx {k : Nat} {S : Sto} (h : k < 36) : idxD (.str signs) (.int k) S = some (.str ⟨#[code k]⟩) := by
  rw [o_ixS (by rw [signs_len, sizeLine_eq]; decide), atI_nat (signs_at k h)]
  rfl
theorem join_chars : ∀ cs : List Nat, Str.join ⟨#[]⟩ (cs.map fun c => (⟨#[c]⟩ : Str)) = ⟨cs.toArray⟩
  | [] => rfl
  | [c] => rfl
  | c :: d :: r => by
    have ih := join_chars (d :: r)
    show (⟨#[c]⟩ ++ ⟨#[]⟩ ++ Str.join ⟨#[]⟩ ((d :: r).map fun c => (⟨#[c]⟩ : Str)) : Str) = _
    rw [ih]
    show (⟨#[c] ++ #[] ++ (d :: r).toArray⟩ : Str) = _
    congr 1
    simp
theorem strs_chars : ∀ cs : List Nat, strsOf (cs.map fun c => D.str ⟨#[c]⟩) = some (cs.map fun c => (⟨#[c]⟩ : Str))
  | [] => rfl
  | c :: r => by
    simp only [List.map_cons, strsOf, strs_chars r, Option.map_some]
theorem glue (cs : List Nat) : Txt.join ("" : Str) (cs.map fun c => (⟨#[c]⟩ : Str)) = ⟨cs.toArray⟩ := (TL.join_eq _ _).trans (join_chars cs)
theorem sum_chars : ∀ cs : List Nat, ((cs.map fun c => (⟨#[c]⟩ : Str)).map (·.length)).sum = cs.length
  | [] => rfl
  | c :: r => by
    simp only [List.map_cons, List.sum_cons, sum_chars r, List.length_cons]
    show 1 + r.length = _
    omega
theorem empty_len : ("" : Str).length = 0 := rfl
theorem word_cat (c : Nat) (cs : List Nat) : ((⟨#[c]⟩ : Str) ++ ⟨cs.toArray⟩ : Str) = ⟨(c :: cs).toArray⟩ := by
  show (⟨#[c] ++ cs.toArray⟩ : Str) = _
  congr 1
  simp
/-- a word as the bag writes it -/
structure WordL (cs : List Nat) : Prop where
  lo : 1 ≤ cs.length
  hi : cs.length ≤ 8
  al : ∀ c ∈ cs, ∃ k, k < 36 ∧ c = code k
theorem cut_take {xs : List D} {n : Nat} : cutD xs none (some (n : Int)) = xs.take n := by
  unfold cutD
  rw [HT.sIx_none, show HT.sIx xs.length xs.length (some (n : Int)) = min n xs.length from HT.sIx_nat xs.length xs.length n]
  rw [List.drop_zero, Nat.sub_zero, List.take_eq_take_iff]
  omega
theorem vp_mono {α : Type} {r : Option α} {P Q : α → Prop} (h : Vp r P) (q : ∀ a, P a → Q a) : Vp r Q := let ⟨a, e, h⟩ := h; ⟨a, e, q a h⟩
theorem Vp.mono {α : Type} {r : Option α} {P Q : α → Prop} (h : Vp r P) (q : ∀ a, P a → Q a) : Vp r Q := vp_mono h q
theorem chars_ok {fd n : Nat} {S : Sto} {a1 a3 a4 a6 : Option D} (hD : DrawC C fd) (hb : Bg S) (hn : n ≤ 1000) :
    Wp (ev C (.lc (.idx (.var i2) (.call fd (.cons (.var i0) (.cons (.cst (.int 36)) .nil)))) (.name i6) (.rng1 (.var i5)) .yes [i6]) [some (.ptr 4), a1, some (.str signs), a3, a4, some (.int n), a6] S) fun d S' =>
      ∃ cs : List Nat, d = .ptr S.length ∧ S'[S.length]? = some (.lst (cs.map fun c => D.str ⟨#[c]⟩)) ∧ cs.length = n ∧ (∀ c ∈ cs, ∃ k, k < 36 ∧ c = code k) ∧ Bg S' ∧ Kp 5 S S' := by
  have h5 := hb.len
  simp only [wv_var, wv_cst, wv_bin, wv_neg, wv_cmp, wv_chn, wv_not, wv_and, wv_or, wv_ite, wv_idx, wv_slc, wv_tup, wv_lst, wv_dsp0, wv_dsp, wd_nil, wd_cons, wv_call, wv_callK, wv_blt, wv_mth, wv_isi, wv_lc, vp_turn, vp_turn2, ws_nil, ws_cons, wp_no, wp_yes, wt_val, wt_not, wt_and, wt_or, wo_yes, wo_one, wi_seq, wi_rng1, wi_rng2, wi_enm, rs_asg, rs_asgS, rs_aug, rs_augS, rs_exp, rs_ret, rs_retN, rs_ite, rs_for, rs_body, rs_whl, rs_brk, rs_cnt, rs_pas, rp_cons, rp_nil, seq_nx, seq_ret, seq_brk, seq_cnt, loop_nx, loop_ret, loop_brk, loop_cnt, wp_some, vp_some, vp_map, vp_gte, vp_gteP, gteP, o_ixT, o_ixP, o_ixK, i_lst, i_frz, i_dct, i_dctK, at0, at1, at2, at3, ix0, ix1, ix2, cast_pos, cast_ne, zero_cast, if_false, if_true, ite_false, ite_true, b_lenT, b_lenP, l_lst, l_frz, l_dct, b_abs, b_int, b_intB, b_tupT, b_tupP, b_lstT, b_lstP, b_srt, b_sum, b_any, b_all, b_max2, b_min2, b_lrg, o_add, o_sub, o_mul, o_fdv, o_mod, o_pow, o_cat, o_catS, o_catP, o_rep, n_int, bo_bl, in_int, c_lt, c_le, c_gt, c_ge, c_eq, c_ne, c_in, c_nin, e_ii, e_ss, e_bb, t_bl, t_int, t_tup, t_ptr, s_tup, s_ptr, m_app, m_pop, m_popAt, m_joinP, r_app, r_pop, r_popAt, r_join, a_add, a_sub, d_set, d_lst, d_dct, k_int, k_str, q_name, q_tup, q_nil, q_cons, p_z, p_s, g_z, g_s, f_nil, f_cons, z_n, z_b, z_i, z_s, z_t, cs_n, cs_b, cs_i, cs_s, cs_t, cn_n, cn_b, cn_i, cn_s, cn_t, isT, reduceCtorEq, decide_true, decide_false, Bool.or_true, Bool.or_false, Bool.true_or, Bool.false_or, Bool.not_true, Bool.not_false, true_implies, Bool.true_eq_false, Bool.false_eq_true, not_true_eq_false, not_false_eq_true, false_implies, and_true, true_and, decide_eq_true_eq, forall_const, Option.map_some, Option.bind_some, List.length_cons, List.length_nil, cntI]
  refine ⟨⟨by omega, by omega⟩, ?_⟩
  refine vp_loop ((List.range n).map fun k => D.int (0 + (k : Nat))) (fun i S1 => ∃ cs : List Nat, S1[S.length]? = some (.lst (cs.map fun c => D.str ⟨#[c]⟩)) ∧ cs.length = i ∧ (∀ c ∈ cs, ∃ k, k < 36 ∧ c = code k) ∧ Bg S1 ∧ Kp 5 S S1)
    (fun _ _ _ _ => itm_rng) ?_ ?_ _ 0 _ ⟨[], get_new, rfl, by simp, hb.app, Kp.refl.app⟩ (Nat.zero_le _) (by simp)
  · rintro i d S1 hi ⟨cs, hL, hl, ha, hB, kp⟩
    have hi' : i < n := by
      have := (List.getElem?_eq_some_iff.mp hi).1
      simpa using this
    simp only [wv_var, wv_cst, wv_bin, wv_neg, wv_cmp, wv_chn, wv_not, wv_and, wv_or, wv_ite, wv_idx, wv_slc, wv_tup, wv_lst, wv_dsp0, wv_dsp, wd_nil, wd_cons, wv_call, wv_callK, wv_blt, wv_mth, wv_isi, wv_lc, vp_turn, vp_turn2, ws_nil, ws_cons, wp_no, wp_yes, wt_val, wt_not, wt_and, wt_or, wo_yes, wo_one, wi_seq, wi_rng1, wi_rng2, wi_enm, rs_asg, rs_asgS, rs_aug, rs_augS, rs_exp, rs_ret, rs_retN, rs_ite, rs_for, rs_body, rs_whl, rs_brk, rs_cnt, rs_pas, rp_cons, rp_nil, seq_nx, seq_ret, seq_brk, seq_cnt, loop_nx, loop_ret, loop_brk, loop_cnt, wp_some, vp_some, vp_map, vp_gte, vp_gteP, gteP, o_ixT, o_ixP, o_ixK, i_lst, i_frz, i_dct, i_dctK, at0, at1, at2, at3, ix0, ix1, ix2, cast_pos, cast_ne, zero_cast, if_false, if_true, ite_false, ite_true, b_lenT, b_lenP, l_lst, l_frz, l_dct, b_abs, b_int, b_intB, b_tupT, b_tupP, b_lstT, b_lstP, b_srt, b_sum, b_any, b_all, b_max2, b_min2, b_lrg, o_add, o_sub, o_mul, o_fdv, o_mod, o_pow, o_cat, o_catS, o_catP, o_rep, n_int, bo_bl, in_int, c_lt, c_le, c_gt, c_ge, c_eq, c_ne, c_in, c_nin, e_ii, e_ss, e_bb, t_bl, t_int, t_tup, t_ptr, s_tup, s_ptr, m_app, m_pop, m_popAt, m_joinP, r_app, r_pop, r_popAt, r_join, a_add, a_sub, d_set, d_lst, d_dct, k_int, k_str, q_name, q_tup, q_nil, q_cons, p_z, p_s, g_z, g_s, f_nil, f_cons, z_n, z_b, z_i, z_s, z_t, cs_n, cs_b, cs_i, cs_s, cs_t, cn_n, cn_b, cn_i, cn_s, cn_t, isT, reduceCtorEq, decide_true, decide_false, Bool.or_true, Bool.or_false, Bool.true_or, Bool.false_or, Bool.not_true, Bool.not_false, true_implies, Bool.true_eq_false, Bool.false_eq_true, not_true_eq_false, not_false_eq_true, false_implies, and_true, true_and, decide_eq_true_eq, forall_const, Option.map_some, Option.bind_some, List.length_cons, List.length_nil]
    refine (hD.b hB (by decide) (by decide)).mono fun d1 S2 ⟨r, e, p1, p2, hB2, kp2, l2⟩ => ?_
    subst e
    obtain ⟨k, rfl⟩ := Int.eq_ofNat_of_zero_le p1
    have hL2 := kp2.get hL h5
    simp only [wv_var, wv_cst, wv_bin, wv_neg, wv_cmp, wv_chn, wv_not, wv_and, wv_or, wv_ite, wv_idx, wv_slc, wv_tup, wv_lst, wv_dsp0, wv_dsp, wd_nil, wd_cons, wv_call, wv_callK, wv_blt, wv_mth, wv_isi, wv_lc, vp_turn, vp_turn2, ws_nil, ws_cons, wp_no, wp_yes, wt_val, wt_not, wt_and, wt_or, wo_yes, wo_one, wi_seq, wi_rng1, wi_rng2, wi_enm, rs_asg, rs_asgS, rs_aug, rs_augS, rs_exp, rs_ret, rs_retN, rs_ite, rs_for, rs_body, rs_whl, rs_brk, rs_cnt, rs_pas, rp_cons, rp_nil, seq_nx, seq_ret, seq_brk, seq_cnt, loop_nx, loop_ret, loop_brk, loop_cnt, wp_some, vp_some, vp_map, vp_gte, vp_gteP, gteP, o_ixT, o_ixP, o_ixK, i_lst, i_frz, i_dct, i_dctK, at0, at1, at2, at3, ix0, ix1, ix2, cast_pos, cast_ne, zero_cast, if_false, if_true, ite_false, ite_true, b_lenT, b_lenP, l_lst, l_frz, l_dct, b_abs, b_int, b_intB, b_tupT, b_tupP, b_lstT, b_lstP, b_srt, b_sum, b_any, b_all, b_max2, b_min2, b_lrg, o_add, o_sub, o_mul, o_fdv, o_mod, o_pow, o_cat, o_catS, o_catP, o_rep, n_int, bo_bl, in_int, c_lt, c_le, c_gt, c_ge, c_eq, c_ne, c_in, c_nin, e_ii, e_ss, e_bb, t_bl, t_int, t_tup, t_ptr, s_tup, s_ptr, m_app, m_pop, m_popAt, m_joinP, r_app, r_pop, r_popAt, r_join, a_add, a_sub, d_set, d_lst, d_dct, k_int, k_str, q_name, q_tup, q_nil, q_cons, p_z, p_s, g_z, g_s, f_nil, f_cons, z_n, z_b, z_i, z_s, z_t, cs_n, cs_b, cs_i, cs_s, cs_t, cn_n, cn_b, cn_i, cn_s, cn_t, isT, reduceCtorEq, decide_true, decide_false, Bool.or_true, Bool.or_false, Bool.true_or, Bool.false_or, Bool.not_true, Bool.not_false, true_implies, Bool.true_eq_false, Bool.false_eq_true, not_true_eq_false, not_false_eq_true, false_implies, and_true, true_and, decide_eq_true_eq, forall_const, Option.map_some, Option.bind_some, List.length_cons, List.length_nil, signs_idx (show k < 36 by omega), lcApp, mut_get hL2]
    refine ⟨by rw [List.length_map, sizeLine_eq]; omega, cs ++ [code k], ?_, by rw [List.length_append, hl, List.length_singleton], fun c hc => ?_, hB2.set h5, (kp.trans kp2).set (.inl (Nat.le_refl _))⟩
    · rw [get_set (get_lt hL2), List.map_append]
      rfl
    · rcases List.mem_append.mp hc with hc | hc
      · exact ha c hc
      · exact ⟨k, by omega, List.mem_singleton.mp hc⟩
  · rintro S1 ⟨cs, hL, hl, ha, hB, kp⟩
    rw [List.length_map, List.length_range] at hl
    exact ⟨cs, hL, hl, ha, hB, kp⟩
theorem words_ok {fd fo : Nat} {n : Nat} {S : Sto} (hD : DrawC C fd) (hO : OrderC C fo) (hb : Bg S) (hn : n ≤ 26) :
    RP (exs C W (wordsB fd fo) (bgn 7 [.ptr 4, .int n]) S) fun f _ S' => ∃ (k : Nat) (xs : List (List Nat)), f = .ret (.ptr k) ∧ S.length ≤ k ∧ S'[k]? = some (.lst (xs.map fun x => D.str ⟨x.toArray⟩)) ∧ xs.length = n ∧ (∀ x ∈ xs, WordL x) ∧ (xs.map (·.head?)).Nodup ∧ Bg S' ∧ Kp 5 S S' := by
  unfold wordsB
  have h5 := hb.len
  have b0 : bgn 7 [D.ptr 4, .int n] = [some (.ptr 4), some (.int n), none, none, none, none, none] := rfl
  simp only [wv_var, wv_cst, wv_bin, wv_neg, wv_cmp, wv_chn, wv_not, wv_and, wv_or, wv_ite, wv_idx, wv_slc, wv_tup, wv_lst, wv_dsp0, wv_dsp, wd_nil, wd_cons, wv_call, wv_callK, wv_blt, wv_mth, wv_isi, wv_lc, vp_turn, vp_turn2, ws_nil, ws_cons, wp_no, wp_yes, wt_val, wt_not, wt_and, wt_or, wo_yes, wo_one, wi_seq, wi_rng1, wi_rng2, wi_enm, rs_asg, rs_asgS, rs_aug, rs_augS, rs_exp, rs_ret, rs_retN, rs_ite, rs_for, rs_body, rs_whl, rs_brk, rs_cnt, rs_pas, rp_cons, rp_nil, seq_nx, seq_ret, seq_brk, seq_cnt, loop_nx, loop_ret, loop_brk, loop_cnt, wp_some, vp_some, vp_map, vp_gte, vp_gteP, gteP, o_ixT, o_ixP, o_ixK, i_lst, i_frz, i_dct, i_dctK, at0, at1, at2, at3, ix0, ix1, ix2, cast_pos, cast_ne, zero_cast, if_false, if_true, ite_false, ite_true, b_lenT, b_lenP, l_lst, l_frz, l_dct, b_abs, b_int, b_intB, b_tupT, b_tupP, b_lstT, b_lstP, b_srt, b_sum, b_any, b_all, b_max2, b_min2, b_lrg, o_add, o_sub, o_mul, o_fdv, o_mod, o_pow, o_cat, o_catS, o_catP, o_rep, n_int, bo_bl, in_int, c_lt, c_le, c_gt, c_ge, c_eq, c_ne, c_in, c_nin, e_ii, e_ss, e_bb, t_bl, t_int, t_tup, t_ptr, s_tup, s_ptr, m_app, m_pop, m_popAt, m_joinP, r_app, r_pop, r_popAt, r_join, a_add, a_sub, d_set, d_lst, d_dct, k_int, k_str, q_name, q_tup, q_nil, q_cons, p_z, p_s, g_z, g_s, f_nil, f_cons, z_n, z_b, z_i, z_s, z_t, cs_n, cs_b, cs_i, cs_s, cs_t, cn_n, cn_b, cn_i, cn_s, cn_t, isT, reduceCtorEq, decide_true, decide_false, Bool.or_true, Bool.or_false, Bool.true_or, Bool.false_or, Bool.not_true, Bool.not_false, true_implies, Bool.true_eq_false, Bool.false_eq_true, not_true_eq_false, not_false_eq_true, false_implies, and_true, true_and, decide_eq_true_eq, forall_const, Option.map_some, Option.bind_some, List.length_cons, List.length_nil, b0]
  refine ⟨by rw [sizeLine_eq]; decide, ?_⟩
  refine (hO 26 (S ++ [.lst []]) hb.app (by decide)).mono fun d1 S1 ⟨k, ls, e, hk, hL, hp, hB, kp⟩ => ?_
  subst e
  rw [List.length_append] at hk
  have hF := kp.get (i := S.length) get_new h5
  have hT : lstOf (S1 ++ [O.lst (cutD (ls.map fun x => D.int (x : Nat)) none (some (n : Int)))]) S1.length = some ((ls.take n).map fun x => D.int (x : Nat)) := by
    rw [lst_get get_new, cut_take, List.map_take]
  have hls : ls.length = 26 := by rw [hp.length_eq, List.length_range]
  have kp1 : Kp 5 S S1 := (Kp.refl.app).trans kp
  simp only [wv_var, wv_cst, wv_bin, wv_neg, wv_cmp, wv_chn, wv_not, wv_and, wv_or, wv_ite, wv_idx, wv_slc, wv_tup, wv_lst, wv_dsp0, wv_dsp, wd_nil, wd_cons, wv_call, wv_callK, wv_blt, wv_mth, wv_isi, vp_turn, vp_turn2, ws_nil, ws_cons, wp_no, wp_yes, wt_val, wt_not, wt_and, wt_or, wo_yes, wo_one, wi_seq, wi_rng1, wi_rng2, wi_enm, rs_asg, rs_asgS, rs_aug, rs_augS, rs_exp, rs_ret, rs_retN, rs_ite, rs_for, rs_body, rs_whl, rs_brk, rs_cnt, rs_pas, rp_cons, rp_nil, seq_nx, seq_ret, seq_brk, seq_cnt, loop_nx, loop_ret, loop_brk, loop_cnt, wp_some, vp_some, vp_map, vp_gte, vp_gteP, gteP, o_ixT, o_ixP, o_ixK, i_lst, i_frz, i_dct, i_dctK, at0, at1, at2, at3, ix0, ix1, ix2, cast_pos, cast_ne, zero_cast, if_false, if_true, ite_false, ite_true, b_lenT, b_lenP, l_lst, l_frz, l_dct, b_abs, b_int, b_intB, b_tupT, b_tupP, b_lstT, b_lstP, b_srt, b_sum, b_any, b_all, b_max2, b_min2, b_lrg, o_add, o_sub, o_mul, o_fdv, o_mod, o_pow, o_cat, o_catS, o_catP, o_rep, n_int, bo_bl, in_int, c_lt, c_le, c_gt, c_ge, c_eq, c_ne, c_in, c_nin, e_ii, e_ss, e_bb, t_bl, t_int, t_tup, t_ptr, s_tup, s_ptr, m_app, m_pop, m_popAt, m_joinP, r_app, r_pop, r_popAt, r_join, a_add, a_sub, d_set, d_lst, d_dct, k_int, k_str, q_name, q_tup, q_nil, q_cons, p_z, p_s, g_z, g_s, f_nil, f_cons, z_n, z_b, z_i, z_s, z_t, cs_n, cs_b, cs_i, cs_s, cs_t, cn_n, cn_b, cn_i, cn_s, cn_t, isT, reduceCtorEq, decide_true, decide_false, Bool.or_true, Bool.or_false, Bool.true_or, Bool.false_or, Bool.not_true, Bool.not_false, true_implies, Bool.true_eq_false, Bool.false_eq_true, not_true_eq_false, not_false_eq_true, false_implies, and_true, true_and, decide_eq_true_eq, forall_const, Option.map_some, Option.bind_some, List.length_cons, List.length_nil, cntI, lst_get hL, seqI, hT, Option.getD_some]
  refine rp_for ((ls.take n).map fun x => D.int (x : Nat)) (fun i ρ S2 => ∃ (xs : List (List Nat)) (x4 x5 x6 : Option D), ρ = [some (.ptr 4), some (.int n), some (.str signs), some (.ptr S.length), x4, x5, x6] ∧ S2[S.length]? = some (.lst (xs.map fun x => D.str ⟨x.toArray⟩)) ∧ lstOf S2 S1.length = some ((ls.take n).map fun x => D.int (x : Nat)) ∧ xs.length = i ∧ (∀ x ∈ xs, WordL x) ∧ xs.map (·.head?) = ((ls.take n).take i).map (fun l => some (code l)) ∧ Bg S2 ∧ Kp 5 S S2 ∧ S1.length < S2.length)
    ?_ ?_ ?_ _ 0 _ _ ⟨[], none, none, none, rfl, get_app hF, hT, rfl, by simp, rfl, hB.app, kp1.app, by simp⟩ (Nat.zero_le _) (by simp)
  · rintro i ρ S2 _ ⟨xs, x4, x5, x6, _, _, h, _⟩
    simp only [itm, h, Option.map_some]
  · rintro i d ρ S2 hi ⟨xs, x4, x5, x6, rfl, hF2, hT2, hl, hw, hh, hB2, kp2, hlt⟩
    rw [List.getElem?_map] at hi
    obtain ⟨l, hl2, rfl⟩ := map_some hi
    have hl26 : l < 26 := by
      have h1 := hp.mem_iff.mp (List.mem_of_mem_take (List.mem_of_getElem? hl2))
      simpa using h1
    simp only [wv_var, wv_cst, wv_bin, wv_neg, wv_cmp, wv_chn, wv_not, wv_and, wv_or, wv_ite, wv_idx, wv_slc, wv_tup, wv_lst, wv_dsp0, wv_dsp, wd_nil, wd_cons, wv_call, wv_callK, wv_blt, wv_mth, wv_isi, vp_turn, vp_turn2, ws_nil, ws_cons, wp_no, wp_yes, wt_val, wt_not, wt_and, wt_or, wo_yes, wo_one, wi_seq, wi_rng1, wi_rng2, wi_enm, rs_asg, rs_asgS, rs_aug, rs_augS, rs_exp, rs_ret, rs_retN, rs_ite, rs_for, rs_body, rs_whl, rs_brk, rs_cnt, rs_pas, rp_cons, rp_nil, seq_nx, seq_ret, seq_brk, seq_cnt, loop_nx, loop_ret, loop_brk, loop_cnt, wp_some, vp_some, vp_map, vp_gte, vp_gteP, gteP, o_ixT, o_ixP, o_ixK, i_lst, i_frz, i_dct, i_dctK, at0, at1, at2, at3, ix0, ix1, ix2, cast_pos, cast_ne, zero_cast, if_false, if_true, ite_false, ite_true, b_lenT, b_lenP, l_lst, l_frz, l_dct, b_abs, b_int, b_intB, b_tupT, b_tupP, b_lstT, b_lstP, b_srt, b_sum, b_any, b_all, b_max2, b_min2, b_lrg, o_add, o_sub, o_mul, o_fdv, o_mod, o_pow, o_cat, o_catS, o_catP, o_rep, n_int, bo_bl, in_int, c_lt, c_le, c_gt, c_ge, c_eq, c_ne, c_in, c_nin, e_ii, e_ss, e_bb, t_bl, t_int, t_tup, t_ptr, s_tup, s_ptr, m_app, m_pop, m_popAt, m_joinP, r_app, r_pop, r_popAt, r_join, a_add, a_sub, d_set, d_lst, d_dct, k_int, k_str, q_name, q_tup, q_nil, q_cons, p_z, p_s, g_z, g_s, f_nil, f_cons, z_n, z_b, z_i, z_s, z_t, cs_n, cs_b, cs_i, cs_s, cs_t, cn_n, cn_b, cn_i, cn_s, cn_t, isT, reduceCtorEq, decide_true, decide_false, Bool.or_true, Bool.or_false, Bool.true_or, Bool.false_or, Bool.not_true, Bool.not_false, true_implies, Bool.true_eq_false, Bool.false_eq_true, not_true_eq_false, not_false_eq_true, false_implies, and_true, true_and, decide_eq_true_eq, forall_const, Option.map_some, Option.bind_some, List.length_cons, List.length_nil]
    refine (hD.b hB2 (by decide) (by decide)).mono fun d1 S3 ⟨r1, e, p1, p2, hB3, kp3, l3⟩ => ?_
    subst e
    refine ⟨by rw [sizeLine_eq]; decide, ?_⟩
    refine (hD.b hB3 (by decide) (by decide)).mono fun d1 S4 ⟨r2, e, p3, p4, hB4, kp4, l4⟩ => ?_
    subst e
    have kp24 := kp3.trans kp4
    obtain ⟨sz, hsz, z1, z2⟩ : ∃ sz : Int, idxD (.tup [.int 0, .int 1, .int 7, .int r1]) (.int r2) S4 = some (.int sz) ∧ 0 ≤ sz ∧ sz ≤ 7 := by
      have : r2 = 0 ∨ r2 = 1 ∨ r2 = 2 ∨ r2 = 3 := by omega
      rcases this with rfl | rfl | rfl | rfl
      · exact ⟨0, by simp only [o_ixT, at0], by decide, by decide⟩
      · exact ⟨1, by simp only [o_ixT, at1], by decide, by decide⟩
      · exact ⟨7, by simp only [o_ixT, at2], by decide, by decide⟩
      · exact ⟨r1, by simp only [o_ixT, at3], p1, by omega⟩
    have hF4 := kp24.get hF2 h5
    obtain ⟨s, rfl⟩ := Int.eq_ofNat_of_zero_le z1
    rw [o_ixT] at hsz
    simp only [wv_var, wv_cst, wv_bin, wv_neg, wv_cmp, wv_chn, wv_not, wv_and, wv_or, wv_ite, wv_idx, wv_slc, wv_tup, wv_lst, wv_dsp0, wv_dsp, wd_nil, wd_cons, wv_call, wv_callK, wv_blt, wv_mth, wv_isi, vp_turn, vp_turn2, ws_nil, ws_cons, wp_no, wp_yes, wt_val, wt_not, wt_and, wt_or, wo_yes, wo_one, wi_seq, wi_rng1, wi_rng2, wi_enm, rs_asg, rs_asgS, rs_aug, rs_augS, rs_exp, rs_ret, rs_retN, rs_ite, rs_for, rs_body, rs_whl, rs_brk, rs_cnt, rs_pas, rp_cons, rp_nil, seq_nx, seq_ret, seq_brk, seq_cnt, loop_nx, loop_ret, loop_brk, loop_cnt, wp_some, vp_some, vp_map, vp_gte, vp_gteP, gteP, o_ixT, o_ixP, o_ixK, i_lst, i_frz, i_dct, i_dctK, at0, at1, at2, at3, ix0, ix1, ix2, cast_pos, cast_ne, zero_cast, if_false, if_true, ite_false, ite_true, b_lenT, b_lenP, l_lst, l_frz, l_dct, b_abs, b_int, b_intB, b_tupT, b_tupP, b_lstT, b_lstP, b_srt, b_sum, b_any, b_all, b_max2, b_min2, b_lrg, o_add, o_sub, o_mul, o_fdv, o_mod, o_pow, o_cat, o_catS, o_catP, o_rep, n_int, bo_bl, in_int, c_lt, c_le, c_gt, c_ge, c_eq, c_ne, c_in, c_nin, e_ii, e_ss, e_bb, t_bl, t_int, t_tup, t_ptr, s_tup, s_ptr, m_app, m_pop, m_popAt, m_joinP, r_app, r_pop, r_popAt, r_join, a_add, a_sub, d_set, d_lst, d_dct, k_int, k_str, q_name, q_tup, q_nil, q_cons, p_z, p_s, g_z, g_s, f_nil, f_cons, z_n, z_b, z_i, z_s, z_t, cs_n, cs_b, cs_i, cs_s, cs_t, cn_n, cn_b, cn_i, cn_s, cn_t, isT, reduceCtorEq, decide_true, decide_false, Bool.or_true, Bool.or_false, Bool.true_or, Bool.false_or, Bool.not_true, Bool.not_false, true_implies, Bool.true_eq_false, Bool.false_eq_true, not_true_eq_false, not_false_eq_true, false_implies, and_true, true_and, decide_eq_true_eq, forall_const, Option.map_some, Option.bind_some, List.length_cons, List.length_nil, hsz, hF4, mut_get hF4, Option.isSome, signs_idx (show l < 36 by omega)]
    refine (chars_ok hD hB4 (by omega)).mono fun d5 S5 ⟨cs, e, hc5, hcl, hca, hB5, kp5⟩ => ?_
    subst e
    have hF5 := kp5.get hF4 h5
    simp only [wv_var, wv_cst, wv_bin, wv_neg, wv_cmp, wv_chn, wv_not, wv_and, wv_or, wv_ite, wv_idx, wv_slc, wv_tup, wv_lst, wv_dsp0, wv_dsp, wd_nil, wd_cons, wv_call, wv_callK, wv_blt, wv_mth, wv_isi, vp_turn, vp_turn2, ws_nil, ws_cons, wp_no, wp_yes, wt_val, wt_not, wt_and, wt_or, wo_yes, wo_one, wi_seq, wi_rng1, wi_rng2, wi_enm, rs_asg, rs_asgS, rs_aug, rs_augS, rs_exp, rs_ret, rs_retN, rs_ite, rs_for, rs_body, rs_whl, rs_brk, rs_cnt, rs_pas, rp_cons, rp_nil, seq_nx, seq_ret, seq_brk, seq_cnt, loop_nx, loop_ret, loop_brk, loop_cnt, wp_some, vp_some, vp_map, vp_gte, vp_gteP, gteP, o_ixT, o_ixP, o_ixK, i_lst, i_frz, i_dct, i_dctK, at0, at1, at2, at3, ix0, ix1, ix2, cast_pos, cast_ne, zero_cast, if_false, if_true, ite_false, ite_true, b_lenT, b_lenP, l_lst, l_frz, l_dct, b_abs, b_int, b_intB, b_tupT, b_tupP, b_lstT, b_lstP, b_srt, b_sum, b_any, b_all, b_max2, b_min2, b_lrg, o_add, o_sub, o_mul, o_fdv, o_mod, o_pow, o_cat, o_catS, o_catP, o_rep, n_int, bo_bl, in_int, c_lt, c_le, c_gt, c_ge, c_eq, c_ne, c_in, c_nin, e_ii, e_ss, e_bb, t_bl, t_int, t_tup, t_ptr, s_tup, s_ptr, m_app, m_pop, m_popAt, m_joinP, r_app, r_pop, r_popAt, r_join, a_add, a_sub, d_set, d_lst, d_dct, k_int, k_str, q_name, q_tup, q_nil, q_cons, p_z, p_s, g_z, g_s, f_nil, f_cons, z_n, z_b, z_i, z_s, z_t, cs_n, cs_b, cs_i, cs_s, cs_t, cn_n, cn_b, cn_i, cn_s, cn_t, isT, reduceCtorEq, decide_true, decide_false, Bool.or_true, Bool.or_false, Bool.true_or, Bool.false_or, Bool.not_true, Bool.not_false, true_implies, Bool.true_eq_false, Bool.false_eq_true, not_true_eq_false, not_false_eq_true, false_implies, and_true, true_and, decide_eq_true_eq, forall_const, Option.map_some, Option.bind_some, List.length_cons, List.length_nil, lst_get hc5, strs_chars, glue, sum_chars, mut_get hF5, word_cat]
    have hi' := (List.getElem?_eq_some_iff.mp hl2).1
    rw [List.length_take] at hi'
    refine ⟨by rw [List.length_map, empty_len]; omega, ?_, by rw [List.length_map, sizeLine_eq]; omega, xs ++ [code l :: cs], _, _, _, rfl, (get_set (get_lt hF5)).trans (by rw [List.map_append]; rfl), ?_, by rw [List.length_append, hl, List.length_singleton], fun x hx => ?_, ?_, hB5.set h5, ((kp2.trans kp24).trans kp5).set (.inl (Nat.le_refl _)), ?_⟩
    · show 1 + cs.toArray.size ≤ sizeLine
      rw [List.size_toArray, sizeLine_eq]
      omega
    · have kpT : lstOf S5 S1.length = lstOf S2 S1.length := by
        unfold lstOf
        rw [kp5.kp _ (by have := kp1.len; omega) (by have := kp24.len; omega), kp24.kp _ (by have := kp1.len; omega) hlt]
      unfold lstOf at kpT hT2 ⊢
      have ne : S.length ≠ S1.length := by
        have := kp.len
        rw [List.length_append, List.length_singleton] at this
        omega
      rw [List.getElem?_set_ne ne, kpT]
      exact hT2
    · rcases List.mem_append.mp hx with hx | hx
      · exact hw x hx
      · rw [List.mem_singleton.mp hx]
        refine ⟨by rw [List.length_cons]; omega, by rw [List.length_cons]; omega, fun c hc => ?_⟩
        rcases List.mem_cons.mp hc with rfl | hc
        · exact ⟨l, by omega, rfl⟩
        · exact hca c hc
    · rw [List.map_append, hh, List.take_add_one, hl2, List.map_append]
      rfl
    · have := kp24.len
      have := kp5.len
      rw [List.length_set]
      omega
  · rintro ρ S2 ⟨xs, x4, x5, x6, rfl, hF2, hT2, hl, hw, hh, hB2, kp2, hlt⟩
    simp only [wv_var, wv_cst, wv_bin, wv_neg, wv_cmp, wv_chn, wv_not, wv_and, wv_or, wv_ite, wv_idx, wv_slc, wv_tup, wv_lst, wv_dsp0, wv_dsp, wd_nil, wd_cons, wv_call, wv_callK, wv_blt, wv_mth, wv_isi, wv_lc, vp_turn, vp_turn2, ws_nil, ws_cons, wp_no, wp_yes, wt_val, wt_not, wt_and, wt_or, wo_yes, wo_one, wi_seq, wi_rng1, wi_rng2, wi_enm, rs_asg, rs_asgS, rs_aug, rs_augS, rs_exp, rs_ret, rs_retN, rs_ite, rs_for, rs_body, rs_whl, rs_brk, rs_cnt, rs_pas, rp_cons, rp_nil, seq_nx, seq_ret, seq_brk, seq_cnt, loop_nx, loop_ret, loop_brk, loop_cnt, wp_some, vp_some, vp_map, vp_gte, vp_gteP, gteP, o_ixT, o_ixP, o_ixK, i_lst, i_frz, i_dct, i_dctK, at0, at1, at2, at3, ix0, ix1, ix2, cast_pos, cast_ne, zero_cast, if_false, if_true, ite_false, ite_true, b_lenT, b_lenP, l_lst, l_frz, l_dct, b_abs, b_int, b_intB, b_tupT, b_tupP, b_lstT, b_lstP, b_srt, b_sum, b_any, b_all, b_max2, b_min2, b_lrg, o_add, o_sub, o_mul, o_fdv, o_mod, o_pow, o_cat, o_catS, o_catP, o_rep, n_int, bo_bl, in_int, c_lt, c_le, c_gt, c_ge, c_eq, c_ne, c_in, c_nin, e_ii, e_ss, e_bb, t_bl, t_int, t_tup, t_ptr, s_tup, s_ptr, m_app, m_pop, m_popAt, m_joinP, r_app, r_pop, r_popAt, r_join, a_add, a_sub, d_set, d_lst, d_dct, k_int, k_str, q_name, q_tup, q_nil, q_cons, p_z, p_s, g_z, g_s, f_nil, f_cons, z_n, z_b, z_i, z_s, z_t, cs_n, cs_b, cs_i, cs_s, cs_t, cn_n, cn_b, cn_i, cn_s, cn_t, isT, reduceCtorEq, decide_true, decide_false, Bool.or_true, Bool.or_false, Bool.true_or, Bool.false_or, Bool.not_true, Bool.not_false, true_implies, Bool.true_eq_false, Bool.false_eq_true, not_true_eq_false, not_false_eq_true, false_implies, and_true, true_and, decide_eq_true_eq, forall_const, Option.map_some, Option.bind_some, List.length_cons, List.length_nil]
    rw [List.length_map, List.length_take] at hl
    refine ⟨_, xs, rfl, Nat.le_refl _, hF2, by omega, hw, ?_, hB2, kp2⟩
    rw [hh, List.take_of_length_le (by rw [List.length_map]; exact Nat.le_refl _)]
    have nd : ls.Nodup := hp.symm.nodup List.nodup_range
    refine List.Pairwise.map _ ?_ ((nd.sublist (List.take_sublist n ls)).imp_of_mem (S := fun a b => a ≠ b ∧ a < 26 ∧ b < 26) fun ha hb h => ⟨h, ?_, ?_⟩)
    · rintro a b ⟨h1, h2, h3⟩ e
      simp only [Option.some.injEq, code, if_pos h2, if_pos h3] at e
      omega
    · simpa using hp.mem_iff.mp (List.mem_of_mem_take ha)
    · simpa using hp.mem_iff.mp (List.mem_of_mem_take hb)
def WordsC (C : CallT) (fw : Nat) : Prop := ∀ (n : Nat) (S : Sto), Bg S → n ≤ 26 → Wp (C fw [.ptr 4, .int n] S) fun d S' => ∃ (k : Nat) (xs : List (List Nat)), d = .ptr k ∧ S.length ≤ k ∧ S'[k]? = some (.lst (xs.map fun x => D.str ⟨x.toArray⟩)) ∧ xs.length = n ∧ (∀ x ∈ xs, WordL x) ∧ (xs.map (·.head?)).Nodup ∧ Bg S' ∧ Kp 5 S S'
theorem words_call {Φ : List Fn} {n fd fo fw : Nat} (hD : DrawC (run Φ W n) fd) (hO : OrderC (run Φ W n) fo) (hf : Φ[fw]? = some ⟨2, 7, wordsB fd fo⟩) : WordsC (run Φ W (n + 1)) fw := fun many S hb hn =>
  wp_run hf rfl ((words_ok hD hO hb hn).mono fun f ρ S' ⟨k, xs, e, h⟩ => by subst e; exact ⟨k, xs, rfl, h⟩)
end Mi

namespace Mi
open PySem L2
variable {C : CallT} {W : Nat}
/-! ### books as data -/
structure Mv where
  word : List Nat
  pours : List Int
  goal : Nat
structure Stg where
  own : Bool
  moves : List Mv
def dMv (m : Mv) : D := .tup [.str ⟨m.word.toArray⟩, .tup (m.pours.map D.int), .int (m.goal : Nat)]
def ownS (b : Bool) : Str := if b then "house" else "outside"
def dSt (s : Stg) : D := .tup [.str (ownS s.own), .tup (s.moves.map dMv)]
def dBook (t : Nat) (ss : List Stg) : D := .tup [.int (t : Nat), .tup (ss.map dSt)]
structure MvP (t many : Nat) (size : Int) (m : Mv) : Prop where
  goal : m.goal < many
  len : m.pours.length = t
  bnd : ∀ p ∈ m.pours, -size ≤ p ∧ p ≤ size
  word : WordL m.word
structure StP (t many most : Nat) (size : Int) (s : Stg) : Prop where
  len : s.moves.length ≤ most
  mv : ∀ m ∈ s.moves, MvP t many size m
  nd : (s.moves.map (·.word.head?)).Nodup
structure BookP (t many most : Nat) (size : Int) (ss : List Stg) : Prop where
  len : ss.length = many
  st : ∀ s ∈ ss, StP t many most size s
theorem kn_moves : (Sum.inr ("moves" : Str) : Key) ∈ keyNames := List.mem_of_getElem? (i := 0) rfl
theorem kn_pour : (Sum.inr ("pour" : Str) : Key) ∈ keyNames := List.mem_of_getElem? (i := 1) rfl
theorem kn_goal : (Sum.inr ("goal" : Str) : Key) ∈ keyNames := List.mem_of_getElem? (i := 2) rfl
theorem kn_owner : (Sum.inr ("owner" : Str) : Key) ∈ keyNames := List.mem_of_getElem? (i := 3) rfl
theorem kn_far : (Sum.inr ("far" : Str) : Key) ∈ keyNames := List.mem_of_getElem? (i := 4) rfl
theorem kn_gain : (Sum.inr ("gain" : Str) : Key) ∈ keyNames := List.mem_of_getElem? (i := 5) rfl
theorem kn_height : (Sum.inr ("height" : Str) : Key) ∈ keyNames := List.mem_of_getElem? (i := 6) rfl
theorem kn_level : (Sum.inr ("level" : Str) : Key) ∈ keyNames := List.mem_of_getElem? (i := 7) rfl
theorem kn_new : (Sum.inr ("new" : Str) : Key) ∈ keyNames := List.mem_of_getElem? (i := 8) rfl
theorem kn_number : (Sum.inr ("number" : Str) : Key) ∈ keyNames := List.mem_of_getElem? (i := 9) rfl
theorem kn_one : (Sum.inr ("one" : Str) : Key) ∈ keyNames := List.mem_of_getElem? (i := 10) rfl
theorem kn_other : (Sum.inr ("other" : Str) : Key) ∈ keyNames := List.mem_of_getElem? (i := 11) rfl
theorem kn_plan : (Sum.inr ("plan" : Str) : Key) ∈ keyNames := List.mem_of_getElem? (i := 12) rfl
theorem kn_ring : (Sum.inr ("ring" : Str) : Key) ∈ keyNames := List.mem_of_getElem? (i := 13) rfl
theorem kn_sign : (Sum.inr ("sign" : Str) : Key) ∈ keyNames := List.mem_of_getElem? (i := 14) rfl
theorem kn_size : (Sum.inr ("size" : Str) : Key) ∈ keyNames := List.mem_of_getElem? (i := 15) rfl
theorem kn_weight : (Sum.inr ("weight" : Str) : Key) ∈ keyNames := List.mem_of_getElem? (i := 16) rfl
theorem kn_words : (Sum.inr ("words" : Str) : Key) ∈ keyNames := List.mem_of_getElem? (i := 17) rfl
theorem pours_ok {fp t : Nat} {size : Int} {S : Sto} {a2 a3 a5 a6 a7 a8 a9 a10 a11 : Option D} (hP : PickC C fp) (hb : Bg S) (ht : t ≤ 1000) (hs : 0 ≤ size ∧ size < 2 ^ 28) :
    Wp (ev C (.lc (.bin .Sub (.call fp (.cons (.var i0) (.cons (.cst (.str ("pour" : PySem.Str))) (.cons (.bin .Add (.bin .Mult (.cst (.int 2)) (.var i4)) (.cst (.int 1))) .nil)))) (.var i4)) (.name i11) (.rng1 (.var i1)) .yes [i11])
      [some (.ptr 4), some (.int t), a2, a3, some (.int size), a5, a6, a7, a8, a9, a10, a11] S) fun d S' =>
      ∃ ps : List Int, d = .ptr S.length ∧ S'[S.length]? = some (.lst (ps.map D.int)) ∧ ps.length = t ∧ (∀ p ∈ ps, -size ≤ p ∧ p ≤ size) ∧ Bg S' ∧ Kp 5 S S' := by
  have h5 := hb.len
  simp only [wv_var, wv_cst, wv_bin, wv_neg, wv_cmp, wv_chn, wv_not, wv_and, wv_or, wv_ite, wv_idx, wv_slc, wv_tup, wv_lst, wv_dsp0, wv_dsp, wd_nil, wd_cons, wv_call, wv_callK, wv_blt, wv_mth, wv_isi, wv_lc, vp_turn, vp_turn2, ws_nil, ws_cons, wp_no, wp_yes, wt_val, wt_not, wt_and, wt_or, wo_yes, wo_one, wi_seq, wi_rng1, wi_rng2, wi_enm, rs_asg, rs_asgS, rs_aug, rs_augS, rs_exp, rs_ret, rs_retN, rs_ite, rs_for, rs_body, rs_whl, rs_brk, rs_cnt, rs_pas, rp_cons, rp_nil, seq_nx, seq_ret, seq_brk, seq_cnt, loop_nx, loop_ret, loop_brk, loop_cnt, wp_some, vp_some, vp_map, vp_gte, vp_gteP, gteP, o_ixT, o_ixP, o_ixK, i_lst, i_frz, i_dct, i_dctK, at0, at1, at2, at3, ix0, ix1, ix2, cast_pos, cast_ne, zero_cast, if_false, if_true, ite_false, ite_true, b_lenT, b_lenP, l_lst, l_frz, l_dct, b_abs, b_int, b_intB, b_tupT, b_tupP, b_lstT, b_lstP, b_srt, b_sum, b_any, b_all, b_max2, b_min2, b_lrg, o_add, o_sub, o_mul, o_fdv, o_mod, o_pow, o_cat, o_catS, o_catP, o_rep, n_int, bo_bl, in_int, c_lt, c_le, c_gt, c_ge, c_eq, c_ne, c_in, c_nin, e_ii, e_ss, e_bb, t_bl, t_int, t_tup, t_ptr, s_tup, s_ptr, m_app, m_pop, m_popAt, m_joinP, r_app, r_pop, r_popAt, r_join, a_add, a_sub, d_set, d_lst, d_dct, k_int, k_str, q_name, q_tup, q_nil, q_cons, p_z, p_s, g_z, g_s, f_nil, f_cons, z_n, z_b, z_i, z_s, z_t, cs_n, cs_b, cs_i, cs_s, cs_t, cn_n, cn_b, cn_i, cn_s, cn_t, isT, reduceCtorEq, decide_true, decide_false, Bool.or_true, Bool.or_false, Bool.true_or, Bool.false_or, Bool.not_true, Bool.not_false, true_implies, Bool.true_eq_false, Bool.false_eq_true, not_true_eq_false, not_false_eq_true, false_implies, and_true, true_and, decide_eq_true_eq, forall_const, Option.map_some, Option.bind_some, List.length_cons, List.length_nil, cntI]
  refine ⟨⟨by omega, by omega⟩, ?_⟩
  refine vp_loop ((List.range t).map fun k => D.int (0 + (k : Nat))) (fun i S1 => ∃ ps : List Int, S1[S.length]? = some (.lst (ps.map D.int)) ∧ ps.length = i ∧ (∀ p ∈ ps, -size ≤ p ∧ p ≤ size) ∧ Bg S1 ∧ Kp 5 S S1)
    (fun _ _ _ _ => itm_rng) ?_ ?_ _ 0 _ ⟨[], get_new, rfl, by simp, hb.app, Kp.refl.app⟩ (Nat.zero_le _) (by simp)
  · rintro i d S1 hi ⟨ps, hL, hl, ha, hB, kp⟩
    have hi' : i < t := by
      have := (List.getElem?_eq_some_iff.mp hi).1
      simpa using this
    have m1 : mulOk 2 size = true := by simp [mulOk]
    simp only [wv_var, wv_cst, wv_bin, wv_neg, wv_cmp, wv_chn, wv_not, wv_and, wv_or, wv_ite, wv_idx, wv_slc, wv_tup, wv_lst, wv_dsp0, wv_dsp, wd_nil, wd_cons, wv_call, wv_callK, wv_blt, wv_mth, wv_isi, wv_lc, vp_turn, vp_turn2, ws_nil, ws_cons, wp_no, wp_yes, wt_val, wt_not, wt_and, wt_or, wo_yes, wo_one, wi_seq, wi_rng1, wi_rng2, wi_enm, rs_asg, rs_asgS, rs_aug, rs_augS, rs_exp, rs_ret, rs_retN, rs_ite, rs_for, rs_body, rs_whl, rs_brk, rs_cnt, rs_pas, rp_cons, rp_nil, seq_nx, seq_ret, seq_brk, seq_cnt, loop_nx, loop_ret, loop_brk, loop_cnt, wp_some, vp_some, vp_map, vp_gte, vp_gteP, gteP, o_ixT, o_ixP, o_ixK, i_lst, i_frz, i_dct, i_dctK, at0, at1, at2, at3, ix0, ix1, ix2, cast_pos, cast_ne, zero_cast, if_false, if_true, ite_false, ite_true, b_lenT, b_lenP, l_lst, l_frz, l_dct, b_abs, b_int, b_intB, b_tupT, b_tupP, b_lstT, b_lstP, b_srt, b_sum, b_any, b_all, b_max2, b_min2, b_lrg, o_add, o_sub, o_mul, o_fdv, o_mod, o_pow, o_cat, o_catS, o_catP, o_rep, n_int, bo_bl, in_int, c_lt, c_le, c_gt, c_ge, c_eq, c_ne, c_in, c_nin, e_ii, e_ss, e_bb, t_bl, t_int, t_tup, t_ptr, s_tup, s_ptr, m_app, m_pop, m_popAt, m_joinP, r_app, r_pop, r_popAt, r_join, a_add, a_sub, d_set, d_lst, d_dct, k_int, k_str, q_name, q_tup, q_nil, q_cons, p_z, p_s, g_z, g_s, f_nil, f_cons, z_n, z_b, z_i, z_s, z_t, cs_n, cs_b, cs_i, cs_s, cs_t, cn_n, cn_b, cn_i, cn_s, cn_t, isT, reduceCtorEq, decide_true, decide_false, Bool.or_true, Bool.or_false, Bool.true_or, Bool.false_or, Bool.not_true, Bool.not_false, true_implies, Bool.true_eq_false, Bool.false_eq_true, not_true_eq_false, not_false_eq_true, false_implies, and_true, true_and, decide_eq_true_eq, forall_const, Option.map_some, Option.bind_some, List.length_cons, List.length_nil, m1]
    refine (hP _ _ _ hB kn_pour (by omega) (by omega)).mono fun d1 S2 ⟨r, e, p1, p2, hB2, kp2, l2⟩ => ?_
    subst e
    have hL2 := kp2.get hL h5
    simp only [wv_var, wv_cst, wv_bin, wv_neg, wv_cmp, wv_chn, wv_not, wv_and, wv_or, wv_ite, wv_idx, wv_slc, wv_tup, wv_lst, wv_dsp0, wv_dsp, wd_nil, wd_cons, wv_call, wv_callK, wv_blt, wv_mth, wv_isi, wv_lc, vp_turn, vp_turn2, ws_nil, ws_cons, wp_no, wp_yes, wt_val, wt_not, wt_and, wt_or, wo_yes, wo_one, wi_seq, wi_rng1, wi_rng2, wi_enm, rs_asg, rs_asgS, rs_aug, rs_augS, rs_exp, rs_ret, rs_retN, rs_ite, rs_for, rs_body, rs_whl, rs_brk, rs_cnt, rs_pas, rp_cons, rp_nil, seq_nx, seq_ret, seq_brk, seq_cnt, loop_nx, loop_ret, loop_brk, loop_cnt, wp_some, vp_some, vp_map, vp_gte, vp_gteP, gteP, o_ixT, o_ixP, o_ixK, i_lst, i_frz, i_dct, i_dctK, at0, at1, at2, at3, ix0, ix1, ix2, cast_pos, cast_ne, zero_cast, if_false, if_true, ite_false, ite_true, b_lenT, b_lenP, l_lst, l_frz, l_dct, b_abs, b_int, b_intB, b_tupT, b_tupP, b_lstT, b_lstP, b_srt, b_sum, b_any, b_all, b_max2, b_min2, b_lrg, o_add, o_sub, o_mul, o_fdv, o_mod, o_pow, o_cat, o_catS, o_catP, o_rep, n_int, bo_bl, in_int, c_lt, c_le, c_gt, c_ge, c_eq, c_ne, c_in, c_nin, e_ii, e_ss, e_bb, t_bl, t_int, t_tup, t_ptr, s_tup, s_ptr, m_app, m_pop, m_popAt, m_joinP, r_app, r_pop, r_popAt, r_join, a_add, a_sub, d_set, d_lst, d_dct, k_int, k_str, q_name, q_tup, q_nil, q_cons, p_z, p_s, g_z, g_s, f_nil, f_cons, z_n, z_b, z_i, z_s, z_t, cs_n, cs_b, cs_i, cs_s, cs_t, cn_n, cn_b, cn_i, cn_s, cn_t, isT, reduceCtorEq, decide_true, decide_false, Bool.or_true, Bool.or_false, Bool.true_or, Bool.false_or, Bool.not_true, Bool.not_false, true_implies, Bool.true_eq_false, Bool.false_eq_true, not_true_eq_false, not_false_eq_true, false_implies, and_true, true_and, decide_eq_true_eq, forall_const, Option.map_some, Option.bind_some, List.length_cons, List.length_nil, lcApp, mut_get hL2]
    refine ⟨by rw [List.length_map, sizeLine_eq]; omega, ps ++ [r - size], ?_, by rw [List.length_append, hl, List.length_singleton], fun c hc => ?_, hB2.set h5, (kp.trans kp2).set (.inl (Nat.le_refl _))⟩
    · rw [get_set (get_lt hL2), List.map_append]
      rfl
    · rcases List.mem_append.mp hc with hc | hc
      · exact ha c hc
      · rw [List.mem_singleton.mp hc]
        omega
  · rintro S1 ⟨ps, hL, hl, ha, hB, kp⟩
    rw [List.length_map, List.length_range] at hl
    exact ⟨ps, hL, hl, ha, hB, kp⟩
theorem book_ok {fw fp t many most : Nat} {size : Int} {S : Sto} (hP : PickC C fp) (hWd : WordsC C fw) (hb : Bg S) (ht : t ≤ 1000) (hm : 0 < many ∧ many ≤ 100000) (hmo : most ≤ 25) (hs : 0 ≤ size ∧ size < 2 ^ 28) :
    RP (exs C W (bookB fw fp) (bgn 12 [.ptr 4, .int t, .int many, .int most, .int size]) S) fun f _ S' => ∃ ss, f = .ret (dBook t ss) ∧ BookP t many most size ss ∧ Bg S' ∧ Kp 5 S S' := by
  unfold bookB
  have h5 := hb.len
  have b0 : bgn 12 [.ptr 4, .int t, .int many, .int most, .int size] = [some (.ptr 4), some (.int t), some (.int many), some (.int most), some (.int size), none, none, none, none, none, none, none] := rfl
  simp only [wv_var, wv_cst, wv_bin, wv_neg, wv_cmp, wv_chn, wv_not, wv_and, wv_or, wv_ite, wv_idx, wv_slc, wv_tup, wv_lst, wv_dsp0, wv_dsp, wd_nil, wd_cons, wv_call, wv_callK, wv_blt, wv_mth, wv_isi, vp_turn, vp_turn2, ws_nil, ws_cons, wp_no, wp_yes, wt_val, wt_not, wt_and, wt_or, wo_yes, wo_one, wi_seq, wi_rng1, wi_rng2, wi_enm, rs_asg, rs_asgS, rs_aug, rs_augS, rs_exp, rs_ret, rs_retN, rs_ite, rs_for, rs_body, rs_whl, rs_brk, rs_cnt, rs_pas, rp_cons, rp_nil, seq_nx, seq_ret, seq_brk, seq_cnt, loop_nx, loop_ret, loop_brk, loop_cnt, wp_some, vp_some, vp_map, vp_gte, vp_gteP, gteP, o_ixT, o_ixP, o_ixK, i_lst, i_frz, i_dct, i_dctK, at0, at1, at2, at3, ix0, ix1, ix2, cast_pos, cast_ne, zero_cast, if_false, if_true, ite_false, ite_true, b_lenT, b_lenP, l_lst, l_frz, l_dct, b_abs, b_int, b_intB, b_tupT, b_tupP, b_lstT, b_lstP, b_srt, b_sum, b_any, b_all, b_max2, b_min2, b_lrg, o_add, o_sub, o_mul, o_fdv, o_mod, o_pow, o_cat, o_catS, o_catP, o_rep, n_int, bo_bl, in_int, c_lt, c_le, c_gt, c_ge, c_eq, c_ne, c_in, c_nin, e_ii, e_ss, e_bb, t_bl, t_int, t_tup, t_ptr, s_tup, s_ptr, m_app, m_pop, m_popAt, m_joinP, r_app, r_pop, r_popAt, r_join, a_add, a_sub, d_set, d_lst, d_dct, k_int, k_str, q_name, q_tup, q_nil, q_cons, p_z, p_s, g_z, g_s, f_nil, f_cons, z_n, z_b, z_i, z_s, z_t, cs_n, cs_b, cs_i, cs_s, cs_t, cn_n, cn_b, cn_i, cn_s, cn_t, isT, reduceCtorEq, decide_true, decide_false, Bool.or_true, Bool.or_false, Bool.true_or, Bool.false_or, Bool.not_true, Bool.not_false, true_implies, Bool.true_eq_false, Bool.false_eq_true, not_true_eq_false, not_false_eq_true, false_implies, and_true, true_and, decide_eq_true_eq, forall_const, Option.map_some, Option.bind_some, List.length_cons, List.length_nil, b0, cntI]
  refine ⟨by rw [sizeLine_eq]; decide, ⟨by omega, by omega⟩, ?_⟩
  refine rp_for ((List.range many).map fun k => D.int (0 + (k : Nat))) (fun i ρ S1 => ∃ (ss : List Stg) (x6 x7 x8 x9 x10 x11 : Option D), ρ = [some (.ptr 4), some (.int t), some (.int many), some (.int most), some (.int size), some (.ptr S.length), x6, x7, x8, x9, x10, x11] ∧ S1[S.length]? = some (.lst (ss.map dSt)) ∧ ss.length = i ∧ (∀ s ∈ ss, StP t many most size s) ∧ Bg S1 ∧ Kp 5 S S1)
    (fun _ _ _ _ _ => itm_rng) ?_ ?_ _ 0 _ _ ⟨[], _, _, _, _, _, _, rfl, get_new, rfl, by simp, hb.app, Kp.refl.app⟩ (Nat.zero_le _) (by simp)
  · rintro i d ρ S1 hi ⟨ss, x6, x7, x8, x9, x10, x11, rfl, hF, hl, ha, hB, kp⟩
    have hi' : i < many := by
      have := (List.getElem?_eq_some_iff.mp hi).1
      simpa using this
    simp only [wv_var, wv_cst, wv_bin, wv_neg, wv_cmp, wv_chn, wv_not, wv_and, wv_or, wv_ite, wv_idx, wv_slc, wv_tup, wv_lst, wv_dsp0, wv_dsp, wd_nil, wd_cons, wv_call, wv_callK, wv_blt, wv_mth, wv_isi, vp_turn, vp_turn2, ws_nil, ws_cons, wp_no, wp_yes, wt_val, wt_not, wt_and, wt_or, wo_yes, wo_one, wi_seq, wi_rng1, wi_rng2, wi_enm, rs_asg, rs_asgS, rs_aug, rs_augS, rs_exp, rs_ret, rs_retN, rs_ite, rs_for, rs_body, rs_whl, rs_brk, rs_cnt, rs_pas, rp_cons, rp_nil, seq_nx, seq_ret, seq_brk, seq_cnt, loop_nx, loop_ret, loop_brk, loop_cnt, wp_some, vp_some, vp_map, vp_gte, vp_gteP, gteP, o_ixT, o_ixP, o_ixK, i_lst, i_frz, i_dct, i_dctK, at0, at1, at2, at3, ix0, ix1, ix2, cast_pos, cast_ne, zero_cast, if_false, if_true, ite_false, ite_true, b_lenT, b_lenP, l_lst, l_frz, l_dct, b_abs, b_int, b_intB, b_tupT, b_tupP, b_lstT, b_lstP, b_srt, b_sum, b_any, b_all, b_max2, b_min2, b_lrg, o_add, o_sub, o_mul, o_fdv, o_mod, o_pow, o_cat, o_catS, o_catP, o_rep, n_int, bo_bl, in_int, c_lt, c_le, c_gt, c_ge, c_eq, c_ne, c_in, c_nin, e_ii, e_ss, e_bb, t_bl, t_int, t_tup, t_ptr, s_tup, s_ptr, m_app, m_pop, m_popAt, m_joinP, r_app, r_pop, r_popAt, r_join, a_add, a_sub, d_set, d_lst, d_dct, k_int, k_str, q_name, q_tup, q_nil, q_cons, p_z, p_s, g_z, g_s, f_nil, f_cons, z_n, z_b, z_i, z_s, z_t, cs_n, cs_b, cs_i, cs_s, cs_t, cn_n, cn_b, cn_i, cn_s, cn_t, isT, reduceCtorEq, decide_true, decide_false, Bool.or_true, Bool.or_false, Bool.true_or, Bool.false_or, Bool.not_true, Bool.not_false, true_implies, Bool.true_eq_false, Bool.false_eq_true, not_true_eq_false, not_false_eq_true, false_implies, and_true, true_and, decide_eq_true_eq, forall_const, Option.map_some, Option.bind_some, List.length_cons, List.length_nil]
    refine (hP _ _ _ hB kn_moves (by omega) (by omega)).mono fun d1 S2 ⟨r, e, p1, p2, hB2, kp2, l2⟩ => ?_
    subst e
    obtain ⟨nw, rfl⟩ := Int.eq_ofNat_of_zero_le p1
    refine (hWd nw S2 hB2 (by omega)).mono fun d1 S3 ⟨kw, ws, e, hk, hw, hwl, hww, hwn, hB3, kp3⟩ => ?_
    subst e
    have hF3 := kp3.get (kp2.get hF h5) h5
    have hS := get_lt hF3
    have hkw5 : 5 ≤ kw := Nat.le_trans hB2.len hk
    have h53 := hB3.len
    simp only [wv_var, wv_cst, wv_bin, wv_neg, wv_cmp, wv_chn, wv_not, wv_and, wv_or, wv_ite, wv_idx, wv_slc, wv_tup, wv_lst, wv_dsp0, wv_dsp, wd_nil, wd_cons, wv_call, wv_callK, wv_blt, wv_mth, wv_isi, vp_turn, vp_turn2, ws_nil, ws_cons, wp_no, wp_yes, wt_val, wt_not, wt_and, wt_or, wo_yes, wo_one, wi_seq, wi_rng1, wi_rng2, wi_enm, rs_asg, rs_asgS, rs_aug, rs_augS, rs_exp, rs_ret, rs_retN, rs_ite, rs_for, rs_body, rs_whl, rs_brk, rs_cnt, rs_pas, rp_cons, rp_nil, seq_nx, seq_ret, seq_brk, seq_cnt, loop_nx, loop_ret, loop_brk, loop_cnt, wp_some, vp_some, vp_map, vp_gte, vp_gteP, gteP, o_ixT, o_ixP, o_ixK, i_lst, i_frz, i_dct, i_dctK, at0, at1, at2, at3, ix0, ix1, ix2, cast_pos, cast_ne, zero_cast, if_false, if_true, ite_false, ite_true, b_lenT, b_lenP, l_lst, l_frz, l_dct, b_abs, b_int, b_intB, b_tupT, b_tupP, b_lstT, b_lstP, b_srt, b_sum, b_any, b_all, b_max2, b_min2, b_lrg, o_add, o_sub, o_mul, o_fdv, o_mod, o_pow, o_cat, o_catS, o_catP, o_rep, n_int, bo_bl, in_int, c_lt, c_le, c_gt, c_ge, c_eq, c_ne, c_in, c_nin, e_ii, e_ss, e_bb, t_bl, t_int, t_tup, t_ptr, s_tup, s_ptr, m_app, m_pop, m_popAt, m_joinP, r_app, r_pop, r_popAt, r_join, a_add, a_sub, d_set, d_lst, d_dct, k_int, k_str, q_name, q_tup, q_nil, q_cons, p_z, p_s, g_z, g_s, f_nil, f_cons, z_n, z_b, z_i, z_s, z_t, cs_n, cs_b, cs_i, cs_s, cs_t, cn_n, cn_b, cn_i, cn_s, cn_t, isT, reduceCtorEq, decide_true, decide_false, Bool.or_true, Bool.or_false, Bool.true_or, Bool.false_or, Bool.not_true, Bool.not_false, true_implies, Bool.true_eq_false, Bool.false_eq_true, not_true_eq_false, not_false_eq_true, false_implies, and_true, true_and, decide_eq_true_eq, forall_const, Option.map_some, Option.bind_some, List.length_cons, List.length_nil, cntI, seqI, lst_get (get_app hw), Option.getD_some]
    refine ⟨by rw [sizeLine_eq]; decide, ?_⟩
    refine rp_for (ws.map fun x => D.str ⟨x.toArray⟩) (fun j ρ S4 => ∃ (ms : List Mv) (x9 x10 x11 : Option D), ρ = [some (.ptr 4), some (.int t), some (.int many), some (.int most), some (.int size), some (.ptr S.length), some d, some (.ptr kw), some (.ptr S3.length), x9, x10, x11] ∧ S4[S3.length]? = some (.lst (ms.map dMv)) ∧ S4[kw]? = some (.lst (ws.map fun x => D.str ⟨x.toArray⟩)) ∧ ms.length = j ∧ ms.map (·.word) = ws.take j ∧ (∀ m ∈ ms, MvP t many size m) ∧ Bg S4 ∧ Kp 5 S3 S4)
      ?_ ?_ ?_ _ 0 _ _ ⟨[], _, _, _, rfl, get_new, get_app hw, rfl, rfl, by simp, hB3.app, Kp.refl.app⟩ (Nat.zero_le _) (by simp)
    · rintro j ρ S4 _ ⟨ms, y9, y10, y11, rfl, _, h, _⟩
      simp only [itm, lst_get h, Option.map_some]
    · rintro j dw ρ S4 hj ⟨ms, y9, y10, y11, rfl, hM, hK, hml, hmw, hmm, hB4, kp4⟩
      rw [List.getElem?_map] at hj
      obtain ⟨w, hw1, rfl⟩ := map_some hj
      have hj' := (List.getElem?_eq_some_iff.mp hw1).1
      simp only [wv_var, wv_cst, wv_bin, wv_neg, wv_cmp, wv_chn, wv_not, wv_and, wv_or, wv_ite, wv_idx, wv_slc, wv_tup, wv_lst, wv_dsp0, wv_dsp, wd_nil, wd_cons, wv_call, wv_callK, wv_blt, wv_mth, wv_isi, vp_turn, vp_turn2, ws_nil, ws_cons, wp_no, wp_yes, wt_val, wt_not, wt_and, wt_or, wo_yes, wo_one, wi_seq, wi_rng1, wi_rng2, wi_enm, rs_asg, rs_asgS, rs_aug, rs_augS, rs_exp, rs_ret, rs_retN, rs_ite, rs_for, rs_body, rs_whl, rs_brk, rs_cnt, rs_pas, rp_cons, rp_nil, seq_nx, seq_ret, seq_brk, seq_cnt, loop_nx, loop_ret, loop_brk, loop_cnt, wp_some, vp_some, vp_map, vp_gte, vp_gteP, gteP, o_ixT, o_ixP, o_ixK, i_lst, i_frz, i_dct, i_dctK, at0, at1, at2, at3, ix0, ix1, ix2, cast_pos, cast_ne, zero_cast, if_false, if_true, ite_false, ite_true, b_lenT, b_lenP, l_lst, l_frz, l_dct, b_abs, b_int, b_intB, b_tupT, b_tupP, b_lstT, b_lstP, b_srt, b_sum, b_any, b_all, b_max2, b_min2, b_lrg, o_add, o_sub, o_mul, o_fdv, o_mod, o_pow, o_cat, o_catS, o_catP, o_rep, n_int, bo_bl, in_int, c_lt, c_le, c_gt, c_ge, c_eq, c_ne, c_in, c_nin, e_ii, e_ss, e_bb, t_bl, t_int, t_tup, t_ptr, s_tup, s_ptr, m_app, m_pop, m_popAt, m_joinP, r_app, r_pop, r_popAt, r_join, a_add, a_sub, d_set, d_lst, d_dct, k_int, k_str, q_name, q_tup, q_nil, q_cons, p_z, p_s, g_z, g_s, f_nil, f_cons, z_n, z_b, z_i, z_s, z_t, cs_n, cs_b, cs_i, cs_s, cs_t, cn_n, cn_b, cn_i, cn_s, cn_t, isT, reduceCtorEq, decide_true, decide_false, Bool.or_true, Bool.or_false, Bool.true_or, Bool.false_or, Bool.not_true, Bool.not_false, true_implies, Bool.true_eq_false, Bool.false_eq_true, not_true_eq_false, not_false_eq_true, false_implies, and_true, true_and, decide_eq_true_eq, forall_const, Option.map_some, Option.bind_some, List.length_cons, List.length_nil]
      refine (pours_ok hP hB4 ht hs).mono fun d5 S5 ⟨ps, e, hps, hpl, hpb, hB5, kp5⟩ => ?_
      subst e
      have hM5 := kp5.get hM h53
      have hK5 := kp5.get hK (by omega)
      simp only [wv_var, wv_cst, wv_bin, wv_neg, wv_cmp, wv_chn, wv_not, wv_and, wv_or, wv_ite, wv_idx, wv_slc, wv_tup, wv_lst, wv_dsp0, wv_dsp, wd_nil, wd_cons, wv_call, wv_callK, wv_blt, wv_mth, wv_isi, vp_turn, vp_turn2, ws_nil, ws_cons, wp_no, wp_yes, wt_val, wt_not, wt_and, wt_or, wo_yes, wo_one, wi_seq, wi_rng1, wi_rng2, wi_enm, rs_asg, rs_asgS, rs_aug, rs_augS, rs_exp, rs_ret, rs_retN, rs_ite, rs_for, rs_body, rs_whl, rs_brk, rs_cnt, rs_pas, rp_cons, rp_nil, seq_nx, seq_ret, seq_brk, seq_cnt, loop_nx, loop_ret, loop_brk, loop_cnt, wp_some, vp_some, vp_map, vp_gte, vp_gteP, gteP, o_ixT, o_ixP, o_ixK, i_lst, i_frz, i_dct, i_dctK, at0, at1, at2, at3, ix0, ix1, ix2, cast_pos, cast_ne, zero_cast, if_false, if_true, ite_false, ite_true, b_lenT, b_lenP, l_lst, l_frz, l_dct, b_abs, b_int, b_intB, b_tupT, b_tupP, b_lstT, b_lstP, b_srt, b_sum, b_any, b_all, b_max2, b_min2, b_lrg, o_add, o_sub, o_mul, o_fdv, o_mod, o_pow, o_cat, o_catS, o_catP, o_rep, n_int, bo_bl, in_int, c_lt, c_le, c_gt, c_ge, c_eq, c_ne, c_in, c_nin, e_ii, e_ss, e_bb, t_bl, t_int, t_tup, t_ptr, s_tup, s_ptr, m_app, m_pop, m_popAt, m_joinP, r_app, r_pop, r_popAt, r_join, a_add, a_sub, d_set, d_lst, d_dct, k_int, k_str, q_name, q_tup, q_nil, q_cons, p_z, p_s, g_z, g_s, f_nil, f_cons, z_n, z_b, z_i, z_s, z_t, cs_n, cs_b, cs_i, cs_s, cs_t, cn_n, cn_b, cn_i, cn_s, cn_t, isT, reduceCtorEq, decide_true, decide_false, Bool.or_true, Bool.or_false, Bool.true_or, Bool.false_or, Bool.not_true, Bool.not_false, true_implies, Bool.true_eq_false, Bool.false_eq_true, not_true_eq_false, not_false_eq_true, false_implies, and_true, true_and, decide_eq_true_eq, forall_const, Option.map_some, Option.bind_some, List.length_cons, List.length_nil, lst_get hps, mut_get hM5, Option.isSome]
      refine (hP _ _ _ hB5 kn_goal (by omega) (by omega)).mono fun d6 S6 ⟨g, e, g1, g2, hB6, kp6, l6⟩ => ?_
      subst e
      obtain ⟨gn, rfl⟩ := Int.eq_ofNat_of_zero_le g1
      have hM6 := kp6.get hM5 h53
      have hK6 := kp6.get hK5 (by omega)
      have hkw := get_lt hw
      simp only [wv_var, wv_cst, wv_bin, wv_neg, wv_cmp, wv_chn, wv_not, wv_and, wv_or, wv_ite, wv_idx, wv_slc, wv_tup, wv_lst, wv_dsp0, wv_dsp, wd_nil, wd_cons, wv_call, wv_callK, wv_blt, wv_mth, wv_isi, vp_turn, vp_turn2, ws_nil, ws_cons, wp_no, wp_yes, wt_val, wt_not, wt_and, wt_or, wo_yes, wo_one, wi_seq, wi_rng1, wi_rng2, wi_enm, rs_asg, rs_asgS, rs_aug, rs_augS, rs_exp, rs_ret, rs_retN, rs_ite, rs_for, rs_body, rs_whl, rs_brk, rs_cnt, rs_pas, rp_cons, rp_nil, seq_nx, seq_ret, seq_brk, seq_cnt, loop_nx, loop_ret, loop_brk, loop_cnt, wp_some, vp_some, vp_map, vp_gte, vp_gteP, gteP, o_ixT, o_ixP, o_ixK, i_lst, i_frz, i_dct, i_dctK, at0, at1, at2, at3, ix0, ix1, ix2, cast_pos, cast_ne, zero_cast, if_false, if_true, ite_false, ite_true, b_lenT, b_lenP, l_lst, l_frz, l_dct, b_abs, b_int, b_intB, b_tupT, b_tupP, b_lstT, b_lstP, b_srt, b_sum, b_any, b_all, b_max2, b_min2, b_lrg, o_add, o_sub, o_mul, o_fdv, o_mod, o_pow, o_cat, o_catS, o_catP, o_rep, n_int, bo_bl, in_int, c_lt, c_le, c_gt, c_ge, c_eq, c_ne, c_in, c_nin, e_ii, e_ss, e_bb, t_bl, t_int, t_tup, t_ptr, s_tup, s_ptr, m_app, m_pop, m_popAt, m_joinP, r_app, r_pop, r_popAt, r_join, a_add, a_sub, d_set, d_lst, d_dct, k_int, k_str, q_name, q_tup, q_nil, q_cons, p_z, p_s, g_z, g_s, f_nil, f_cons, z_n, z_b, z_i, z_s, z_t, cs_n, cs_b, cs_i, cs_s, cs_t, cn_n, cn_b, cn_i, cn_s, cn_t, isT, reduceCtorEq, decide_true, decide_false, Bool.or_true, Bool.or_false, Bool.true_or, Bool.false_or, Bool.not_true, Bool.not_false, true_implies, Bool.true_eq_false, Bool.false_eq_true, not_true_eq_false, not_false_eq_true, false_implies, and_true, true_and, decide_eq_true_eq, forall_const, Option.map_some, Option.bind_some, List.length_cons, List.length_nil, mut_get hM6]
      refine ⟨by rw [sizeLine_eq]; decide, by rw [List.length_map, sizeLine_eq]; omega, ms ++ [⟨w, ps, gn⟩], _, _, _, rfl, (get_set (get_lt hM6)).trans (by rw [List.map_append]; rfl), get_set_ne hK6 (by omega), by rw [List.length_append, hml, List.length_singleton], ?_, fun m hm => ?_, hB6.set h53, ((kp4.trans kp5).trans kp6).set (.inl (Nat.le_refl _))⟩
      · rw [List.map_append, hmw, List.take_add_one, hw1]
        rfl
      · rcases List.mem_append.mp hm with hm | hm
        · exact hmm m hm
        · rw [List.mem_singleton.mp hm]
          exact ⟨by show gn < many; omega, hpl, hpb, hww w (List.mem_of_getElem? hw1)⟩
    · rintro ρ S4 ⟨ms, y9, y10, y11, rfl, hM, hK, hml, hmw, hmm, hB4, kp4⟩
      rw [List.length_map] at hml hmw
      rw [List.take_of_length_le (Nat.le_refl _)] at hmw
      have hF4 := kp4.get hF3 h5
      simp only [wv_var, wv_cst, wv_bin, wv_neg, wv_cmp, wv_chn, wv_not, wv_and, wv_or, wv_ite, wv_idx, wv_slc, wv_tup, wv_lst, wv_dsp0, wv_dsp, wd_nil, wd_cons, wv_call, wv_callK, wv_blt, wv_mth, wv_isi, vp_turn, vp_turn2, ws_nil, ws_cons, wp_no, wp_yes, wt_val, wt_not, wt_and, wt_or, wo_yes, wo_one, wi_seq, wi_rng1, wi_rng2, wi_enm, rs_asg, rs_asgS, rs_aug, rs_augS, rs_exp, rs_ret, rs_retN, rs_ite, rs_for, rs_body, rs_whl, rs_brk, rs_cnt, rs_pas, rp_cons, rp_nil, seq_nx, seq_ret, seq_brk, seq_cnt, loop_nx, loop_ret, loop_brk, loop_cnt, wp_some, vp_some, vp_map, vp_gte, vp_gteP, gteP, o_ixT, o_ixP, o_ixK, i_lst, i_frz, i_dct, i_dctK, at0, at1, at2, at3, ix0, ix1, ix2, cast_pos, cast_ne, zero_cast, if_false, if_true, ite_false, ite_true, b_lenT, b_lenP, l_lst, l_frz, l_dct, b_abs, b_int, b_intB, b_tupT, b_tupP, b_lstT, b_lstP, b_srt, b_sum, b_any, b_all, b_max2, b_min2, b_lrg, o_add, o_sub, o_mul, o_fdv, o_mod, o_pow, o_cat, o_catS, o_catP, o_rep, n_int, bo_bl, in_int, c_lt, c_le, c_gt, c_ge, c_eq, c_ne, c_in, c_nin, e_ii, e_ss, e_bb, t_bl, t_int, t_tup, t_ptr, s_tup, s_ptr, m_app, m_pop, m_popAt, m_joinP, r_app, r_pop, r_popAt, r_join, a_add, a_sub, d_set, d_lst, d_dct, k_int, k_str, q_name, q_tup, q_nil, q_cons, p_z, p_s, g_z, g_s, f_nil, f_cons, z_n, z_b, z_i, z_s, z_t, cs_n, cs_b, cs_i, cs_s, cs_t, cn_n, cn_b, cn_i, cn_s, cn_t, isT, reduceCtorEq, decide_true, decide_false, Bool.or_true, Bool.or_false, Bool.true_or, Bool.false_or, Bool.not_true, Bool.not_false, true_implies, Bool.true_eq_false, Bool.false_eq_true, not_true_eq_false, not_false_eq_true, false_implies, and_true, true_and, decide_eq_true_eq, forall_const, Option.map_some, Option.bind_some, List.length_cons, List.length_nil, mut_get hF4, Option.isSome]
      refine ⟨by rw [sizeLine_eq]; decide, ?_⟩
      refine (hP _ _ _ hB4 kn_owner (by omega) (by omega)).mono fun d6 S6 ⟨g, e, g1, g2, hB6, kp6, l6⟩ => ?_
      subst e
      obtain ⟨b, hb1⟩ : ∃ b : Bool, atI [D.str ("outside" : Str), D.str ("house" : Str)] g = some (.str (ownS b)) := by
        have : g = 0 ∨ g = 1 := by omega
        rcases this with rfl | rfl
        · exact ⟨false, at0⟩
        · exact ⟨true, at1⟩
      have hM6 := kp6.get hM h53
      have hF6 := kp6.get hF4 h5
      simp only [wv_var, wv_cst, wv_bin, wv_neg, wv_cmp, wv_chn, wv_not, wv_and, wv_or, wv_ite, wv_idx, wv_slc, wv_tup, wv_lst, wv_dsp0, wv_dsp, wd_nil, wd_cons, wv_call, wv_callK, wv_blt, wv_mth, wv_isi, vp_turn, vp_turn2, ws_nil, ws_cons, wp_no, wp_yes, wt_val, wt_not, wt_and, wt_or, wo_yes, wo_one, wi_seq, wi_rng1, wi_rng2, wi_enm, rs_asg, rs_asgS, rs_aug, rs_augS, rs_exp, rs_ret, rs_retN, rs_ite, rs_for, rs_body, rs_whl, rs_brk, rs_cnt, rs_pas, rp_cons, rp_nil, seq_nx, seq_ret, seq_brk, seq_cnt, loop_nx, loop_ret, loop_brk, loop_cnt, wp_some, vp_some, vp_map, vp_gte, vp_gteP, gteP, o_ixT, o_ixP, o_ixK, i_lst, i_frz, i_dct, i_dctK, at0, at1, at2, at3, ix0, ix1, ix2, cast_pos, cast_ne, zero_cast, if_false, if_true, ite_false, ite_true, b_lenT, b_lenP, l_lst, l_frz, l_dct, b_abs, b_int, b_intB, b_tupT, b_tupP, b_lstT, b_lstP, b_srt, b_sum, b_any, b_all, b_max2, b_min2, b_lrg, o_add, o_sub, o_mul, o_fdv, o_mod, o_pow, o_cat, o_catS, o_catP, o_rep, n_int, bo_bl, in_int, c_lt, c_le, c_gt, c_ge, c_eq, c_ne, c_in, c_nin, e_ii, e_ss, e_bb, t_bl, t_int, t_tup, t_ptr, s_tup, s_ptr, m_app, m_pop, m_popAt, m_joinP, r_app, r_pop, r_popAt, r_join, a_add, a_sub, d_set, d_lst, d_dct, k_int, k_str, q_name, q_tup, q_nil, q_cons, p_z, p_s, g_z, g_s, f_nil, f_cons, z_n, z_b, z_i, z_s, z_t, cs_n, cs_b, cs_i, cs_s, cs_t, cn_n, cn_b, cn_i, cn_s, cn_t, isT, reduceCtorEq, decide_true, decide_false, Bool.or_true, Bool.or_false, Bool.true_or, Bool.false_or, Bool.not_true, Bool.not_false, true_implies, Bool.true_eq_false, Bool.false_eq_true, not_true_eq_false, not_false_eq_true, false_implies, and_true, true_and, decide_eq_true_eq, forall_const, Option.map_some, Option.bind_some, List.length_cons, List.length_nil, hb1, lst_get hM6, mut_get hF6]
      refine ⟨by rw [sizeLine_eq]; decide, by rw [List.length_map, sizeLine_eq]; omega, ss ++ [⟨b, ms⟩], _, _, _, _, _, _, rfl, (get_set (get_lt hF6)).trans (by rw [List.map_append]; rfl), by rw [List.length_append, hl, List.length_singleton], fun s hs' => ?_, hB6.set h5, ((((kp.trans kp2).trans kp3).trans kp4).trans kp6).set (.inl (Nat.le_refl _))⟩
      rcases List.mem_append.mp hs' with hs' | hs'
      · exact ha s hs'
      · rw [List.mem_singleton.mp hs']
        refine ⟨?_, hmm, ?_⟩
        · show ms.length ≤ most
          omega
        · show (ms.map (·.word.head?)).Nodup
          rw [show ms.map (·.word.head?) = (ms.map (·.word)).map (·.head?) by rw [List.map_map]; rfl, hmw]
          exact hwn
  · rintro ρ S1 ⟨ss, x6, x7, x8, x9, x10, x11, rfl, hF, hl, ha, hB, kp⟩
    rw [List.length_map, List.length_range] at hl
    simp only [wv_var, wv_cst, wv_bin, wv_neg, wv_cmp, wv_chn, wv_not, wv_and, wv_or, wv_ite, wv_idx, wv_slc, wv_tup, wv_lst, wv_dsp0, wv_dsp, wd_nil, wd_cons, wv_call, wv_callK, wv_blt, wv_mth, wv_isi, vp_turn, vp_turn2, ws_nil, ws_cons, wp_no, wp_yes, wt_val, wt_not, wt_and, wt_or, wo_yes, wo_one, wi_seq, wi_rng1, wi_rng2, wi_enm, rs_asg, rs_asgS, rs_aug, rs_augS, rs_exp, rs_ret, rs_retN, rs_ite, rs_for, rs_body, rs_whl, rs_brk, rs_cnt, rs_pas, rp_cons, rp_nil, seq_nx, seq_ret, seq_brk, seq_cnt, loop_nx, loop_ret, loop_brk, loop_cnt, wp_some, vp_some, vp_map, vp_gte, vp_gteP, gteP, o_ixT, o_ixP, o_ixK, i_lst, i_frz, i_dct, i_dctK, at0, at1, at2, at3, ix0, ix1, ix2, cast_pos, cast_ne, zero_cast, if_false, if_true, ite_false, ite_true, b_lenT, b_lenP, l_lst, l_frz, l_dct, b_abs, b_int, b_intB, b_tupT, b_tupP, b_lstT, b_lstP, b_srt, b_sum, b_any, b_all, b_max2, b_min2, b_lrg, o_add, o_sub, o_mul, o_fdv, o_mod, o_pow, o_cat, o_catS, o_catP, o_rep, n_int, bo_bl, in_int, c_lt, c_le, c_gt, c_ge, c_eq, c_ne, c_in, c_nin, e_ii, e_ss, e_bb, t_bl, t_int, t_tup, t_ptr, s_tup, s_ptr, m_app, m_pop, m_popAt, m_joinP, r_app, r_pop, r_popAt, r_join, a_add, a_sub, d_set, d_lst, d_dct, k_int, k_str, q_name, q_tup, q_nil, q_cons, p_z, p_s, g_z, g_s, f_nil, f_cons, z_n, z_b, z_i, z_s, z_t, cs_n, cs_b, cs_i, cs_s, cs_t, cn_n, cn_b, cn_i, cn_s, cn_t, isT, reduceCtorEq, decide_true, decide_false, Bool.or_true, Bool.or_false, Bool.true_or, Bool.false_or, Bool.not_true, Bool.not_false, true_implies, Bool.true_eq_false, Bool.false_eq_true, not_true_eq_false, not_false_eq_true, false_implies, and_true, true_and, decide_eq_true_eq, forall_const, Option.map_some, Option.bind_some, List.length_cons, List.length_nil, lst_get hF]
    exact ⟨by rw [sizeLine_eq]; decide, ss, rfl, ⟨hl, ha⟩, hB, kp⟩
def BookC (C : CallT) (fb : Nat) : Prop := ∀ (t many most : Nat) (size : Int) (S : Sto), Bg S → t ≤ 1000 → 0 < many → many ≤ 100000 → most ≤ 25 → 0 ≤ size → size < 2 ^ 28 →
  Wp (C fb [.ptr 4, .int t, .int many, .int most, .int size] S) fun d S' => ∃ ss, d = dBook t ss ∧ BookP t many most size ss ∧ Bg S' ∧ Kp 5 S S'
theorem book_call {Φ : List Fn} {n fp fw fb : Nat} (hP : PickC (run Φ W n) fp) (hWd : WordsC (run Φ W n) fw) (hf : Φ[fb]? = some ⟨5, 12, bookB fw fp⟩) : BookC (run Φ W (n + 1)) fb := fun t many most size S hb h1 h2 h3 h4 h5 h6 =>
  wp_run hf rfl ((book_ok hP hWd hb h1 ⟨h2, h3⟩ h4 ⟨h5, h6⟩).mono fun f ρ S' ⟨ss, e, h⟩ => by subst e; exact ⟨ss, rfl, h⟩)
end Mi

namespace Mi
open PySem L2
variable {C : CallT} {W : Nat}
/-! ### same -/
mutual
def nd : D → Nat
  | .tup xs => 1 + nds xs
  | _ => 1
def nds : List D → Nat
  | [] => 0
  | d :: ds => nd d + nds ds
end
mutual
def pureD : D → Bool
  | .ptr _ => false
  | .tup xs => pureDs xs
  | _ => true
def pureDs : List D → Bool
  | [] => true
  | d :: ds => pureD d && pureDs ds
end
theorem nd_pos (d : D) : 1 ≤ nd d := by cases d <;> simp [nd]
theorem nds_app : ∀ xs ys : List D, nds (xs ++ ys) = nds xs + nds ys
  | [], ys => by simp [nds]
  | x :: xs, ys => by simp only [List.cons_append, nds, nds_app xs ys]; omega
theorem nds_len : ∀ xs : List D, xs.length ≤ nds xs
  | [] => Nat.le_refl _
  | x :: xs => by have := nds_len xs; have := nd_pos x; simp only [List.length_cons, nds]; omega
theorem pure_mem : ∀ {xs : List D}, pureDs xs = true ↔ ∀ x ∈ xs, pureD x = true
  | [] => by simp [pureDs]
  | x :: xs => by simp [pureDs, pure_mem (xs := xs)]
def twin (d : D) : D := .tup [d, d]
theorem set_last {S : Sto} {o o' : O} : (S ++ [o]).set S.length o' = S ++ [o'] := by
  apply List.ext_getElem?
  intro i
  by_cases h : i = S.length
  · subst h
    rw [List.getElem?_set_self (by simp)]
    simp
  · rw [List.getElem?_set_ne (by omega)]
    by_cases h2 : i < S.length
    · rw [List.getElem?_append_left h2, List.getElem?_append_left h2]
    · rw [List.getElem?_eq_none (by simp; omega), List.getElem?_eq_none (by simp; omega)]
theorem get_end {S : Sto} {o : O} : (S ++ [o])[S.length]? = some o := get_new
theorem pairs_ok {xs : List D} {S : Sto} {a0 a1 a2 a5 : Option D} (hx : xs.length < 1000000) :
    Wp (ev C (.lc (.tup (.cons (.idx (.var i3) (.var i5)) (.cons (.idx (.var i4) (.var i5)) .nil))) (.name i5) (.rng1 (.blt .len (.cons (.var i4) .nil))) .yes [i5]) [a0, a1, a2, some (.tup xs), some (.tup xs), a5] S) fun d S' =>
      d = .ptr S.length ∧ S' = S ++ [.lst (xs.map twin)] := by
  simp only [wv_var, wv_cst, wv_bin, wv_neg, wv_cmp, wv_chn, wv_not, wv_and, wv_or, wv_ite, wv_idx, wv_slc, wv_tup, wv_lst, wv_dsp0, wv_dsp, wd_nil, wd_cons, wv_call, wv_callK, wv_blt, wv_mth, wv_isi, wv_lc, vp_turn, vp_turn2, ws_nil, ws_cons, wp_no, wp_yes, wt_val, wt_not, wt_and, wt_or, wo_yes, wo_one, wi_seq, wi_rng1, wi_rng2, wi_enm, rs_asg, rs_asgS, rs_aug, rs_augS, rs_exp, rs_ret, rs_retN, rs_ite, rs_for, rs_body, rs_whl, rs_brk, rs_cnt, rs_pas, rp_cons, rp_nil, seq_nx, seq_ret, seq_brk, seq_cnt, loop_nx, loop_ret, loop_brk, loop_cnt, wp_some, vp_some, vp_map, vp_gte, vp_gteP, gteP, o_ixT, o_ixP, o_ixK, i_lst, i_frz, i_dct, i_dctK, at0, at1, at2, at3, ix0, ix1, ix2, cast_pos, cast_ne, zero_cast, if_false, if_true, ite_false, ite_true, b_lenT, b_lenP, l_lst, l_frz, l_dct, b_abs, b_int, b_intB, b_tupT, b_tupP, b_lstT, b_lstP, b_srt, b_sum, b_any, b_all, b_max2, b_min2, b_lrg, o_add, o_sub, o_mul, o_fdv, o_mod, o_pow, o_cat, o_catS, o_catP, o_rep, n_int, bo_bl, in_int, c_lt, c_le, c_gt, c_ge, c_eq, c_ne, c_in, c_nin, e_ii, e_ss, e_bb, t_bl, t_int, t_tup, t_ptr, s_tup, s_ptr, m_app, m_pop, m_popAt, m_joinP, r_app, r_pop, r_popAt, r_join, a_add, a_sub, d_set, d_lst, d_dct, k_int, k_str, q_name, q_tup, q_nil, q_cons, p_z, p_s, g_z, g_s, f_nil, f_cons, z_n, z_b, z_i, z_s, z_t, cs_n, cs_b, cs_i, cs_s, cs_t, cn_n, cn_b, cn_i, cn_s, cn_t, isT, reduceCtorEq, decide_true, decide_false, Bool.or_true, Bool.or_false, Bool.true_or, Bool.false_or, Bool.not_true, Bool.not_false, true_implies, Bool.true_eq_false, Bool.false_eq_true, not_true_eq_false, not_false_eq_true, false_implies, and_true, true_and, decide_eq_true_eq, forall_const, Option.map_some, Option.bind_some, List.length_cons, List.length_nil, cntI]
  refine ⟨⟨by omega, by omega⟩, ?_⟩
  rw [Int.toNat_natCast]
  refine vp_loop ((List.range xs.length).map fun k => D.int (0 + (k : Nat))) (fun i S1 => S1 = S ++ [.lst ((xs.take i).map twin)]) (fun _ _ _ _ => itm_rng) ?_ ?_ _ 0 _ rfl (Nat.zero_le _) (by simp)
  · rintro i d S1 hi rfl
    have hi' : i < xs.length := by
      have := (List.getElem?_eq_some_iff.mp hi).1
      simpa using this
    have hd : d = .int (i : Nat) := by
      rw [List.getElem?_map, List.getElem?_range hi'] at hi
      simpa using hi.symm
    subst hd
    have ha : atI xs (i : Nat) = some xs[i] := atI_nat (List.getElem?_eq_getElem hi')
    simp only [wv_var, wv_cst, wv_bin, wv_neg, wv_cmp, wv_chn, wv_not, wv_and, wv_or, wv_ite, wv_idx, wv_slc, wv_tup, wv_lst, wv_dsp0, wv_dsp, wd_nil, wd_cons, wv_call, wv_callK, wv_blt, wv_mth, wv_isi, wv_lc, vp_turn, vp_turn2, ws_nil, ws_cons, wp_no, wp_yes, wt_val, wt_not, wt_and, wt_or, wo_yes, wo_one, wi_seq, wi_rng1, wi_rng2, wi_enm, rs_asg, rs_asgS, rs_aug, rs_augS, rs_exp, rs_ret, rs_retN, rs_ite, rs_for, rs_body, rs_whl, rs_brk, rs_cnt, rs_pas, rp_cons, rp_nil, seq_nx, seq_ret, seq_brk, seq_cnt, loop_nx, loop_ret, loop_brk, loop_cnt, wp_some, vp_some, vp_map, vp_gte, vp_gteP, gteP, o_ixT, o_ixP, o_ixK, i_lst, i_frz, i_dct, i_dctK, at0, at1, at2, at3, ix0, ix1, ix2, cast_pos, cast_ne, zero_cast, if_false, if_true, ite_false, ite_true, b_lenT, b_lenP, l_lst, l_frz, l_dct, b_abs, b_int, b_intB, b_tupT, b_tupP, b_lstT, b_lstP, b_srt, b_sum, b_any, b_all, b_max2, b_min2, b_lrg, o_add, o_sub, o_mul, o_fdv, o_mod, o_pow, o_cat, o_catS, o_catP, o_rep, n_int, bo_bl, in_int, c_lt, c_le, c_gt, c_ge, c_eq, c_ne, c_in, c_nin, e_ii, e_ss, e_bb, t_bl, t_int, t_tup, t_ptr, s_tup, s_ptr, m_app, m_pop, m_popAt, m_joinP, r_app, r_pop, r_popAt, r_join, a_add, a_sub, d_set, d_lst, d_dct, k_int, k_str, q_name, q_tup, q_nil, q_cons, p_z, p_s, g_z, g_s, f_nil, f_cons, z_n, z_b, z_i, z_s, z_t, cs_n, cs_b, cs_i, cs_s, cs_t, cn_n, cn_b, cn_i, cn_s, cn_t, isT, reduceCtorEq, decide_true, decide_false, Bool.or_true, Bool.or_false, Bool.true_or, Bool.false_or, Bool.not_true, Bool.not_false, true_implies, Bool.true_eq_false, Bool.false_eq_true, not_true_eq_false, not_false_eq_true, false_implies, and_true, true_and, decide_eq_true_eq, forall_const, Option.map_some, Option.bind_some, List.length_cons, List.length_nil, ha]
    simp only [wv_var, wv_cst, wv_bin, wv_neg, wv_cmp, wv_chn, wv_not, wv_and, wv_or, wv_ite, wv_idx, wv_slc, wv_tup, wv_lst, wv_dsp0, wv_dsp, wd_nil, wd_cons, wv_call, wv_callK, wv_blt, wv_mth, wv_isi, wv_lc, vp_turn, vp_turn2, ws_nil, ws_cons, wp_no, wp_yes, wt_val, wt_not, wt_and, wt_or, wo_yes, wo_one, wi_seq, wi_rng1, wi_rng2, wi_enm, rs_asg, rs_asgS, rs_aug, rs_augS, rs_exp, rs_ret, rs_retN, rs_ite, rs_for, rs_body, rs_whl, rs_brk, rs_cnt, rs_pas, rp_cons, rp_nil, seq_nx, seq_ret, seq_brk, seq_cnt, loop_nx, loop_ret, loop_brk, loop_cnt, wp_some, vp_some, vp_map, vp_gte, vp_gteP, gteP, o_ixT, o_ixP, o_ixK, i_lst, i_frz, i_dct, i_dctK, at0, at1, at2, at3, ix0, ix1, ix2, cast_pos, cast_ne, zero_cast, if_false, if_true, ite_false, ite_true, b_lenT, b_lenP, l_lst, l_frz, l_dct, b_abs, b_int, b_intB, b_tupT, b_tupP, b_lstT, b_lstP, b_srt, b_sum, b_any, b_all, b_max2, b_min2, b_lrg, o_add, o_sub, o_mul, o_fdv, o_mod, o_pow, o_cat, o_catS, o_catP, o_rep, n_int, bo_bl, in_int, c_lt, c_le, c_gt, c_ge, c_eq, c_ne, c_in, c_nin, e_ii, e_ss, e_bb, t_bl, t_int, t_tup, t_ptr, s_tup, s_ptr, m_app, m_pop, m_popAt, m_joinP, r_app, r_pop, r_popAt, r_join, a_add, a_sub, d_set, d_lst, d_dct, k_int, k_str, q_name, q_tup, q_nil, q_cons, p_z, p_s, g_z, g_s, f_nil, f_cons, z_n, z_b, z_i, z_s, z_t, cs_n, cs_b, cs_i, cs_s, cs_t, cn_n, cn_b, cn_i, cn_s, cn_t, isT, reduceCtorEq, decide_true, decide_false, Bool.or_true, Bool.or_false, Bool.true_or, Bool.false_or, Bool.not_true, Bool.not_false, true_implies, Bool.true_eq_false, Bool.false_eq_true, not_true_eq_false, not_false_eq_true, false_implies, and_true, true_and, decide_eq_true_eq, forall_const, Option.map_some, Option.bind_some, List.length_cons, List.length_nil, lcApp, mut_get get_end, List.length_map, List.length_take]
    refine ⟨by rw [sizeLine_eq]; decide, by rw [sizeLine_eq]; omega, ?_⟩
    rw [set_last, List.take_add_one, List.getElem?_eq_getElem hi', List.map_append]
    rfl
  · rintro S1 rfl
    rw [List.length_map, List.length_range, List.take_of_length_le (Nat.le_refl _)]
theorem same_ok {d : D} {S : Sto} (hp : pureD d = true) (hn : nd d < 1000000) (hW : 1000000 ≤ W) : RP (exs C W sameB (bgn 6 [d, d]) S) fun f _ S' => f = .ret (.bl true) ∧ Kp 0 S S' := by
  unfold sameB
  have b0 : bgn 6 [d, d] = [some d, some d, none, none, none, none] := rfl
  simp only [wv_var, wv_cst, wv_bin, wv_neg, wv_cmp, wv_chn, wv_not, wv_and, wv_or, wv_ite, wv_idx, wv_slc, wv_tup, wv_lst, wv_dsp0, wv_dsp, wd_nil, wd_cons, wv_call, wv_callK, wv_blt, wv_mth, wv_isi, vp_turn, vp_turn2, ws_nil, ws_cons, wp_no, wp_yes, wt_val, wt_not, wt_and, wt_or, wo_yes, wo_one, wi_seq, wi_rng1, wi_rng2, wi_enm, rs_asg, rs_asgS, rs_aug, rs_augS, rs_exp, rs_ret, rs_retN, rs_ite, rs_for, rs_body, rs_whl, rs_brk, rs_cnt, rs_pas, rp_cons, rp_nil, seq_nx, seq_ret, seq_brk, seq_cnt, loop_nx, loop_ret, loop_brk, loop_cnt, wp_some, vp_some, vp_map, vp_gte, vp_gteP, gteP, o_ixT, o_ixP, o_ixK, i_lst, i_frz, i_dct, i_dctK, at0, at1, at2, at3, ix0, ix1, ix2, cast_pos, cast_ne, zero_cast, if_false, if_true, ite_false, ite_true, b_lenT, b_lenP, l_lst, l_frz, l_dct, b_abs, b_int, b_intB, b_tupT, b_tupP, b_lstT, b_lstP, b_srt, b_sum, b_any, b_all, b_max2, b_min2, b_lrg, o_add, o_sub, o_mul, o_fdv, o_mod, o_pow, o_cat, o_catS, o_catP, o_rep, n_int, bo_bl, in_int, c_lt, c_le, c_gt, c_ge, c_eq, c_ne, c_in, c_nin, e_ii, e_ss, e_bb, t_bl, t_int, t_tup, t_ptr, s_tup, s_ptr, m_app, m_pop, m_popAt, m_joinP, r_app, r_pop, r_popAt, r_join, a_add, a_sub, d_set, d_lst, d_dct, k_int, k_str, q_name, q_tup, q_nil, q_cons, p_z, p_s, g_z, g_s, f_nil, f_cons, z_n, z_b, z_i, z_s, z_t, cs_n, cs_b, cs_i, cs_s, cs_t, cn_n, cn_b, cn_i, cn_s, cn_t, isT, reduceCtorEq, decide_true, decide_false, Bool.or_true, Bool.or_false, Bool.true_or, Bool.false_or, Bool.not_true, Bool.not_false, true_implies, Bool.true_eq_false, Bool.false_eq_true, not_true_eq_false, not_false_eq_true, false_implies, and_true, true_and, decide_eq_true_eq, forall_const, Option.map_some, Option.bind_some, List.length_cons, List.length_nil, b0]
  refine ⟨by rw [sizeLine_eq]; decide, by rw [sizeLine_eq]; decide, ?_⟩
  refine rp_while (fun n ρ S1 => ∃ (k : Nat) (stk : List D) (x3 x4 x5 : Option D), ρ = [some d, some d, some (.ptr k), x3, x4, x5] ∧ S.length ≤ k ∧ S1[k]? = some (.lst (stk.map twin)) ∧ pureDs stk = true ∧ n = nds stk ∧ nds stk < 1000000 ∧ Kp 0 S S1) ?_ W (nds [d]) _ _ ⟨S.length, [d], none, none, none, rfl, Nat.le_refl _, get_new, by simp [pureDs, hp], rfl, by simp [nds, hn], Kp.refl.app⟩ (by simp only [nds]; omega)
  rintro n ρ S1 ⟨k, stk, x3, x4, x5, rfl, hk, hS, hps, rfl, hns, kp⟩
  rcases List.eq_nil_or_concat stk with rfl | ⟨stk, x, rfl⟩
  · simp only [wv_var, wv_cst, wv_bin, wv_neg, wv_cmp, wv_chn, wv_not, wv_and, wv_or, wv_ite, wv_idx, wv_slc, wv_tup, wv_lst, wv_dsp0, wv_dsp, wd_nil, wd_cons, wv_call, wv_callK, wv_blt, wv_mth, wv_isi, vp_turn, vp_turn2, ws_nil, ws_cons, wp_no, wp_yes, wt_val, wt_not, wt_and, wt_or, wo_yes, wo_one, wi_seq, wi_rng1, wi_rng2, wi_enm, rs_asg, rs_asgS, rs_aug, rs_augS, rs_exp, rs_ret, rs_retN, rs_ite, rs_for, rs_body, rs_whl, rs_brk, rs_cnt, rs_pas, rp_cons, rp_nil, seq_nx, seq_ret, seq_brk, seq_cnt, loop_nx, loop_ret, loop_brk, loop_cnt, wp_some, vp_some, vp_map, vp_gte, vp_gteP, gteP, o_ixT, o_ixP, o_ixK, i_lst, i_frz, i_dct, i_dctK, at0, at1, at2, at3, ix0, ix1, ix2, cast_pos, cast_ne, zero_cast, if_false, if_true, ite_false, ite_true, b_lenT, b_lenP, l_lst, l_frz, l_dct, b_abs, b_int, b_intB, b_tupT, b_tupP, b_lstT, b_lstP, b_srt, b_sum, b_any, b_all, b_max2, b_min2, b_lrg, o_add, o_sub, o_mul, o_fdv, o_mod, o_pow, o_cat, o_catS, o_catP, o_rep, n_int, bo_bl, in_int, c_lt, c_le, c_gt, c_ge, c_eq, c_ne, c_in, c_nin, e_ii, e_ss, e_bb, t_bl, t_int, t_tup, t_ptr, s_tup, s_ptr, m_app, m_pop, m_popAt, m_joinP, r_app, r_pop, r_popAt, r_join, a_add, a_sub, d_set, d_lst, d_dct, k_int, k_str, q_name, q_tup, q_nil, q_cons, p_z, p_s, g_z, g_s, f_nil, f_cons, z_n, z_b, z_i, z_s, z_t, cs_n, cs_b, cs_i, cs_s, cs_t, cn_n, cn_b, cn_i, cn_s, cn_t, isT, reduceCtorEq, decide_true, decide_false, Bool.or_true, Bool.or_false, Bool.true_or, Bool.false_or, Bool.not_true, Bool.not_false, true_implies, Bool.true_eq_false, Bool.false_eq_true, not_true_eq_false, not_false_eq_true, false_implies, and_true, true_and, decide_eq_true_eq, forall_const, Option.map_some, Option.bind_some, List.length_cons, List.length_nil, hS, List.length_map, Int.lt_irrefl, List.map_nil]
    exact kp
  · rw [List.concat_eq_append] at hS hps hns ⊢
    have hpx : pureD x = true := pure_mem.mp hps x (by simp)
    have hpr : pureDs stk = true := pure_mem.mpr fun y hy => pure_mem.mp hps y (by simp [hy])
    rw [nds_app] at hns ⊢
    have h1x := nd_pos x
    have ex : nds [x] = nd x := by simp [nds]
    rw [ex] at hns ⊢
    have hl : (stk ++ [x]).length = stk.length + 1 := by simp
    have em : (stk ++ [x]).map twin = stk.map twin ++ [.tup [x, x]] := by simp [twin]
    have hk' := get_lt hS
    have hg : ((stk ++ [x]).map twin)[stk.length + 1 - 1]? = some (.tup [x, x]) := by rw [em]; simp
    have hdl : ((stk ++ [x]).map twin).dropLast = stk.map twin := by rw [em]; simp
    generalize hS2 : S1.set k (.lst (stk.map twin)) = S2
    have g2 : S2[k]? = some (.lst (stk.map twin)) := by rw [← hS2]; exact get_set hk'
    have kp2 : Kp 0 S S2 := by rw [← hS2]; exact kp.set (.inl hk)
    -- a leaf
    have leaf : ∀ {a b : Option D}, nds stk < nds stk + nd x ∧ ∃ (k' : Nat) (stk' : List D) (y3 y4 y5 : Option D), [some d, some d, some (.ptr k), a, b, x5] = [some d, some d, some (.ptr k'), y3, y4, y5] ∧ S.length ≤ k' ∧ S2[k']? = some (.lst (stk'.map twin)) ∧ pureDs stk' = true ∧ nds stk = nds stk' ∧ nds stk' < 1000000 ∧ Kp 0 S S2 := fun {a b} =>
      ⟨by omega, k, stk, a, b, x5, rfl, hk, g2, hpr, rfl, by omega, kp2⟩
    simp only [wv_var, wv_cst, wv_bin, wv_neg, wv_cmp, wv_chn, wv_not, wv_and, wv_or, wv_ite, wv_idx, wv_slc, wv_tup, wv_lst, wv_dsp0, wv_dsp, wd_nil, wd_cons, wv_call, wv_callK, wv_blt, wv_mth, wv_isi, vp_turn, vp_turn2, ws_nil, ws_cons, wp_no, wp_yes, wt_val, wt_not, wt_and, wt_or, wo_yes, wo_one, wi_seq, wi_rng1, wi_rng2, wi_enm, rs_asg, rs_asgS, rs_aug, rs_augS, rs_exp, rs_ret, rs_retN, rs_ite, rs_for, rs_body, rs_whl, rs_brk, rs_cnt, rs_pas, rp_cons, rp_nil, seq_nx, seq_ret, seq_brk, seq_cnt, loop_nx, loop_ret, loop_brk, loop_cnt, wp_some, vp_some, vp_map, vp_gte, vp_gteP, gteP, o_ixT, o_ixP, o_ixK, i_lst, i_frz, i_dct, i_dctK, at0, at1, at2, at3, ix0, ix1, ix2, cast_pos, cast_ne, zero_cast, if_false, if_true, ite_false, ite_true, b_lenT, b_lenP, l_lst, l_frz, l_dct, b_abs, b_int, b_intB, b_tupT, b_tupP, b_lstT, b_lstP, b_srt, b_sum, b_any, b_all, b_max2, b_min2, b_lrg, o_add, o_sub, o_mul, o_fdv, o_mod, o_pow, o_cat, o_catS, o_catP, o_rep, n_int, bo_bl, in_int, c_lt, c_le, c_gt, c_ge, c_eq, c_ne, c_in, c_nin, e_ii, e_ss, e_bb, t_bl, t_int, t_tup, t_ptr, s_tup, s_ptr, m_app, m_pop, m_popAt, m_joinP, r_app, r_pop, r_popAt, r_join, a_add, a_sub, d_set, d_lst, d_dct, k_int, k_str, q_name, q_tup, q_nil, q_cons, p_z, p_s, g_z, g_s, f_nil, f_cons, z_n, z_b, z_i, z_s, z_t, cs_n, cs_b, cs_i, cs_s, cs_t, cn_n, cn_b, cn_i, cn_s, cn_t, isT, reduceCtorEq, decide_true, decide_false, Bool.or_true, Bool.or_false, Bool.true_or, Bool.false_or, Bool.not_true, Bool.not_false, true_implies, Bool.true_eq_false, Bool.false_eq_true, not_true_eq_false, not_false_eq_true, false_implies, and_true, true_and, decide_eq_true_eq, forall_const, Option.map_some, Option.bind_some, List.length_cons, List.length_nil, hS, mut_get hS, Option.isSome, List.length_map, hg, hdl, hl, cast_pos, hS2]
    cases x with
    | ptr n => cases hpx
    | non =>
      simp only [wv_var, wv_cst, wv_bin, wv_neg, wv_cmp, wv_chn, wv_not, wv_and, wv_or, wv_ite, wv_idx, wv_slc, wv_tup, wv_lst, wv_dsp0, wv_dsp, wd_nil, wd_cons, wv_call, wv_callK, wv_blt, wv_mth, wv_isi, vp_turn, vp_turn2, ws_nil, ws_cons, wp_no, wp_yes, wt_val, wt_not, wt_and, wt_or, wo_yes, wo_one, wi_seq, wi_rng1, wi_rng2, wi_enm, rs_asg, rs_asgS, rs_aug, rs_augS, rs_exp, rs_ret, rs_retN, rs_ite, rs_for, rs_body, rs_whl, rs_brk, rs_cnt, rs_pas, rp_cons, rp_nil, seq_nx, seq_ret, seq_brk, seq_cnt, loop_nx, loop_ret, loop_brk, loop_cnt, wp_some, vp_some, vp_map, vp_gte, vp_gteP, gteP, o_ixT, o_ixP, o_ixK, i_lst, i_frz, i_dct, i_dctK, at0, at1, at2, at3, ix0, ix1, ix2, cast_pos, cast_ne, zero_cast, if_false, if_true, ite_false, ite_true, b_lenT, b_lenP, l_lst, l_frz, l_dct, b_abs, b_int, b_intB, b_tupT, b_tupP, b_lstT, b_lstP, b_srt, b_sum, b_any, b_all, b_max2, b_min2, b_lrg, o_add, o_sub, o_mul, o_fdv, o_mod, o_pow, o_cat, o_catS, o_catP, o_rep, n_int, bo_bl, in_int, c_lt, c_le, c_gt, c_ge, c_eq, c_ne, c_in, c_nin, e_ii, e_ss, e_bb, t_bl, t_int, t_tup, t_ptr, s_tup, s_ptr, m_app, m_pop, m_popAt, m_joinP, r_app, r_pop, r_popAt, r_join, a_add, a_sub, d_set, d_lst, d_dct, k_int, k_str, q_name, q_tup, q_nil, q_cons, p_z, p_s, g_z, g_s, f_nil, f_cons, z_n, z_b, z_i, z_s, z_t, cs_n, cs_b, cs_i, cs_s, cs_t, cn_n, cn_b, cn_i, cn_s, cn_t, isT, reduceCtorEq, decide_true, decide_false, Bool.or_true, Bool.or_false, Bool.true_or, Bool.false_or, Bool.not_true, Bool.not_false, true_implies, Bool.true_eq_false, Bool.false_eq_true, not_true_eq_false, not_false_eq_true, false_implies, and_true, true_and, decide_eq_true_eq, forall_const, Option.map_some, Option.bind_some, List.length_cons, List.length_nil]
      exact ⟨nds stk, leaf (a := some .non) (b := some .non)⟩
    | bl b =>
      simp only [wv_var, wv_cst, wv_bin, wv_neg, wv_cmp, wv_chn, wv_not, wv_and, wv_or, wv_ite, wv_idx, wv_slc, wv_tup, wv_lst, wv_dsp0, wv_dsp, wd_nil, wd_cons, wv_call, wv_callK, wv_blt, wv_mth, wv_isi, vp_turn, vp_turn2, ws_nil, ws_cons, wp_no, wp_yes, wt_val, wt_not, wt_and, wt_or, wo_yes, wo_one, wi_seq, wi_rng1, wi_rng2, wi_enm, rs_asg, rs_asgS, rs_aug, rs_augS, rs_exp, rs_ret, rs_retN, rs_ite, rs_for, rs_body, rs_whl, rs_brk, rs_cnt, rs_pas, rp_cons, rp_nil, seq_nx, seq_ret, seq_brk, seq_cnt, loop_nx, loop_ret, loop_brk, loop_cnt, wp_some, vp_some, vp_map, vp_gte, vp_gteP, gteP, o_ixT, o_ixP, o_ixK, i_lst, i_frz, i_dct, i_dctK, at0, at1, at2, at3, ix0, ix1, ix2, cast_pos, cast_ne, zero_cast, if_false, if_true, ite_false, ite_true, b_lenT, b_lenP, l_lst, l_frz, l_dct, b_abs, b_int, b_intB, b_tupT, b_tupP, b_lstT, b_lstP, b_srt, b_sum, b_any, b_all, b_max2, b_min2, b_lrg, o_add, o_sub, o_mul, o_fdv, o_mod, o_pow, o_cat, o_catS, o_catP, o_rep, n_int, bo_bl, in_int, c_lt, c_le, c_gt, c_ge, c_eq, c_ne, c_in, c_nin, e_ii, e_ss, e_bb, t_bl, t_int, t_tup, t_ptr, s_tup, s_ptr, m_app, m_pop, m_popAt, m_joinP, r_app, r_pop, r_popAt, r_join, a_add, a_sub, d_set, d_lst, d_dct, k_int, k_str, q_name, q_tup, q_nil, q_cons, p_z, p_s, g_z, g_s, f_nil, f_cons, z_n, z_b, z_i, z_s, z_t, cs_n, cs_b, cs_i, cs_s, cs_t, cn_n, cn_b, cn_i, cn_s, cn_t, isT, reduceCtorEq, decide_true, decide_false, Bool.or_true, Bool.or_false, Bool.true_or, Bool.false_or, Bool.not_true, Bool.not_false, true_implies, Bool.true_eq_false, Bool.false_eq_true, not_true_eq_false, not_false_eq_true, false_implies, and_true, true_and, decide_eq_true_eq, forall_const, Option.map_some, Option.bind_some, List.length_cons, List.length_nil]
      exact ⟨nds stk, leaf (a := some (.bl b)) (b := some (.bl b))⟩
    | int i =>
      simp only [wv_var, wv_cst, wv_bin, wv_neg, wv_cmp, wv_chn, wv_not, wv_and, wv_or, wv_ite, wv_idx, wv_slc, wv_tup, wv_lst, wv_dsp0, wv_dsp, wd_nil, wd_cons, wv_call, wv_callK, wv_blt, wv_mth, wv_isi, vp_turn, vp_turn2, ws_nil, ws_cons, wp_no, wp_yes, wt_val, wt_not, wt_and, wt_or, wo_yes, wo_one, wi_seq, wi_rng1, wi_rng2, wi_enm, rs_asg, rs_asgS, rs_aug, rs_augS, rs_exp, rs_ret, rs_retN, rs_ite, rs_for, rs_body, rs_whl, rs_brk, rs_cnt, rs_pas, rp_cons, rp_nil, seq_nx, seq_ret, seq_brk, seq_cnt, loop_nx, loop_ret, loop_brk, loop_cnt, wp_some, vp_some, vp_map, vp_gte, vp_gteP, gteP, o_ixT, o_ixP, o_ixK, i_lst, i_frz, i_dct, i_dctK, at0, at1, at2, at3, ix0, ix1, ix2, cast_pos, cast_ne, zero_cast, if_false, if_true, ite_false, ite_true, b_lenT, b_lenP, l_lst, l_frz, l_dct, b_abs, b_int, b_intB, b_tupT, b_tupP, b_lstT, b_lstP, b_srt, b_sum, b_any, b_all, b_max2, b_min2, b_lrg, o_add, o_sub, o_mul, o_fdv, o_mod, o_pow, o_cat, o_catS, o_catP, o_rep, n_int, bo_bl, in_int, c_lt, c_le, c_gt, c_ge, c_eq, c_ne, c_in, c_nin, e_ii, e_ss, e_bb, t_bl, t_int, t_tup, t_ptr, s_tup, s_ptr, m_app, m_pop, m_popAt, m_joinP, r_app, r_pop, r_popAt, r_join, a_add, a_sub, d_set, d_lst, d_dct, k_int, k_str, q_name, q_tup, q_nil, q_cons, p_z, p_s, g_z, g_s, f_nil, f_cons, z_n, z_b, z_i, z_s, z_t, cs_n, cs_b, cs_i, cs_s, cs_t, cn_n, cn_b, cn_i, cn_s, cn_t, isT, reduceCtorEq, decide_true, decide_false, Bool.or_true, Bool.or_false, Bool.true_or, Bool.false_or, Bool.not_true, Bool.not_false, true_implies, Bool.true_eq_false, Bool.false_eq_true, not_true_eq_false, not_false_eq_true, false_implies, and_true, true_and, decide_eq_true_eq, forall_const, Option.map_some, Option.bind_some, List.length_cons, List.length_nil]
      exact ⟨nds stk, leaf (a := some (.int i)) (b := some (.int i))⟩
    | str z =>
      simp only [wv_var, wv_cst, wv_bin, wv_neg, wv_cmp, wv_chn, wv_not, wv_and, wv_or, wv_ite, wv_idx, wv_slc, wv_tup, wv_lst, wv_dsp0, wv_dsp, wd_nil, wd_cons, wv_call, wv_callK, wv_blt, wv_mth, wv_isi, vp_turn, vp_turn2, ws_nil, ws_cons, wp_no, wp_yes, wt_val, wt_not, wt_and, wt_or, wo_yes, wo_one, wi_seq, wi_rng1, wi_rng2, wi_enm, rs_asg, rs_asgS, rs_aug, rs_augS, rs_exp, rs_ret, rs_retN, rs_ite, rs_for, rs_body, rs_whl, rs_brk, rs_cnt, rs_pas, rp_cons, rp_nil, seq_nx, seq_ret, seq_brk, seq_cnt, loop_nx, loop_ret, loop_brk, loop_cnt, wp_some, vp_some, vp_map, vp_gte, vp_gteP, gteP, o_ixT, o_ixP, o_ixK, i_lst, i_frz, i_dct, i_dctK, at0, at1, at2, at3, ix0, ix1, ix2, cast_pos, cast_ne, zero_cast, if_false, if_true, ite_false, ite_true, b_lenT, b_lenP, l_lst, l_frz, l_dct, b_abs, b_int, b_intB, b_tupT, b_tupP, b_lstT, b_lstP, b_srt, b_sum, b_any, b_all, b_max2, b_min2, b_lrg, o_add, o_sub, o_mul, o_fdv, o_mod, o_pow, o_cat, o_catS, o_catP, o_rep, n_int, bo_bl, in_int, c_lt, c_le, c_gt, c_ge, c_eq, c_ne, c_in, c_nin, e_ii, e_ss, e_bb, t_bl, t_int, t_tup, t_ptr, s_tup, s_ptr, m_app, m_pop, m_popAt, m_joinP, r_app, r_pop, r_popAt, r_join, a_add, a_sub, d_set, d_lst, d_dct, k_int, k_str, q_name, q_tup, q_nil, q_cons, p_z, p_s, g_z, g_s, f_nil, f_cons, z_n, z_b, z_i, z_s, z_t, cs_n, cs_b, cs_i, cs_s, cs_t, cn_n, cn_b, cn_i, cn_s, cn_t, isT, reduceCtorEq, decide_true, decide_false, Bool.or_true, Bool.or_false, Bool.true_or, Bool.false_or, Bool.not_true, Bool.not_false, true_implies, Bool.true_eq_false, Bool.false_eq_true, not_true_eq_false, not_false_eq_true, false_implies, and_true, true_and, decide_eq_true_eq, forall_const, Option.map_some, Option.bind_some, List.length_cons, List.length_nil]
      exact ⟨nds stk, leaf (a := some (.str z)) (b := some (.str z))⟩
    | tup xs =>
      simp only [wv_var, wv_cst, wv_bin, wv_neg, wv_cmp, wv_chn, wv_not, wv_and, wv_or, wv_ite, wv_idx, wv_slc, wv_tup, wv_lst, wv_dsp0, wv_dsp, wd_nil, wd_cons, wv_call, wv_callK, wv_blt, wv_mth, wv_isi, vp_turn, vp_turn2, ws_nil, ws_cons, wp_no, wp_yes, wt_val, wt_not, wt_and, wt_or, wo_yes, wo_one, wi_seq, wi_rng1, wi_rng2, wi_enm, rs_asg, rs_asgS, rs_aug, rs_augS, rs_exp, rs_ret, rs_retN, rs_ite, rs_for, rs_body, rs_whl, rs_brk, rs_cnt, rs_pas, rp_cons, rp_nil, seq_nx, seq_ret, seq_brk, seq_cnt, loop_nx, loop_ret, loop_brk, loop_cnt, wp_some, vp_some, vp_map, vp_gte, vp_gteP, gteP, o_ixT, o_ixP, o_ixK, i_lst, i_frz, i_dct, i_dctK, at0, at1, at2, at3, ix0, ix1, ix2, cast_pos, cast_ne, zero_cast, if_false, if_true, ite_false, ite_true, b_lenT, b_lenP, l_lst, l_frz, l_dct, b_abs, b_int, b_intB, b_tupT, b_tupP, b_lstT, b_lstP, b_srt, b_sum, b_any, b_all, b_max2, b_min2, b_lrg, o_add, o_sub, o_mul, o_fdv, o_mod, o_pow, o_cat, o_catS, o_catP, o_rep, n_int, bo_bl, in_int, c_lt, c_le, c_gt, c_ge, c_eq, c_ne, c_in, c_nin, e_ii, e_ss, e_bb, t_bl, t_int, t_tup, t_ptr, s_tup, s_ptr, m_app, m_pop, m_popAt, m_joinP, r_app, r_pop, r_popAt, r_join, a_add, a_sub, d_set, d_lst, d_dct, k_int, k_str, q_name, q_tup, q_nil, q_cons, p_z, p_s, g_z, g_s, f_nil, f_cons, z_n, z_b, z_i, z_s, z_t, cs_n, cs_b, cs_i, cs_s, cs_t, cn_n, cn_b, cn_i, cn_s, cn_t, isT, reduceCtorEq, decide_true, decide_false, Bool.or_true, Bool.or_false, Bool.true_or, Bool.false_or, Bool.not_true, Bool.not_false, true_implies, Bool.true_eq_false, Bool.false_eq_true, not_true_eq_false, not_false_eq_true, false_implies, and_true, true_and, decide_eq_true_eq, forall_const, Option.map_some, Option.bind_some, List.length_cons, List.length_nil]
      have hx1 : xs.length < 1000000 := by
        have := nds_len xs
        simp only [nd] at hns
        omega
      refine (pairs_ok hx1).mono fun d3 S3 ⟨e1, e2⟩ => ?_
      subst e1 e2
      simp only [wv_var, wv_cst, wv_bin, wv_neg, wv_cmp, wv_chn, wv_not, wv_and, wv_or, wv_ite, wv_idx, wv_slc, wv_tup, wv_lst, wv_dsp0, wv_dsp, wd_nil, wd_cons, wv_call, wv_callK, wv_blt, wv_mth, wv_isi, vp_turn, vp_turn2, ws_nil, ws_cons, wp_no, wp_yes, wt_val, wt_not, wt_and, wt_or, wo_yes, wo_one, wi_seq, wi_rng1, wi_rng2, wi_enm, rs_asg, rs_asgS, rs_aug, rs_augS, rs_exp, rs_ret, rs_retN, rs_ite, rs_for, rs_body, rs_whl, rs_brk, rs_cnt, rs_pas, rp_cons, rp_nil, seq_nx, seq_ret, seq_brk, seq_cnt, loop_nx, loop_ret, loop_brk, loop_cnt, wp_some, vp_some, vp_map, vp_gte, vp_gteP, gteP, o_ixT, o_ixP, o_ixK, i_lst, i_frz, i_dct, i_dctK, at0, at1, at2, at3, ix0, ix1, ix2, cast_pos, cast_ne, zero_cast, if_false, if_true, ite_false, ite_true, b_lenT, b_lenP, l_lst, l_frz, l_dct, b_abs, b_int, b_intB, b_tupT, b_tupP, b_lstT, b_lstP, b_srt, b_sum, b_any, b_all, b_max2, b_min2, b_lrg, o_add, o_sub, o_mul, o_fdv, o_mod, o_pow, o_cat, o_catS, o_catP, o_rep, n_int, bo_bl, in_int, c_lt, c_le, c_gt, c_ge, c_eq, c_ne, c_in, c_nin, e_ii, e_ss, e_bb, t_bl, t_int, t_tup, t_ptr, s_tup, s_ptr, m_app, m_pop, m_popAt, m_joinP, r_app, r_pop, r_popAt, r_join, a_add, a_sub, d_set, d_lst, d_dct, k_int, k_str, q_name, q_tup, q_nil, q_cons, p_z, p_s, g_z, g_s, f_nil, f_cons, z_n, z_b, z_i, z_s, z_t, cs_n, cs_b, cs_i, cs_s, cs_t, cn_n, cn_b, cn_i, cn_s, cn_t, isT, reduceCtorEq, decide_true, decide_false, Bool.or_true, Bool.or_false, Bool.true_or, Bool.false_or, Bool.not_true, Bool.not_false, true_implies, Bool.true_eq_false, Bool.false_eq_true, not_true_eq_false, not_false_eq_true, false_implies, and_true, true_and, decide_eq_true_eq, forall_const, Option.map_some, Option.bind_some, List.length_cons, List.length_nil, mut_get (get_app g2), mut_get get_end, List.length_map]
      have ls := nds_len stk
      have lx := nds_len xs
      have enx : nd (.tup xs) = 1 + nds xs := by simp only [nd]
      rw [enx] at hns ⊢
      refine ⟨by rw [sizeLine_eq]; omega, nds (stk ++ xs), by rw [nds_app]; omega, _, stk ++ xs, _, _, _, rfl, ?_, get_new.trans (by rw [List.map_append]), pure_mem.mpr fun y hy => ?_, rfl, by rw [nds_app]; omega, kp2.app.app⟩
      · have := kp2.len
        rw [List.length_append]
        omega
      · rcases List.mem_append.mp hy with hy | hy
        · exact pure_mem.mp hpr y hy
        · exact pure_mem.mp (show pureDs xs = true from by simpa only [pureD] using hpx) y hy
def SameC (C : CallT) (fs : Nat) : Prop := ∀ (d : D) (S : Sto), pureD d = true → nd d < 1000000 → Wp (C fs [d, d] S) fun r S' => r = .bl true ∧ Kp 0 S S'
theorem same_call {Φ : List Fn} {n fs : Nat} (hW : 1000000 ≤ W) (hf : Φ[fs]? = some ⟨2, 6, sameB⟩) : SameC (run Φ W (n + 1)) fs := fun d S hp hn =>
  wp_run hf rfl ((same_ok hp hn hW).mono fun f ρ S' ⟨e, h⟩ => by subst e; exact ⟨rfl, h⟩)
end Mi

namespace K04
open PySem L2 Mi
def topS (i : Nat) : Stmt := PySem.Challenge.pw_nonerunsdry_k04_parts_reached.main.body.getD i (.Pass ⟨0, 0, 0, 0⟩)
def funs : List (Str × List Str) := [(("tanks_of" : Str), (["book"] : List Str)), (("owner_of" : Str), (["book", "standing"] : List Str)), (("moves_of" : Str), (["book", "standing"] : List Str)), (("is_rest" : Str), (["book", "standing"] : List Str)), (("rests_of" : Str), (["book"] : List Str)), (("standings_of" : Str), (["book", "owner"] : List Str)), (("found_standings" : Str), (["book", "start"] : List Str)), (("reached_standings" : Str), (["book", "start"] : List Str)), (("_law_bag" : Str), (["script"] : List Str)), (("_law_draw" : Str), (["bag", "many"] : List Str)), (("_law_pick" : Str), (["bag", "place", "many"] : List Str)), (("_law_order" : Str), (["bag", "many"] : List Str)), (("_law_words" : Str), (["bag", "many"] : List Str)), (("_law_book" : Str), (["bag", "tanks", "many", "most", "size"] : List Str)), (("_law_same" : Str), (["told", "due"] : List Str)), (("_law_reached" : Str), (["book", "start"] : List Str)), (("_law_row" : Str), (["bag", "many", "back"] : List Str)), (("_law_parts" : Str), (["bag", "book"] : List Str)), (("law" : Str), (["script"] : List Str))]
def kws : List (Nat × Nat × List Str × List Nat) := [((2 : Nat), (0 : Nat), (["standing", "book"] : List Str), ([1, 0] : List Nat)), ((4 : Nat), (0 : Nat), (["book"] : List Str), ([0] : List Nat)), ((7 : Nat), (0 : Nat), (["start", "book"] : List Str), ([1, 0] : List Nat)), ((5 : Nat), (0 : Nat), (["owner", "book"] : List Str), ([1, 0] : List Nat))]
def dst : Nat → Stmt
  | 0 => topS 1
  | 1 => topS 2
  | 2 => topS 3
  | 3 => topS 4
  | 4 => topS 5
  | 5 => topS 6
  | 6 => topS 7
  | 7 => topS 8
  | 8 => topS 10
  | 9 => topS 11
  | 10 => topS 12
  | 11 => topS 13
  | 12 => topS 14
  | 13 => topS 15
  | 14 => topS 16
  | 15 => topS 17
  | 16 => topS 18
  | 17 => topS 19
  | 18 => topS 20
  | _ => .Pass ⟨0, 0, 0, 0⟩
def dN : Nat → List Str
  | 0 => ["book"]
  | 1 => ["book", "standing"]
  | 2 => ["book", "standing"]
  | 3 => ["book", "standing"]
  | 4 => ["book", "number"]
  | 5 => ["book", "owner", "number", "standing"]
  | 6 => ["book", "start", "found", "place", "word", "pours", "goal"]
  | 7 => ["book", "start"]
  | 8 => ["script", "great", "mixed", "cell", "size"]
  | 9 => ["bag", "many", "got"]
  | 10 => ["bag", "place", "many", "habit", "value"]
  | 11 => ["bag", "many", "left", "found", "count"]
  | 12 => ["bag", "many", "signs", "found", "letter", "size", "count"]
  | 13 => ["bag", "tanks", "many", "most", "size", "standings", "standing", "words", "moves", "word", "pours", "tank"]
  | 14 => ["told", "due", "left", "one", "other", "count"]
  | 15 => ["book", "start", "reached", "at", "word", "pours", "goal"]
  | 16 => ["bag", "many", "back", "order", "standings", "at", "moves"]
  | 17 => ["bag", "book", "rests", "owned", "standing", "owner", "lap", "tanks", "standings", "start", "moves"]
  | 18 => ["script", "bag", "lap", "many", "back", "at", "alone", "told", "book", "order", "due"]
  | _ => []
abbrev i0 : Ix := .z
abbrev i1 : Ix := .s (.z)
abbrev i2 : Ix := .s (.s (.z))
abbrev i3 : Ix := .s (.s (.s (.z)))
abbrev i4 : Ix := .s (.s (.s (.s (.z))))
abbrev i5 : Ix := .s (.s (.s (.s (.s (.z)))))
abbrev i6 : Ix := .s (.s (.s (.s (.s (.s (.z))))))
abbrev i7 : Ix := .s (.s (.s (.s (.s (.s (.s (.z)))))))
abbrev i8 : Ix := .s (.s (.s (.s (.s (.s (.s (.s (.z))))))))
abbrev i9 : Ix := .s (.s (.s (.s (.s (.s (.s (.s (.s (.z)))))))))
abbrev i10 : Ix := .s (.s (.s (.s (.s (.s (.s (.s (.s (.s (.z))))))))))
abbrev i11 : Ix := .s (.s (.s (.s (.s (.s (.s (.s (.s (.s (.s (.z)))))))))))
/-- tanks_of -/
def b0 : ISs := (.cons (.ret (.idx (.var i0) (.cst (.int 0)))) .nil)
/-- owner_of -/
def b1 : ISs := (.cons (.ret (.idx (.idx (.idx (.var i0) (.cst (.int 1))) (.var i1)) (.cst (.int 0)))) .nil)
/-- moves_of -/
def b2 : ISs := (.cons (.ret (.idx (.idx (.idx (.var i0) (.cst (.int 1))) (.var i1)) (.cst (.int 1)))) .nil)
/-- is_rest -/
def b3 : ISs := (.cons (.ret (.cmp .Eq (.blt .len (.cons (.idx (.idx (.idx (.var i0) (.cst (.int 1))) (.var i1)) (.cst (.int 1))) .nil)) (.cst (.int 0)))) .nil)
/-- rests_of -/
def b4 : ISs := (.cons (.ret (.blt .tuple (.cons (.lc (.var i1) (.name i1) (.rng1 (.blt .len (.cons (.idx (.var i0) (.cst (.int 1))) .nil))) (.one (.val (.call 3 (.cons (.var i0) (.cons (.var i1) .nil))))) [i1]) .nil))) .nil)
/-- standings_of -/
def b5 : ISs := (.cons (.ret (.blt .tuple (.cons (.lc (.var i2) (.tup [(.name i2), (.name i3)]) (.enm (.idx (.var i0) (.cst (.int 1)))) (.one (.val (.cmp .Eq (.idx (.var i3) (.cst (.int 0))) (.var i1)))) [i2, i3]) .nil))) .nil)
/-- found_standings -/
def b6 : ISs := (.cons (.asg (.name i2) (.lst (.cons (.var i1) .nil))) (.cons (.asg (.name i3) (.cst (.int 0))) (.cons (.whl (.val (.cmp .Lt (.var i3) (.blt .len (.cons (.var i2) .nil)))) (.cons (.for (.tup [(.name i4), (.name i5), (.name i6)]) (.seq (.call 2 (.cons (.var i0) (.cons (.idx (.var i2) (.var i3)) .nil)))) (.cons (.ite (.val (.cmp .NotIn (.var i6) (.var i2))) (.cons (.exp (.mth .append (.var i2) (.cons (.var i6) .nil))) .nil) .nil) .nil)) (.cons (.aug i3 .Add (.cst (.int 1))) .nil))) (.cons (.ret (.var i2)) .nil))))
/-- reached_standings -/
def b7 : ISs := (.cons (.ret (.blt .tuple (.cons (.blt .sorted (.cons (.call 6 (.cons (.var i0) (.cons (.var i1) .nil))) .nil)) .nil))) .nil)
/-- _law_bag -/
def b8 : ISs := (.cons (.asg (.name i1) (.lst .nil)) (.cons (.asg (.name i2) (.cst (.int 71011))) (.cons (.for (.name i3) (.seq (.slc (.var i0) .no (.yes (.cst (.int 63))))) (.cons (.asg (.name i4) (.bin .Add (.bin .Mult (.cst (.int 2)) (.blt .abs (.cons (.blt .int (.cons (.var i3) .nil)) .nil))) (.blt .int (.cons (.cmp .Lt (.var i3) (.cst (.int 0))) .nil)))) (.cons (.ite (.val (.cmp .GtE (.var i4) (.bin .Pow (.cst (.int 10)) (.cst (.int 18))))) (.cons (.exp (.mth .append (.var i1) (.cons (.var i4) .nil))) .nil) .nil) (.cons (.asg (.name i2) (.bin .Mod (.blt .int (.cons (.bin .Add (.bin .Add (.bin .Mult (.var i2) (.cst (.int 40692))) (.bin .Mod (.var i4) (.cst (.int 2147480009)))) (.cst (.int 37))) .nil)) (.cst (.int 2147483647)))) .nil)))) (.cons (.ret (.lst (.cons (.var i1) (.cons (.var i2) (.cons (.dsp .nil) .nil))))) .nil))))
/-- _law_draw -/
def b9 : ISs := (.cons (.whl (.and (.val (.cmp .Gt (.blt .len (.cons (.idx (.var i0) (.cst (.int 0))) .nil)) (.cst (.int 0)))) (.val (.cmp .Eq (.idx (.idx (.var i0) (.cst (.int 0))) (.cst (.int 0))) (.cst (.int 0))))) (.cons (.exp (.mth .popAt (.idx (.var i0) (.cst (.int 0))) (.cons (.cst (.int 0)) .nil))) .nil)) (.cons (.ite (.val (.cmp .Gt (.blt .len (.cons (.idx (.var i0) (.cst (.int 0))) .nil)) (.cst (.int 0)))) (.cons (.asg (.name i2) (.bin .Mod (.blt .int (.cons (.idx (.idx (.var i0) (.cst (.int 0))) (.cst (.int 0))) .nil)) (.var i1))) (.cons (.asgS (.idx (.var i0) (.cst (.int 0))) (.cst (.int 0)) (.bin .FloorDiv (.idx (.idx (.var i0) (.cst (.int 0))) (.cst (.int 0))) (.var i1))) (.cons (.ret (.var i2)) .nil))) .nil) (.cons (.asgS (.var i0) (.cst (.int 1)) (.bin .Mod (.blt .int (.cons (.bin .Add (.bin .Mult (.idx (.var i0) (.cst (.int 1))) (.cst (.int 40692))) (.cst (.int 8017))) .nil)) (.cst (.int 2147483647)))) (.cons (.ret (.bin .Mod (.blt .int (.cons (.bin .FloorDiv (.idx (.var i0) (.cst (.int 1))) (.cst (.int 59))) .nil)) (.var i1))) .nil))))
/-- _law_pick -/
def b10 : ISs := (.cons (.ite (.val (.cmp .NotIn (.var i1) (.idx (.var i0) (.cst (.int 2))))) (.cons (.asgS (.idx (.var i0) (.cst (.int 2))) (.var i1) (.tup (.cons (.call 9 (.cons (.var i0) (.cons (.cst (.int 7)) .nil))) (.cons (.call 9 (.cons (.var i0) (.cons (.cst (.int 9973)) .nil))) .nil)))) .nil) .nil) (.cons (.asg (.tup [(.name i3), (.name i4)]) (.idx (.idx (.var i0) (.cst (.int 2))) (.var i1))) (.cons (.ite (.val (.cmp .Lt (.var i3) (.cst (.int 2)))) (.cons (.ret (.bin .Mult (.var i3) (.bin .Sub (.var i2) (.cst (.int 1))))) .nil) .nil) (.cons (.ret (.ite (.val (.cmp .Eq (.var i3) (.cst (.int 2)))) (.bin .Mod (.blt .int (.cons (.var i4) .nil)) (.var i2)) (.call 9 (.cons (.var i0) (.cons (.var i2) .nil))))) .nil))))
/-- _law_order -/
def b11 : ISs := (.cons (.asg (.name i2) (.blt .listRange (.cons (.var i1) .nil))) (.cons (.asg (.name i3) (.lst .nil)) (.cons (.for (.name i4) (.rng1 (.var i1)) (.cons (.exp (.mth .append (.var i3) (.cons (.mth .popAt (.var i2) (.cons (.call 9 (.cons (.var i0) (.cons (.blt .len (.cons (.var i2) .nil)) .nil))) .nil)) .nil))) .nil)) (.cons (.ret (.var i3)) .nil))))
/-- _law_words -/
def b12 : ISs := (.cons (.asg (.name i2) (.cst (.str ("abcdefghijklmnopqrstuvwxyz0123456789" : PySem.Str)))) (.cons (.asg (.name i3) (.lst .nil)) (.cons (.for (.name i4) (.seq (.slc (.call 11 (.cons (.var i0) (.cons (.cst (.int 26)) .nil))) .no (.yes (.var i1)))) (.cons (.asg (.name i5) (.idx (.tup (.cons (.cst (.int 0)) (.cons (.cst (.int 1)) (.cons (.cst (.int 7)) (.cons (.call 9 (.cons (.var i0) (.cons (.cst (.int 8)) .nil))) .nil))))) (.call 9 (.cons (.var i0) (.cons (.cst (.int 4)) .nil))))) (.cons (.exp (.mth .append (.var i3) (.cons (.bin .Add (.idx (.var i2) (.var i4)) (.mth .join (.cst (.str ("" : PySem.Str))) (.cons (.lc (.idx (.var i2) (.call 9 (.cons (.var i0) (.cons (.cst (.int 36)) .nil)))) (.name i6) (.rng1 (.var i5)) .yes [i6]) .nil))) .nil))) .nil))) (.cons (.ret (.var i3)) .nil))))
/-- _law_book -/
def b13 : ISs := (.cons (.asg (.name i5) (.lst .nil)) (.cons (.for (.name i6) (.rng1 (.var i2)) (.cons (.asg (.name i7) (.call 12 (.cons (.var i0) (.cons (.call 10 (.cons (.var i0) (.cons (.cst (.str ("moves" : PySem.Str))) (.cons (.bin .Add (.var i3) (.cst (.int 1))) .nil)))) .nil)))) (.cons (.asg (.name i8) (.lst .nil)) (.cons (.for (.name i9) (.seq (.var i7)) (.cons (.asg (.name i10) (.blt .tuple (.cons (.lc (.bin .Sub (.call 10 (.cons (.var i0) (.cons (.cst (.str ("pour" : PySem.Str))) (.cons (.bin .Add (.bin .Mult (.cst (.int 2)) (.var i4)) (.cst (.int 1))) .nil)))) (.var i4)) (.name i11) (.rng1 (.var i1)) .yes [i11]) .nil))) (.cons (.exp (.mth .append (.var i8) (.cons (.tup (.cons (.var i9) (.cons (.var i10) (.cons (.call 10 (.cons (.var i0) (.cons (.cst (.str ("goal" : PySem.Str))) (.cons (.var i2) .nil)))) .nil)))) .nil))) .nil))) (.cons (.exp (.mth .append (.var i5) (.cons (.tup (.cons (.idx (.tup (.cons (.cst (.str ("outside" : PySem.Str))) (.cons (.cst (.str ("house" : PySem.Str))) .nil))) (.call 10 (.cons (.var i0) (.cons (.cst (.str ("owner" : PySem.Str))) (.cons (.cst (.int 2)) .nil))))) (.cons (.blt .tuple (.cons (.var i8) .nil)) .nil))) .nil))) .nil))))) (.cons (.ret (.tup (.cons (.var i1) (.cons (.blt .tuple (.cons (.var i5) .nil)) .nil)))) .nil)))
/-- _law_same -/
def b14 : ISs := (.cons (.asg (.name i2) (.lst (.cons (.tup (.cons (.var i0) (.cons (.var i1) .nil))) .nil))) (.cons (.whl (.val (.cmp .Gt (.blt .len (.cons (.var i2) .nil)) (.cst (.int 0)))) (.cons (.asg (.tup [(.name i3), (.name i4)]) (.mth .pop (.var i2) .nil)) (.cons (.ite (.val (.isi (.var i4) .tupleList)) (.cons (.ite (.or (.val (.cmp .NotEq (.isi (.var i3) .tuple) (.isi (.var i4) .tuple))) (.val (.cmp .NotEq (.isi (.var i3) .list) (.isi (.var i4) .list)))) (.cons (.ret (.cst (.bl false))) .nil) .nil) (.cons (.ite (.val (.cmp .NotEq (.blt .len (.cons (.var i3) .nil)) (.blt .len (.cons (.var i4) .nil)))) (.cons (.ret (.cst (.bl false))) .nil) .nil) (.cons (.asg (.name i2) (.bin .Add (.var i2) (.lc (.tup (.cons (.idx (.var i3) (.var i5)) (.cons (.idx (.var i4) (.var i5)) .nil))) (.name i5) (.rng1 (.blt .len (.cons (.var i4) .nil))) .yes [i5]))) .nil))) (.cons (.ite (.val (.cmp .Is (.var i4) (.cst .non))) (.cons (.ite (.val (.cmp .IsNot (.var i3) (.cst .non))) (.cons (.ret (.cst (.bl false))) .nil) .nil) .nil) (.cons (.ite (.val (.isi (.var i4) .bool)) (.cons (.ite (.or (.not (.val (.isi (.var i3) .bool))) (.val (.cmp .NotEq (.var i3) (.var i4)))) (.cons (.ret (.cst (.bl false))) .nil) .nil) .nil) (.cons (.ite (.val (.isi (.var i4) .int)) (.cons (.ite (.or (.not (.val (.isi (.var i3) .int))) (.or (.val (.isi (.var i3) .bool)) (.val (.cmp .NotEq (.var i3) (.var i4))))) (.cons (.ret (.cst (.bl false))) .nil) .nil) .nil) (.cons (.ite (.or (.not (.val (.isi (.var i3) .str))) (.val (.cmp .NotEq (.var i3) (.var i4)))) (.cons (.ret (.cst (.bl false))) .nil) .nil) .nil)) .nil)) .nil)) .nil)) .nil))) (.cons (.ret (.cst (.bl true))) .nil)))
/-- _law_reached -/
def b15 : ISs := (.cons (.asg (.name i2) (.lst (.cons (.var i1) .nil))) (.cons (.asg (.name i3) (.cst (.int 0))) (.cons (.whl (.val (.cmp .Lt (.var i3) (.blt .len (.cons (.var i2) .nil)))) (.cons (.for (.tup [(.name i4), (.name i5), (.name i6)]) (.seq (.idx (.idx (.idx (.var i0) (.cst (.int 1))) (.idx (.var i2) (.var i3))) (.cst (.int 1)))) (.cons (.ite (.val (.cmp .NotIn (.var i6) (.var i2))) (.cons (.exp (.mth .append (.var i2) (.cons (.var i6) .nil))) .nil) .nil) .nil)) (.cons (.aug i3 .Add (.cst (.int 1))) .nil))) (.cons (.ret (.blt .tuple (.cons (.blt .sorted (.cons (.var i2) .nil)) .nil))) .nil))))
/-- _law_row -/
def b16 : ISs := (.cons (.asg (.name i3) (.call 11 (.cons (.var i0) (.cons (.var i1) .nil)))) (.cons (.asg (.name i4) (.bin .Mult (.lst (.cons (.tup (.cons (.cst (.str ("house" : PySem.Str))) (.cons (.tup .nil) .nil))) .nil)) (.var i1))) (.cons (.for (.name i5) (.rng1 (.var i1)) (.cons (.asg (.name i6) (.ite (.val (.cmp .Lt (.bin .Add (.var i5) (.cst (.int 1))) (.var i1))) (.lst (.cons (.tup (.cons (.cst (.str ("n" : PySem.Str))) (.cons (.tup (.cons (.cst (.int 0)) .nil)) (.cons (.idx (.var i3) (.bin .Add (.var i5) (.cst (.int 1)))) .nil)))) .nil)) (.lst .nil))) (.cons (.ite (.and (.val (.cmp .Eq (.bin .Add (.var i5) (.cst (.int 1))) (.var i1))) (.val (.cmp .Lt (.var i2) (.var i1)))) (.cons (.asg (.name i6) (.lst (.cons (.tup (.cons (.cst (.str ("back" : PySem.Str))) (.cons (.tup (.cons (.cst (.int 1)) .nil)) (.cons (.idx (.var i3) (.var i2)) .nil)))) .nil))) .nil) .nil) (.cons (.ite (.val (.cmp .Eq (.call 9 (.cons (.var i0) (.cons (.cst (.int 3)) .nil))) (.cst (.int 0)))) (.cons (.exp (.mth .append (.var i6) (.cons (.tup (.cons (.cst (.str ("loop" : PySem.Str))) (.cons (.tup (.cons (.neg (.cst (.int 1))) .nil)) (.cons (.idx (.var i3) (.var i5)) .nil)))) .nil))) .nil) .nil) (.cons (.asgS (.var i4) (.idx (.var i3) (.var i5)) (.tup (.cons (.idx (.tup (.cons (.cst (.str ("outside" : PySem.Str))) (.cons (.cst (.str ("house" : PySem.Str))) .nil))) (.call 9 (.cons (.var i0) (.cons (.cst (.int 2)) .nil)))) (.cons (.blt .tuple (.cons (.var i6) .nil)) .nil)))) .nil))))) (.cons (.ret (.tup (.cons (.tup (.cons (.cst (.int 1)) (.cons (.blt .tuple (.cons (.var i4) .nil)) .nil))) (.cons (.var i3) .nil)))) .nil))))
/-- _law_parts -/
def b17 : ISs := (.cons (.asg (.tup [(.name i7), (.name i8)]) (.var i1)) (.cons (.asg (.name i2) (.lst .nil)) (.cons (.asg (.name i3) (.dsp (.cons (.cst (.str ("outside" : PySem.Str))) (.lst .nil) (.cons (.cst (.str ("house" : PySem.Str))) (.lst .nil) .nil)))) (.cons (.for (.name i4) (.rng1 (.blt .len (.cons (.var i8) .nil))) (.cons (.asg (.tup [(.name i5), (.name i10)]) (.idx (.var i8) (.var i4))) (.cons (.exp (.mth .append (.idx (.var i3) (.var i5)) (.cons (.var i4) .nil))) (.cons (.ite (.val (.cmp .Eq (.blt .len (.cons (.var i10) .nil)) (.cst (.int 0)))) (.cons (.exp (.mth .append (.var i2) (.cons (.var i4) .nil))) .nil) .nil) (.cons (.ite (.not (.val (.call 14 (.cons (.call 1 (.cons (.var i1) (.cons (.var i4) .nil))) (.cons (.var i5) .nil))))) (.cons (.ret (.cst (.bl false))) .nil) .nil) (.cons (.ite (.not (.val (.call 14 (.cons (.callK 2 .nil (.cons (.var i4) (.cons (.var i1) .nil)) [1, 0]) (.cons (.var i10) .nil))))) (.cons (.ret (.cst (.bl false))) .nil) .nil) .nil)))))) (.cons (.ite (.or (.not (.val (.call 14 (.cons (.call 0 (.cons (.var i1) .nil)) (.cons (.var i7) .nil))))) (.not (.val (.call 14 (.cons (.call 4 (.cons (.var i1) .nil)) (.cons (.blt .tuple (.cons (.var i2) .nil)) .nil)))))) (.cons (.ret (.cst (.bl false))) .nil) .nil) (.cons (.for (.name i5) (.seq (.tup (.cons (.cst (.str ("house" : PySem.Str))) (.cons (.cst (.str ("outside" : PySem.Str))) .nil)))) (.cons (.ite (.not (.val (.call 14 (.cons (.call 5 (.cons (.var i1) (.cons (.var i5) .nil))) (.cons (.blt .tuple (.cons (.idx (.var i3) (.var i5)) .nil)) .nil))))) (.cons (.ret (.cst (.bl false))) .nil) .nil) .nil)) (.cons (.for (.name i6) (.rng1 (.cst (.int 3))) (.cons (.asg (.name i9) (.call 9 (.cons (.var i0) (.cons (.blt .len (.cons (.var i8) .nil)) .nil)))) (.cons (.ite (.not (.val (.call 14 (.cons (.call 7 (.cons (.var i1) (.cons (.var i9) .nil))) (.cons (.call 15 (.cons (.var i1) (.cons (.var i9) .nil))) .nil))))) (.cons (.ret (.cst (.bl false))) .nil) .nil) .nil))) (.cons (.ret (.cst (.bl true))) .nil))))))))
/-- law -/
def b18 : ISs := (.cons (.asg (.name i1) (.call 8 (.cons (.var i0) .nil))) (.cons (.for (.name i2) (.rng1 (.cst (.int 3))) (.cons (.asg (.name i8) (.call 13 (.cons (.var i1) (.cons (.bin .Add (.cst (.int 1)) (.call 9 (.cons (.var i1) (.cons (.cst (.int 4)) .nil)))) (.cons (.bin .Add (.cst (.int 1)) (.call 9 (.cons (.var i1) (.cons (.cst (.int 9)) .nil)))) (.cons (.cst (.int 4)) (.cons (.cst (.int 3)) .nil))))))) (.cons (.ite (.not (.val (.call 17 (.cons (.var i1) (.cons (.var i8) .nil))))) (.cons (.ret (.cst (.bl false))) .nil) .nil) .nil))) (.cons (.asg (.name i3) (.bin .Add (.cst (.int 2)) (.call 9 (.cons (.var i1) (.cons (.cst (.int 7)) .nil))))) (.cons (.asg (.name i4) (.call 9 (.cons (.var i1) (.cons (.bin .Add (.var i3) (.cst (.int 1))) .nil)))) (.cons (.asg (.tup [(.name i8), (.name i9)]) (.call 16 (.cons (.var i1) (.cons (.var i3) (.cons (.var i4) .nil))))) (.cons (.for (.name i5) (.rng1 (.var i3)) (.cons (.asg (.name i10) (.blt .tuple (.cons (.blt .sorted (.cons (.slc (.var i9) (.yes (.blt .min2 (.cons (.var i5) (.cons (.var i4) .nil)))) .no) .nil)) .nil))) (.cons (.ite (.not (.val (.call 14 (.cons (.callK 7 .nil (.cons (.idx (.var i9) (.var i5)) (.cons (.var i8) .nil)) [1, 0]) (.cons (.var i10) .nil))))) (.cons (.ret (.cst (.bl false))) .nil) .nil) .nil))) (.cons (.ite (.not (.val (.call 17 (.cons (.var i1) (.cons (.var i8) .nil))))) (.cons (.ret (.cst (.bl false))) .nil) .nil) (.cons (.asg (.name i6) (.tup (.cons (.cst (.int 2)) (.cons (.tup (.cons (.tup (.cons (.cst (.str ("outside" : PySem.Str))) (.cons (.tup .nil) .nil))) (.cons (.tup (.cons (.cst (.str ("house" : PySem.Str))) (.cons (.tup (.cons (.tup (.cons (.cst (.str ("a" : PySem.Str))) (.cons (.tup (.cons (.cst (.int 1)) (.cons (.cst (.int 2)) .nil))) (.cons (.cst (.int 1)) .nil)))) .nil)) .nil))) .nil))) .nil)))) (.cons (.asg (.name i7) (.tup (.cons (.call 7 (.cons (.var i6) (.cons (.cst (.int 0)) .nil))) (.cons (.call 7 (.cons (.var i6) (.cons (.cst (.int 1)) .nil))) (.cons (.callK 4 .nil (.cons (.var i6) .nil) [0]) .nil))))) (.cons (.ite (.not (.val (.call 14 (.cons (.bin .Add (.var i7) (.tup (.cons (.callK 5 .nil (.cons (.cst (.str ("house" : PySem.Str))) (.cons (.var i6) .nil)) [1, 0]) .nil))) (.cons (.tup (.cons (.tup (.cons (.cst (.int 0)) .nil)) (.cons (.tup (.cons (.cst (.int 1)) .nil)) (.cons (.tup (.cons (.cst (.int 0)) .nil)) (.cons (.tup (.cons (.cst (.int 1)) .nil)) .nil))))) .nil))))) (.cons (.ret (.cst (.bl false))) .nil) .nil) (.cons (.ret (.or (.cmp .NotEq (.call 9 (.cons (.var i1) (.cons (.cst (.int 7)) .nil))) (.cst (.int 5))) (.call 17 (.cons (.var i1) (.cons (.call 13 (.cons (.var i1) (.cons (.cst (.int 4)) (.cons (.cst (.int 24)) (.cons (.cst (.int 12)) (.cons (.bin .Pow (.cst (.int 10)) (.cst (.int 6))) .nil)))))) .nil))))) .nil)))))))))))
abbrev dep : Nat := 100
abbrev wid : Nat := 1000000
def Φ : List Fn := [⟨1, 1, b0⟩, ⟨2, 2, b1⟩, ⟨2, 2, b2⟩, ⟨2, 2, b3⟩, ⟨1, 2, b4⟩, ⟨2, 4, b5⟩, ⟨2, 7, b6⟩, ⟨2, 2, b7⟩, ⟨1, 5, b8⟩, ⟨2, 3, b9⟩, ⟨3, 5, b10⟩, ⟨2, 5, b11⟩, ⟨2, 7, b12⟩, ⟨5, 12, b13⟩, ⟨2, 6, b14⟩, ⟨2, 7, b15⟩, ⟨3, 7, b16⟩, ⟨2, 11, b17⟩, ⟨1, 11, b18⟩]
theorem c0 : DefC Φ funs kws 0 ["book"] (dN 0) (dst 0) := ⟨⟨by kernel_rfl, by kernel_rfl, by kernel_rfl, by decide +kernel, by kernel_rfl, by decide +kernel, by decide +kernel⟩, ⟨1, 1, b0⟩, 200, rfl, rfl, by kernel_rfl, by kernel_rfl⟩
theorem c1 : DefC Φ funs kws 1 ["book", "standing"] (dN 1) (dst 1) := ⟨⟨by kernel_rfl, by kernel_rfl, by kernel_rfl, by decide +kernel, by kernel_rfl, by decide +kernel, by decide +kernel⟩, ⟨2, 2, b1⟩, 200, rfl, rfl, by kernel_rfl, by kernel_rfl⟩
theorem c2 : DefC Φ funs kws 2 ["book", "standing"] (dN 2) (dst 2) := ⟨⟨by kernel_rfl, by kernel_rfl, by kernel_rfl, by decide +kernel, by kernel_rfl, by decide +kernel, by decide +kernel⟩, ⟨2, 2, b2⟩, 200, rfl, rfl, by kernel_rfl, by kernel_rfl⟩
theorem c3 : DefC Φ funs kws 3 ["book", "standing"] (dN 3) (dst 3) := ⟨⟨by kernel_rfl, by kernel_rfl, by kernel_rfl, by decide +kernel, by kernel_rfl, by decide +kernel, by decide +kernel⟩, ⟨2, 2, b3⟩, 200, rfl, rfl, by kernel_rfl, by kernel_rfl⟩
theorem c4 : DefC Φ funs kws 4 ["book"] (dN 4) (dst 4) := ⟨⟨by kernel_rfl, by kernel_rfl, by kernel_rfl, by decide +kernel, by kernel_rfl, by decide +kernel, by decide +kernel⟩, ⟨1, 2, b4⟩, 200, rfl, rfl, by kernel_rfl, by kernel_rfl⟩
theorem c5 : DefC Φ funs kws 5 ["book", "owner"] (dN 5) (dst 5) := ⟨⟨by kernel_rfl, by kernel_rfl, by kernel_rfl, by decide +kernel, by kernel_rfl, by decide +kernel, by decide +kernel⟩, ⟨2, 4, b5⟩, 200, rfl, rfl, by kernel_rfl, by kernel_rfl⟩
theorem c6 : DefC Φ funs kws 6 ["book", "start"] (dN 6) (dst 6) := ⟨⟨by kernel_rfl, by kernel_rfl, by kernel_rfl, by decide +kernel, by kernel_rfl, by decide +kernel, by decide +kernel⟩, ⟨2, 7, b6⟩, 200, rfl, rfl, by kernel_rfl, by kernel_rfl⟩
theorem c7 : DefC Φ funs kws 7 ["book", "start"] (dN 7) (dst 7) := ⟨⟨by kernel_rfl, by kernel_rfl, by kernel_rfl, by decide +kernel, by kernel_rfl, by decide +kernel, by decide +kernel⟩, ⟨2, 2, b7⟩, 200, rfl, rfl, by kernel_rfl, by kernel_rfl⟩
theorem c8 : DefC Φ funs kws 8 ["script"] (dN 8) (dst 8) := ⟨⟨by kernel_rfl, by kernel_rfl, by kernel_rfl, by decide +kernel, by kernel_rfl, by decide +kernel, by decide +kernel⟩, ⟨1, 5, b8⟩, 200, rfl, rfl, by kernel_rfl, by kernel_rfl⟩
theorem c9 : DefC Φ funs kws 9 ["bag", "many"] (dN 9) (dst 9) := ⟨⟨by kernel_rfl, by kernel_rfl, by kernel_rfl, by decide +kernel, by kernel_rfl, by decide +kernel, by decide +kernel⟩, ⟨2, 3, b9⟩, 200, rfl, rfl, by kernel_rfl, by kernel_rfl⟩
theorem c10 : DefC Φ funs kws 10 ["bag", "place", "many"] (dN 10) (dst 10) := ⟨⟨by kernel_rfl, by kernel_rfl, by kernel_rfl, by decide +kernel, by kernel_rfl, by decide +kernel, by decide +kernel⟩, ⟨3, 5, b10⟩, 200, rfl, rfl, by kernel_rfl, by kernel_rfl⟩
theorem c11 : DefC Φ funs kws 11 ["bag", "many"] (dN 11) (dst 11) := ⟨⟨by kernel_rfl, by kernel_rfl, by kernel_rfl, by decide +kernel, by kernel_rfl, by decide +kernel, by decide +kernel⟩, ⟨2, 5, b11⟩, 200, rfl, rfl, by kernel_rfl, by kernel_rfl⟩
theorem c12 : DefC Φ funs kws 12 ["bag", "many"] (dN 12) (dst 12) := ⟨⟨by kernel_rfl, by kernel_rfl, by kernel_rfl, by decide +kernel, by kernel_rfl, by decide +kernel, by decide +kernel⟩, ⟨2, 7, b12⟩, 200, rfl, rfl, by kernel_rfl, by kernel_rfl⟩
theorem c13 : DefC Φ funs kws 13 ["bag", "tanks", "many", "most", "size"] (dN 13) (dst 13) := ⟨⟨by kernel_rfl, by kernel_rfl, by kernel_rfl, by decide +kernel, by kernel_rfl, by decide +kernel, by decide +kernel⟩, ⟨5, 12, b13⟩, 200, rfl, rfl, by kernel_rfl, by kernel_rfl⟩
theorem c14 : DefC Φ funs kws 14 ["told", "due"] (dN 14) (dst 14) := ⟨⟨by kernel_rfl, by kernel_rfl, by kernel_rfl, by decide +kernel, by kernel_rfl, by decide +kernel, by decide +kernel⟩, ⟨2, 6, b14⟩, 200, rfl, rfl, by kernel_rfl, by kernel_rfl⟩
theorem c15 : DefC Φ funs kws 15 ["book", "start"] (dN 15) (dst 15) := ⟨⟨by kernel_rfl, by kernel_rfl, by kernel_rfl, by decide +kernel, by kernel_rfl, by decide +kernel, by decide +kernel⟩, ⟨2, 7, b15⟩, 200, rfl, rfl, by kernel_rfl, by kernel_rfl⟩
theorem c16 : DefC Φ funs kws 16 ["bag", "many", "back"] (dN 16) (dst 16) := ⟨⟨by kernel_rfl, by kernel_rfl, by kernel_rfl, by decide +kernel, by kernel_rfl, by decide +kernel, by decide +kernel⟩, ⟨3, 7, b16⟩, 200, rfl, rfl, by kernel_rfl, by kernel_rfl⟩
theorem c17 : DefC Φ funs kws 17 ["bag", "book"] (dN 17) (dst 17) := ⟨⟨by kernel_rfl, by kernel_rfl, by kernel_rfl, by decide +kernel, by kernel_rfl, by decide +kernel, by decide +kernel⟩, ⟨2, 11, b17⟩, 200, rfl, rfl, by kernel_rfl, by kernel_rfl⟩
theorem c18 : DefC Φ funs kws 18 ["script"] (dN 18) (dst 18) := ⟨⟨by kernel_rfl, by kernel_rfl, by kernel_rfl, by decide +kernel, by kernel_rfl, by decide +kernel, by decide +kernel⟩, ⟨1, 11, b18⟩, 200, rfl, rfl, by kernel_rfl, by kernel_rfl⟩
theorem dc : ∀ (f : Nat) (x : Str) (ps : List Str), funs[f]? = some (x, ps) → DefC Φ funs kws f ps (dN f) (dst f) := fun f x ps h => by
  match f, h with
  | 0, h => cases h; exact c0
  | 1, h => cases h; exact c1
  | 2, h => cases h; exact c2
  | 3, h => cases h; exact c3
  | 4, h => cases h; exact c4
  | 5, h => cases h; exact c5
  | 6, h => cases h; exact c6
  | 7, h => cases h; exact c7
  | 8, h => cases h; exact c8
  | 9, h => cases h; exact c9
  | 10, h => cases h; exact c10
  | 11, h => cases h; exact c11
  | 12, h => cases h; exact c12
  | 13, h => cases h; exact c13
  | 14, h => cases h; exact c14
  | 15, h => cases h; exact c15
  | 16, h => cases h; exact c16
  | 17, h => cases h; exact c17
  | 18, h => cases h; exact c18
  | n + 19, h => exact nomatch (show (none : Option (Str × List Str)) = some (x, ps) from h)
theorem all_mk {P : Program} {w : World} {K : PySem.W.Frag} {h : Heap} {mg : Str → Option Value} {fa : Addr} (X : K.In h) (G : h.Ns mainGlobals mg) (hfa : mg "law" = some (.ref fa))
    {f0 : Addr} {od0 an0 : Option Addr} {sl0 : Array (Option Value)} {oc0 kV0 dc0 pm0 cd0 ct0 : Value}
    {f1 : Addr} {od1 an1 : Option Addr} {sl1 : Array (Option Value)} {oc1 kV1 dc1 pm1 cd1 ct1 : Value}
    {f2 : Addr} {od2 an2 : Option Addr} {sl2 : Array (Option Value)} {oc2 kV2 dc2 pm2 cd2 ct2 : Value}
    {f3 : Addr} {od3 an3 : Option Addr} {sl3 : Array (Option Value)} {oc3 kV3 dc3 pm3 cd3 ct3 : Value}
    {f4 : Addr} {od4 an4 : Option Addr} {sl4 : Array (Option Value)} {oc4 kV4 dc4 pm4 cd4 ct4 : Value}
    {f5 : Addr} {od5 an5 : Option Addr} {sl5 : Array (Option Value)} {oc5 kV5 dc5 pm5 cd5 ct5 : Value}
    {f6 : Addr} {od6 an6 : Option Addr} {sl6 : Array (Option Value)} {oc6 kV6 dc6 pm6 cd6 ct6 : Value}
    {f7 : Addr} {od7 an7 : Option Addr} {sl7 : Array (Option Value)} {oc7 kV7 dc7 pm7 cd7 ct7 : Value}
    {f8 : Addr} {od8 an8 : Option Addr} {sl8 : Array (Option Value)} {oc8 kV8 dc8 pm8 cd8 ct8 : Value}
    {f9 : Addr} {od9 an9 : Option Addr} {sl9 : Array (Option Value)} {oc9 kV9 dc9 pm9 cd9 ct9 : Value}
    {f10 : Addr} {od10 an10 : Option Addr} {sl10 : Array (Option Value)} {oc10 kV10 dc10 pm10 cd10 ct10 : Value}
    {f11 : Addr} {od11 an11 : Option Addr} {sl11 : Array (Option Value)} {oc11 kV11 dc11 pm11 cd11 ct11 : Value}
    {f12 : Addr} {od12 an12 : Option Addr} {sl12 : Array (Option Value)} {oc12 kV12 dc12 pm12 cd12 ct12 : Value}
    {f13 : Addr} {od13 an13 : Option Addr} {sl13 : Array (Option Value)} {oc13 kV13 dc13 pm13 cd13 ct13 : Value}
    {f14 : Addr} {od14 an14 : Option Addr} {sl14 : Array (Option Value)} {oc14 kV14 dc14 pm14 cd14 ct14 : Value}
    {f15 : Addr} {od15 an15 : Option Addr} {sl15 : Array (Option Value)} {oc15 kV15 dc15 pm15 cd15 ct15 : Value}
    {f16 : Addr} {od16 an16 : Option Addr} {sl16 : Array (Option Value)} {oc16 kV16 dc16 pm16 cd16 ct16 : Value}
    {f17 : Addr} {od17 an17 : Option Addr} {sl17 : Array (Option Value)} {oc17 kV17 dc17 pm17 cd17 ct17 : Value}
    {f18 : Addr} {od18 an18 : Option Addr} {sl18 : Array (Option Value)} {oc18 kV18 dc18 pm18 cd18 ct18 : Value}
    (a0 : PySem.W.nsIn K mainGlobals "tanks_of" = some (some (.ref f0))) (l0 : K.lookup f0 = some ⟨oc0, od0, .func (PySem.W.fnOf "tanks_of" "tanks_of" (defArgs (topS 1)) (defBody (topS 1)) (defScope (topS 1)) .none kV0 dc0 pm0 an0 cd0 ct0), sl0⟩) (k0 : PySem.W.codeIn K cd0 "tanks_of" = true) (p0 : PySem.W.keepIn K (.ref f0) = true)
    (a1 : PySem.W.nsIn K mainGlobals "owner_of" = some (some (.ref f1))) (l1 : K.lookup f1 = some ⟨oc1, od1, .func (PySem.W.fnOf "owner_of" "owner_of" (defArgs (topS 2)) (defBody (topS 2)) (defScope (topS 2)) .none kV1 dc1 pm1 an1 cd1 ct1), sl1⟩) (k1 : PySem.W.codeIn K cd1 "owner_of" = true) (p1 : PySem.W.keepIn K (.ref f1) = true)
    (a2 : PySem.W.nsIn K mainGlobals "moves_of" = some (some (.ref f2))) (l2 : K.lookup f2 = some ⟨oc2, od2, .func (PySem.W.fnOf "moves_of" "moves_of" (defArgs (topS 3)) (defBody (topS 3)) (defScope (topS 3)) .none kV2 dc2 pm2 an2 cd2 ct2), sl2⟩) (k2 : PySem.W.codeIn K cd2 "moves_of" = true) (p2 : PySem.W.keepIn K (.ref f2) = true)
    (a3 : PySem.W.nsIn K mainGlobals "is_rest" = some (some (.ref f3))) (l3 : K.lookup f3 = some ⟨oc3, od3, .func (PySem.W.fnOf "is_rest" "is_rest" (defArgs (topS 4)) (defBody (topS 4)) (defScope (topS 4)) .none kV3 dc3 pm3 an3 cd3 ct3), sl3⟩) (k3 : PySem.W.codeIn K cd3 "is_rest" = true) (p3 : PySem.W.keepIn K (.ref f3) = true)
    (a4 : PySem.W.nsIn K mainGlobals "rests_of" = some (some (.ref f4))) (l4 : K.lookup f4 = some ⟨oc4, od4, .func (PySem.W.fnOf "rests_of" "rests_of" (defArgs (topS 5)) (defBody (topS 5)) (defScope (topS 5)) .none kV4 dc4 pm4 an4 cd4 ct4), sl4⟩) (k4 : PySem.W.codeIn K cd4 "rests_of" = true) (p4 : PySem.W.keepIn K (.ref f4) = true)
    (a5 : PySem.W.nsIn K mainGlobals "standings_of" = some (some (.ref f5))) (l5 : K.lookup f5 = some ⟨oc5, od5, .func (PySem.W.fnOf "standings_of" "standings_of" (defArgs (topS 6)) (defBody (topS 6)) (defScope (topS 6)) .none kV5 dc5 pm5 an5 cd5 ct5), sl5⟩) (k5 : PySem.W.codeIn K cd5 "standings_of" = true) (p5 : PySem.W.keepIn K (.ref f5) = true)
    (a6 : PySem.W.nsIn K mainGlobals "found_standings" = some (some (.ref f6))) (l6 : K.lookup f6 = some ⟨oc6, od6, .func (PySem.W.fnOf "found_standings" "found_standings" (defArgs (topS 7)) (defBody (topS 7)) (defScope (topS 7)) .none kV6 dc6 pm6 an6 cd6 ct6), sl6⟩) (k6 : PySem.W.codeIn K cd6 "found_standings" = true) (p6 : PySem.W.keepIn K (.ref f6) = true)
    (a7 : PySem.W.nsIn K mainGlobals "reached_standings" = some (some (.ref f7))) (l7 : K.lookup f7 = some ⟨oc7, od7, .func (PySem.W.fnOf "reached_standings" "reached_standings" (defArgs (topS 8)) (defBody (topS 8)) (defScope (topS 8)) .none kV7 dc7 pm7 an7 cd7 ct7), sl7⟩) (k7 : PySem.W.codeIn K cd7 "reached_standings" = true) (p7 : PySem.W.keepIn K (.ref f7) = true)
    (a8 : PySem.W.nsIn K mainGlobals "_law_bag" = some (some (.ref f8))) (l8 : K.lookup f8 = some ⟨oc8, od8, .func (PySem.W.fnOf "_law_bag" "_law_bag" (defArgs (topS 10)) (defBody (topS 10)) (defScope (topS 10)) .none kV8 dc8 pm8 an8 cd8 ct8), sl8⟩) (k8 : PySem.W.codeIn K cd8 "_law_bag" = true) (p8 : PySem.W.keepIn K (.ref f8) = true)
    (a9 : PySem.W.nsIn K mainGlobals "_law_draw" = some (some (.ref f9))) (l9 : K.lookup f9 = some ⟨oc9, od9, .func (PySem.W.fnOf "_law_draw" "_law_draw" (defArgs (topS 11)) (defBody (topS 11)) (defScope (topS 11)) .none kV9 dc9 pm9 an9 cd9 ct9), sl9⟩) (k9 : PySem.W.codeIn K cd9 "_law_draw" = true) (p9 : PySem.W.keepIn K (.ref f9) = true)
    (a10 : PySem.W.nsIn K mainGlobals "_law_pick" = some (some (.ref f10))) (l10 : K.lookup f10 = some ⟨oc10, od10, .func (PySem.W.fnOf "_law_pick" "_law_pick" (defArgs (topS 12)) (defBody (topS 12)) (defScope (topS 12)) .none kV10 dc10 pm10 an10 cd10 ct10), sl10⟩) (k10 : PySem.W.codeIn K cd10 "_law_pick" = true) (p10 : PySem.W.keepIn K (.ref f10) = true)
    (a11 : PySem.W.nsIn K mainGlobals "_law_order" = some (some (.ref f11))) (l11 : K.lookup f11 = some ⟨oc11, od11, .func (PySem.W.fnOf "_law_order" "_law_order" (defArgs (topS 13)) (defBody (topS 13)) (defScope (topS 13)) .none kV11 dc11 pm11 an11 cd11 ct11), sl11⟩) (k11 : PySem.W.codeIn K cd11 "_law_order" = true) (p11 : PySem.W.keepIn K (.ref f11) = true)
    (a12 : PySem.W.nsIn K mainGlobals "_law_words" = some (some (.ref f12))) (l12 : K.lookup f12 = some ⟨oc12, od12, .func (PySem.W.fnOf "_law_words" "_law_words" (defArgs (topS 14)) (defBody (topS 14)) (defScope (topS 14)) .none kV12 dc12 pm12 an12 cd12 ct12), sl12⟩) (k12 : PySem.W.codeIn K cd12 "_law_words" = true) (p12 : PySem.W.keepIn K (.ref f12) = true)
    (a13 : PySem.W.nsIn K mainGlobals "_law_book" = some (some (.ref f13))) (l13 : K.lookup f13 = some ⟨oc13, od13, .func (PySem.W.fnOf "_law_book" "_law_book" (defArgs (topS 15)) (defBody (topS 15)) (defScope (topS 15)) .none kV13 dc13 pm13 an13 cd13 ct13), sl13⟩) (k13 : PySem.W.codeIn K cd13 "_law_book" = true) (p13 : PySem.W.keepIn K (.ref f13) = true)
    (a14 : PySem.W.nsIn K mainGlobals "_law_same" = some (some (.ref f14))) (l14 : K.lookup f14 = some ⟨oc14, od14, .func (PySem.W.fnOf "_law_same" "_law_same" (defArgs (topS 16)) (defBody (topS 16)) (defScope (topS 16)) .none kV14 dc14 pm14 an14 cd14 ct14), sl14⟩) (k14 : PySem.W.codeIn K cd14 "_law_same" = true) (p14 : PySem.W.keepIn K (.ref f14) = true)
    (a15 : PySem.W.nsIn K mainGlobals "_law_reached" = some (some (.ref f15))) (l15 : K.lookup f15 = some ⟨oc15, od15, .func (PySem.W.fnOf "_law_reached" "_law_reached" (defArgs (topS 17)) (defBody (topS 17)) (defScope (topS 17)) .none kV15 dc15 pm15 an15 cd15 ct15), sl15⟩) (k15 : PySem.W.codeIn K cd15 "_law_reached" = true) (p15 : PySem.W.keepIn K (.ref f15) = true)
    (a16 : PySem.W.nsIn K mainGlobals "_law_row" = some (some (.ref f16))) (l16 : K.lookup f16 = some ⟨oc16, od16, .func (PySem.W.fnOf "_law_row" "_law_row" (defArgs (topS 18)) (defBody (topS 18)) (defScope (topS 18)) .none kV16 dc16 pm16 an16 cd16 ct16), sl16⟩) (k16 : PySem.W.codeIn K cd16 "_law_row" = true) (p16 : PySem.W.keepIn K (.ref f16) = true)
    (a17 : PySem.W.nsIn K mainGlobals "_law_parts" = some (some (.ref f17))) (l17 : K.lookup f17 = some ⟨oc17, od17, .func (PySem.W.fnOf "_law_parts" "_law_parts" (defArgs (topS 19)) (defBody (topS 19)) (defScope (topS 19)) .none kV17 dc17 pm17 an17 cd17 ct17), sl17⟩) (k17 : PySem.W.codeIn K cd17 "_law_parts" = true) (p17 : PySem.W.keepIn K (.ref f17) = true)
    (a18 : PySem.W.nsIn K mainGlobals "law" = some (some (.ref f18))) (l18 : K.lookup f18 = some ⟨oc18, od18, .func (PySem.W.fnOf "law" "law" (defArgs (topS 20)) (defBody (topS 20)) (defScope (topS 20)) .none kV18 dc18 pm18 an18 cd18 ct18), sl18⟩) (k18 : PySem.W.codeIn K cd18 "law" = true) (p18 : PySem.W.keepIn K (.ref f18) = true)
    (z0 : PySem.W.nsIn K mainGlobals "len" = some none) (z1 : PySem.W.nsIn K mainGlobals "abs" = some none) (z2 : PySem.W.nsIn K mainGlobals "int" = some none) (z3 : PySem.W.nsIn K mainGlobals "bool" = some none) (z4 : PySem.W.nsIn K mainGlobals "str" = some none) (z5 : PySem.W.nsIn K mainGlobals "tuple" = some none) (z6 : PySem.W.nsIn K mainGlobals "list" = some none) (z7 : PySem.W.nsIn K mainGlobals "sorted" = some none) (z8 : PySem.W.nsIn K mainGlobals "sum" = some none) (z9 : PySem.W.nsIn K mainGlobals "any" = some none) (z10 : PySem.W.nsIn K mainGlobals "all" = some none) (z11 : PySem.W.nsIn K mainGlobals "max" = some none) (z12 : PySem.W.nsIn K mainGlobals "min" = some none) (z13 : PySem.W.nsIn K mainGlobals "range" = some none) (z14 : PySem.W.nsIn K mainGlobals "enumerate" = some none) (z15 : PySem.W.nsIn K mainGlobals "zip" = some none) (z16 : PySem.W.nsIn K mainGlobals "reversed" = some none) (z17 : PySem.W.nsIn K mainGlobals "isinstance" = some none) :
    ∃ fd : FuncData, (∀ (s : Shared) (v : Value), BindsTo s fd ⟨[v], []⟩ [("script", v)]) ∧ ∀ base : Heap, K.In base → base.Ns mainGlobals mg → FnOk P w K mg base CX0 dep fa fd ["script"] (spC K (run Φ wid dep) 18 1) := by
  have d0 : DefIn K mg kws 0 "tanks_of" "tanks_of" ["book"] (dst 0) f0 _ := ⟨fun_mk (st := topS 1) l0 k0 p0, PySem.W.mg_of X G a0, (fun_mk (st := topS 1) l0 k0 p0).binds (ps := ["book"]) fun _ _ _ _ _ _ us hl => match us, hl with | [_], _ => rfl, List.forall_mem_cons.mpr ⟨fun e => absurd e (by decide), List.forall_mem_cons.mpr ⟨fun e => absurd e (by decide), List.forall_mem_cons.mpr ⟨fun e => absurd e (by decide), List.forall_mem_cons.mpr ⟨fun e => absurd e (by decide), fun _ h => absurd h List.not_mem_nil⟩⟩⟩⟩⟩
  have d1 : DefIn K mg kws 1 "owner_of" "owner_of" ["book", "standing"] (dst 1) f1 _ := ⟨fun_mk (st := topS 2) l1 k1 p1, PySem.W.mg_of X G a1, (fun_mk (st := topS 2) l1 k1 p1).binds (ps := ["book", "standing"]) fun _ _ _ _ _ _ us hl => match us, hl with | [_, _], _ => rfl, List.forall_mem_cons.mpr ⟨fun e => absurd e (by decide), List.forall_mem_cons.mpr ⟨fun e => absurd e (by decide), List.forall_mem_cons.mpr ⟨fun e => absurd e (by decide), List.forall_mem_cons.mpr ⟨fun e => absurd e (by decide), fun _ h => absurd h List.not_mem_nil⟩⟩⟩⟩⟩
  have d2 : DefIn K mg kws 2 "moves_of" "moves_of" ["book", "standing"] (dst 2) f2 _ := ⟨fun_mk (st := topS 3) l2 k2 p2, PySem.W.mg_of X G a2, (fun_mk (st := topS 3) l2 k2 p2).binds (ps := ["book", "standing"]) fun _ _ _ _ _ _ us hl => match us, hl with | [_, _], _ => rfl, List.forall_mem_cons.mpr ⟨fun _ => ⟨rfl, fun s us ws h1 h2 => match us, ws, h1, h2 with | [], [_, _], _, _ => .of_eq rfl⟩, List.forall_mem_cons.mpr ⟨fun e => absurd e (by decide), List.forall_mem_cons.mpr ⟨fun e => absurd e (by decide), List.forall_mem_cons.mpr ⟨fun e => absurd e (by decide), fun _ h => absurd h List.not_mem_nil⟩⟩⟩⟩⟩
  have d3 : DefIn K mg kws 3 "is_rest" "is_rest" ["book", "standing"] (dst 3) f3 _ := ⟨fun_mk (st := topS 4) l3 k3 p3, PySem.W.mg_of X G a3, (fun_mk (st := topS 4) l3 k3 p3).binds (ps := ["book", "standing"]) fun _ _ _ _ _ _ us hl => match us, hl with | [_, _], _ => rfl, List.forall_mem_cons.mpr ⟨fun e => absurd e (by decide), List.forall_mem_cons.mpr ⟨fun e => absurd e (by decide), List.forall_mem_cons.mpr ⟨fun e => absurd e (by decide), List.forall_mem_cons.mpr ⟨fun e => absurd e (by decide), fun _ h => absurd h List.not_mem_nil⟩⟩⟩⟩⟩
  have d4 : DefIn K mg kws 4 "rests_of" "rests_of" ["book"] (dst 4) f4 _ := ⟨fun_mk (st := topS 5) l4 k4 p4, PySem.W.mg_of X G a4, (fun_mk (st := topS 5) l4 k4 p4).binds (ps := ["book"]) fun _ _ _ _ _ _ us hl => match us, hl with | [_], _ => rfl, List.forall_mem_cons.mpr ⟨fun e => absurd e (by decide), List.forall_mem_cons.mpr ⟨fun _ => ⟨rfl, fun s us ws h1 h2 => match us, ws, h1, h2 with | [], [_], _, _ => .of_eq rfl⟩, List.forall_mem_cons.mpr ⟨fun e => absurd e (by decide), List.forall_mem_cons.mpr ⟨fun e => absurd e (by decide), fun _ h => absurd h List.not_mem_nil⟩⟩⟩⟩⟩
  have d5 : DefIn K mg kws 5 "standings_of" "standings_of" ["book", "owner"] (dst 5) f5 _ := ⟨fun_mk (st := topS 6) l5 k5 p5, PySem.W.mg_of X G a5, (fun_mk (st := topS 6) l5 k5 p5).binds (ps := ["book", "owner"]) fun _ _ _ _ _ _ us hl => match us, hl with | [_, _], _ => rfl, List.forall_mem_cons.mpr ⟨fun e => absurd e (by decide), List.forall_mem_cons.mpr ⟨fun e => absurd e (by decide), List.forall_mem_cons.mpr ⟨fun e => absurd e (by decide), List.forall_mem_cons.mpr ⟨fun _ => ⟨rfl, fun s us ws h1 h2 => match us, ws, h1, h2 with | [], [_, _], _, _ => .of_eq rfl⟩, fun _ h => absurd h List.not_mem_nil⟩⟩⟩⟩⟩
  have d6 : DefIn K mg kws 6 "found_standings" "found_standings" ["book", "start"] (dst 6) f6 _ := ⟨fun_mk (st := topS 7) l6 k6 p6, PySem.W.mg_of X G a6, (fun_mk (st := topS 7) l6 k6 p6).binds (ps := ["book", "start"]) fun _ _ _ _ _ _ us hl => match us, hl with | [_, _], _ => rfl, List.forall_mem_cons.mpr ⟨fun e => absurd e (by decide), List.forall_mem_cons.mpr ⟨fun e => absurd e (by decide), List.forall_mem_cons.mpr ⟨fun e => absurd e (by decide), List.forall_mem_cons.mpr ⟨fun e => absurd e (by decide), fun _ h => absurd h List.not_mem_nil⟩⟩⟩⟩⟩
  have d7 : DefIn K mg kws 7 "reached_standings" "reached_standings" ["book", "start"] (dst 7) f7 _ := ⟨fun_mk (st := topS 8) l7 k7 p7, PySem.W.mg_of X G a7, (fun_mk (st := topS 8) l7 k7 p7).binds (ps := ["book", "start"]) fun _ _ _ _ _ _ us hl => match us, hl with | [_, _], _ => rfl, List.forall_mem_cons.mpr ⟨fun e => absurd e (by decide), List.forall_mem_cons.mpr ⟨fun e => absurd e (by decide), List.forall_mem_cons.mpr ⟨fun _ => ⟨rfl, fun s us ws h1 h2 => match us, ws, h1, h2 with | [], [_, _], _, _ => .of_eq rfl⟩, List.forall_mem_cons.mpr ⟨fun e => absurd e (by decide), fun _ h => absurd h List.not_mem_nil⟩⟩⟩⟩⟩
  have d8 : DefIn K mg kws 8 "_law_bag" "_law_bag" ["script"] (dst 8) f8 _ := ⟨fun_mk (st := topS 10) l8 k8 p8, PySem.W.mg_of X G a8, (fun_mk (st := topS 10) l8 k8 p8).binds (ps := ["script"]) fun _ _ _ _ _ _ us hl => match us, hl with | [_], _ => rfl, List.forall_mem_cons.mpr ⟨fun e => absurd e (by decide), List.forall_mem_cons.mpr ⟨fun e => absurd e (by decide), List.forall_mem_cons.mpr ⟨fun e => absurd e (by decide), List.forall_mem_cons.mpr ⟨fun e => absurd e (by decide), fun _ h => absurd h List.not_mem_nil⟩⟩⟩⟩⟩
  have d9 : DefIn K mg kws 9 "_law_draw" "_law_draw" ["bag", "many"] (dst 9) f9 _ := ⟨fun_mk (st := topS 11) l9 k9 p9, PySem.W.mg_of X G a9, (fun_mk (st := topS 11) l9 k9 p9).binds (ps := ["bag", "many"]) fun _ _ _ _ _ _ us hl => match us, hl with | [_, _], _ => rfl, List.forall_mem_cons.mpr ⟨fun e => absurd e (by decide), List.forall_mem_cons.mpr ⟨fun e => absurd e (by decide), List.forall_mem_cons.mpr ⟨fun e => absurd e (by decide), List.forall_mem_cons.mpr ⟨fun e => absurd e (by decide), fun _ h => absurd h List.not_mem_nil⟩⟩⟩⟩⟩
  have d10 : DefIn K mg kws 10 "_law_pick" "_law_pick" ["bag", "place", "many"] (dst 10) f10 _ := ⟨fun_mk (st := topS 12) l10 k10 p10, PySem.W.mg_of X G a10, (fun_mk (st := topS 12) l10 k10 p10).binds (ps := ["bag", "place", "many"]) fun _ _ _ _ _ _ us hl => match us, hl with | [_, _, _], _ => rfl, List.forall_mem_cons.mpr ⟨fun e => absurd e (by decide), List.forall_mem_cons.mpr ⟨fun e => absurd e (by decide), List.forall_mem_cons.mpr ⟨fun e => absurd e (by decide), List.forall_mem_cons.mpr ⟨fun e => absurd e (by decide), fun _ h => absurd h List.not_mem_nil⟩⟩⟩⟩⟩
  have d11 : DefIn K mg kws 11 "_law_order" "_law_order" ["bag", "many"] (dst 11) f11 _ := ⟨fun_mk (st := topS 13) l11 k11 p11, PySem.W.mg_of X G a11, (fun_mk (st := topS 13) l11 k11 p11).binds (ps := ["bag", "many"]) fun _ _ _ _ _ _ us hl => match us, hl with | [_, _], _ => rfl, List.forall_mem_cons.mpr ⟨fun e => absurd e (by decide), List.forall_mem_cons.mpr ⟨fun e => absurd e (by decide), List.forall_mem_cons.mpr ⟨fun e => absurd e (by decide), List.forall_mem_cons.mpr ⟨fun e => absurd e (by decide), fun _ h => absurd h List.not_mem_nil⟩⟩⟩⟩⟩
  have d12 : DefIn K mg kws 12 "_law_words" "_law_words" ["bag", "many"] (dst 12) f12 _ := ⟨fun_mk (st := topS 14) l12 k12 p12, PySem.W.mg_of X G a12, (fun_mk (st := topS 14) l12 k12 p12).binds (ps := ["bag", "many"]) fun _ _ _ _ _ _ us hl => match us, hl with | [_, _], _ => rfl, List.forall_mem_cons.mpr ⟨fun e => absurd e (by decide), List.forall_mem_cons.mpr ⟨fun e => absurd e (by decide), List.forall_mem_cons.mpr ⟨fun e => absurd e (by decide), List.forall_mem_cons.mpr ⟨fun e => absurd e (by decide), fun _ h => absurd h List.not_mem_nil⟩⟩⟩⟩⟩
  have d13 : DefIn K mg kws 13 "_law_book" "_law_book" ["bag", "tanks", "many", "most", "size"] (dst 13) f13 _ := ⟨fun_mk (st := topS 15) l13 k13 p13, PySem.W.mg_of X G a13, (fun_mk (st := topS 15) l13 k13 p13).binds (ps := ["bag", "tanks", "many", "most", "size"]) fun _ _ _ _ _ _ us hl => match us, hl with | [_, _, _, _, _], _ => rfl, List.forall_mem_cons.mpr ⟨fun e => absurd e (by decide), List.forall_mem_cons.mpr ⟨fun e => absurd e (by decide), List.forall_mem_cons.mpr ⟨fun e => absurd e (by decide), List.forall_mem_cons.mpr ⟨fun e => absurd e (by decide), fun _ h => absurd h List.not_mem_nil⟩⟩⟩⟩⟩
  have d14 : DefIn K mg kws 14 "_law_same" "_law_same" ["told", "due"] (dst 14) f14 _ := ⟨fun_mk (st := topS 16) l14 k14 p14, PySem.W.mg_of X G a14, (fun_mk (st := topS 16) l14 k14 p14).binds (ps := ["told", "due"]) fun _ _ _ _ _ _ us hl => match us, hl with | [_, _], _ => rfl, List.forall_mem_cons.mpr ⟨fun e => absurd e (by decide), List.forall_mem_cons.mpr ⟨fun e => absurd e (by decide), List.forall_mem_cons.mpr ⟨fun e => absurd e (by decide), List.forall_mem_cons.mpr ⟨fun e => absurd e (by decide), fun _ h => absurd h List.not_mem_nil⟩⟩⟩⟩⟩
  have d15 : DefIn K mg kws 15 "_law_reached" "_law_reached" ["book", "start"] (dst 15) f15 _ := ⟨fun_mk (st := topS 17) l15 k15 p15, PySem.W.mg_of X G a15, (fun_mk (st := topS 17) l15 k15 p15).binds (ps := ["book", "start"]) fun _ _ _ _ _ _ us hl => match us, hl with | [_, _], _ => rfl, List.forall_mem_cons.mpr ⟨fun e => absurd e (by decide), List.forall_mem_cons.mpr ⟨fun e => absurd e (by decide), List.forall_mem_cons.mpr ⟨fun e => absurd e (by decide), List.forall_mem_cons.mpr ⟨fun e => absurd e (by decide), fun _ h => absurd h List.not_mem_nil⟩⟩⟩⟩⟩
  have d16 : DefIn K mg kws 16 "_law_row" "_law_row" ["bag", "many", "back"] (dst 16) f16 _ := ⟨fun_mk (st := topS 18) l16 k16 p16, PySem.W.mg_of X G a16, (fun_mk (st := topS 18) l16 k16 p16).binds (ps := ["bag", "many", "back"]) fun _ _ _ _ _ _ us hl => match us, hl with | [_, _, _], _ => rfl, List.forall_mem_cons.mpr ⟨fun e => absurd e (by decide), List.forall_mem_cons.mpr ⟨fun e => absurd e (by decide), List.forall_mem_cons.mpr ⟨fun e => absurd e (by decide), List.forall_mem_cons.mpr ⟨fun e => absurd e (by decide), fun _ h => absurd h List.not_mem_nil⟩⟩⟩⟩⟩
  have d17 : DefIn K mg kws 17 "_law_parts" "_law_parts" ["bag", "book"] (dst 17) f17 _ := ⟨fun_mk (st := topS 19) l17 k17 p17, PySem.W.mg_of X G a17, (fun_mk (st := topS 19) l17 k17 p17).binds (ps := ["bag", "book"]) fun _ _ _ _ _ _ us hl => match us, hl with | [_, _], _ => rfl, List.forall_mem_cons.mpr ⟨fun e => absurd e (by decide), List.forall_mem_cons.mpr ⟨fun e => absurd e (by decide), List.forall_mem_cons.mpr ⟨fun e => absurd e (by decide), List.forall_mem_cons.mpr ⟨fun e => absurd e (by decide), fun _ h => absurd h List.not_mem_nil⟩⟩⟩⟩⟩
  have d18 : DefIn K mg kws 18 "law" "law" ["script"] (dst 18) f18 _ := ⟨fun_mk (st := topS 20) l18 k18 p18, PySem.W.mg_of X G a18, (fun_mk (st := topS 20) l18 k18 p18).binds (ps := ["script"]) fun _ _ _ _ _ _ us hl => match us, hl with | [_], _ => rfl, List.forall_mem_cons.mpr ⟨fun e => absurd e (by decide), List.forall_mem_cons.mpr ⟨fun e => absurd e (by decide), List.forall_mem_cons.mpr ⟨fun e => absurd e (by decide), List.forall_mem_cons.mpr ⟨fun e => absurd e (by decide), fun _ h => absurd h List.not_mem_nil⟩⟩⟩⟩⟩
  have dd : ∀ (f : Nat) (x : Str) (ps : List Str), funs[f]? = some (x, ps) → ∃ qual a fd, DefIn K mg kws f x qual ps (dst f) a fd := fun f x ps h => by
    match f, h with
    | 0, h => cases h; exact ⟨_, _, _, d0⟩
    | 1, h => cases h; exact ⟨_, _, _, d1⟩
    | 2, h => cases h; exact ⟨_, _, _, d2⟩
    | 3, h => cases h; exact ⟨_, _, _, d3⟩
    | 4, h => cases h; exact ⟨_, _, _, d4⟩
    | 5, h => cases h; exact ⟨_, _, _, d5⟩
    | 6, h => cases h; exact ⟨_, _, _, d6⟩
    | 7, h => cases h; exact ⟨_, _, _, d7⟩
    | 8, h => cases h; exact ⟨_, _, _, d8⟩
    | 9, h => cases h; exact ⟨_, _, _, d9⟩
    | 10, h => cases h; exact ⟨_, _, _, d10⟩
    | 11, h => cases h; exact ⟨_, _, _, d11⟩
    | 12, h => cases h; exact ⟨_, _, _, d12⟩
    | 13, h => cases h; exact ⟨_, _, _, d13⟩
    | 14, h => cases h; exact ⟨_, _, _, d14⟩
    | 15, h => cases h; exact ⟨_, _, _, d15⟩
    | 16, h => cases h; exact ⟨_, _, _, d16⟩
    | 17, h => cases h; exact ⟨_, _, _, d17⟩
    | 18, h => cases h; exact ⟨_, _, _, d18⟩
    | n + 19, h => exact nomatch (show (none : Option (Str × List Str)) = some (x, ps) from h)
  have bl : ∀ y ∈ bltNames, mg y = none := List.forall_mem_cons.mpr ⟨PySem.W.mg_none_of X G z0, List.forall_mem_cons.mpr ⟨PySem.W.mg_none_of X G z1, List.forall_mem_cons.mpr ⟨PySem.W.mg_none_of X G z2, List.forall_mem_cons.mpr ⟨PySem.W.mg_none_of X G z3, List.forall_mem_cons.mpr ⟨PySem.W.mg_none_of X G z4, List.forall_mem_cons.mpr ⟨PySem.W.mg_none_of X G z5, List.forall_mem_cons.mpr ⟨PySem.W.mg_none_of X G z6, List.forall_mem_cons.mpr ⟨PySem.W.mg_none_of X G z7, List.forall_mem_cons.mpr ⟨PySem.W.mg_none_of X G z8, List.forall_mem_cons.mpr ⟨PySem.W.mg_none_of X G z9, List.forall_mem_cons.mpr ⟨PySem.W.mg_none_of X G z10, List.forall_mem_cons.mpr ⟨PySem.W.mg_none_of X G z11, List.forall_mem_cons.mpr ⟨PySem.W.mg_none_of X G z12, List.forall_mem_cons.mpr ⟨PySem.W.mg_none_of X G z13, List.forall_mem_cons.mpr ⟨PySem.W.mg_none_of X G z14, List.forall_mem_cons.mpr ⟨PySem.W.mg_none_of X G z15, List.forall_mem_cons.mpr ⟨PySem.W.mg_none_of X G z16, List.forall_mem_cons.mpr ⟨PySem.W.mg_none_of X G z17, fun _ h => absurd h List.not_mem_nil⟩⟩⟩⟩⟩⟩⟩⟩⟩⟩⟩⟩⟩⟩⟩⟩⟩⟩
  have e := hfa.symm.trans (PySem.W.mg_of X G a18)
  cases e
  exact ⟨_, fun s v => .of_eq rfl, fun base _ _ => table bl dd dc dep 18 "law" "law" ["script"] _ _ rfl d18⟩
end K04

namespace K04
open PySem L2 Mi
variable {n : Nat} {S : Sto} {t : Nat} {ss : List Stg}
theorem at_map {α : Type} {xs : List α} {f : α → D} {i : Nat} {x : α} (h : xs[i]? = some x) : atI (xs.map f) (i : Nat) = some (f x) := atI_nat (by rw [List.getElem?_map, h]; rfl)
theorem w_tanks : Wp (Mi.run Φ wid (n + 1) 0 [dBook t ss] S) fun d S' => d = .int t ∧ S' = S := wp_run rfl rfl (by
  have b : bgn 1 [dBook t ss] = [some (dBook t ss)] := rfl
  simp only [b]
  simp only [b0, dBook, wv_var, wv_cst, wv_bin, wv_neg, wv_cmp, wv_chn, wv_not, wv_and, wv_or, wv_ite, wv_idx, wv_slc, wv_tup, wv_lst, wv_dsp0, wv_dsp, wd_nil, wd_cons, wv_call, wv_callK, wv_blt, wv_mth, wv_isi, wv_lc, vp_turn, vp_turn2, ws_nil, ws_cons, wp_no, wp_yes, wt_val, wt_not, wt_and, wt_or, wo_yes, wo_one, wi_seq, wi_rng1, wi_rng2, wi_enm, rs_asg, rs_asgS, rs_aug, rs_augS, rs_exp, rs_ret, rs_retN, rs_ite, rs_for, rs_body, rs_whl, rs_brk, rs_cnt, rs_pas, rp_cons, rp_nil, seq_nx, seq_ret, seq_brk, seq_cnt, loop_nx, loop_ret, loop_brk, loop_cnt, wp_some, vp_some, vp_map, vp_gte, vp_gteP, gteP, o_ixT, o_ixP, o_ixK, i_lst, i_frz, i_dct, i_dctK, at0, at1, at2, at3, ix0, ix1, ix2, cast_pos, cast_ne, zero_cast, if_false, if_true, ite_false, ite_true, b_lenT, b_lenP, l_lst, l_frz, l_dct, b_abs, b_int, b_intB, b_tupT, b_tupP, b_lstT, b_lstP, b_srt, b_sum, b_any, b_all, b_max2, b_min2, b_lrg, o_add, o_sub, o_mul, o_fdv, o_mod, o_pow, o_cat, o_catS, o_catP, o_rep, n_int, bo_bl, in_int, c_lt, c_le, c_gt, c_ge, c_eq, c_ne, c_in, c_nin, e_ii, e_ss, e_bb, t_bl, t_int, t_tup, t_ptr, s_tup, s_ptr, m_app, m_pop, m_popAt, m_joinP, r_app, r_pop, r_popAt, r_join, a_add, a_sub, d_set, d_lst, d_dct, k_int, k_str, q_name, q_tup, q_nil, q_cons, p_z, p_s, g_z, g_s, f_nil, f_cons, z_n, z_b, z_i, z_s, z_t, cs_n, cs_b, cs_i, cs_s, cs_t, cn_n, cn_b, cn_i, cn_s, cn_t, isT, reduceCtorEq, decide_true, decide_false, Bool.or_true, Bool.or_false, Bool.true_or, Bool.false_or, Bool.not_true, Bool.not_false, true_implies, Bool.true_eq_false, Bool.false_eq_true, not_true_eq_false, not_false_eq_true, false_implies, and_true, true_and, decide_eq_true_eq, forall_const, Option.map_some, Option.bind_some, List.length_cons, List.length_nil])
theorem w_owner {i : Nat} {s : Stg} (h : ss[i]? = some s) : Wp (Mi.run Φ wid (n + 1) 1 [dBook t ss, .int i] S) fun d S' => d = .str (ownS s.own) ∧ S' = S := wp_run rfl rfl (by
  have b : bgn 2 [dBook t ss, .int i] = [some (dBook t ss), some (.int i)] := rfl
  simp only [b]
  simp only [b1, dBook, wv_var, wv_cst, wv_bin, wv_neg, wv_cmp, wv_chn, wv_not, wv_and, wv_or, wv_ite, wv_idx, wv_slc, wv_tup, wv_lst, wv_dsp0, wv_dsp, wd_nil, wd_cons, wv_call, wv_callK, wv_blt, wv_mth, wv_isi, wv_lc, vp_turn, vp_turn2, ws_nil, ws_cons, wp_no, wp_yes, wt_val, wt_not, wt_and, wt_or, wo_yes, wo_one, wi_seq, wi_rng1, wi_rng2, wi_enm, rs_asg, rs_asgS, rs_aug, rs_augS, rs_exp, rs_ret, rs_retN, rs_ite, rs_for, rs_body, rs_whl, rs_brk, rs_cnt, rs_pas, rp_cons, rp_nil, seq_nx, seq_ret, seq_brk, seq_cnt, loop_nx, loop_ret, loop_brk, loop_cnt, wp_some, vp_some, vp_map, vp_gte, vp_gteP, gteP, o_ixT, o_ixP, o_ixK, i_lst, i_frz, i_dct, i_dctK, at0, at1, at2, at3, ix0, ix1, ix2, cast_pos, cast_ne, zero_cast, if_false, if_true, ite_false, ite_true, b_lenT, b_lenP, l_lst, l_frz, l_dct, b_abs, b_int, b_intB, b_tupT, b_tupP, b_lstT, b_lstP, b_srt, b_sum, b_any, b_all, b_max2, b_min2, b_lrg, o_add, o_sub, o_mul, o_fdv, o_mod, o_pow, o_cat, o_catS, o_catP, o_rep, n_int, bo_bl, in_int, c_lt, c_le, c_gt, c_ge, c_eq, c_ne, c_in, c_nin, e_ii, e_ss, e_bb, t_bl, t_int, t_tup, t_ptr, s_tup, s_ptr, m_app, m_pop, m_popAt, m_joinP, r_app, r_pop, r_popAt, r_join, a_add, a_sub, d_set, d_lst, d_dct, k_int, k_str, q_name, q_tup, q_nil, q_cons, p_z, p_s, g_z, g_s, f_nil, f_cons, z_n, z_b, z_i, z_s, z_t, cs_n, cs_b, cs_i, cs_s, cs_t, cn_n, cn_b, cn_i, cn_s, cn_t, isT, reduceCtorEq, decide_true, decide_false, Bool.or_true, Bool.or_false, Bool.true_or, Bool.false_or, Bool.not_true, Bool.not_false, true_implies, Bool.true_eq_false, Bool.false_eq_true, not_true_eq_false, not_false_eq_true, false_implies, and_true, true_and, decide_eq_true_eq, forall_const, Option.map_some, Option.bind_some, List.length_cons, List.length_nil, at_map h, dSt])
theorem w_moves {i : Nat} {s : Stg} (h : ss[i]? = some s) : Wp (Mi.run Φ wid (n + 1) 2 [dBook t ss, .int i] S) fun d S' => d = .tup (s.moves.map dMv) ∧ S' = S := wp_run rfl rfl (by
  have b : bgn 2 [dBook t ss, .int i] = [some (dBook t ss), some (.int i)] := rfl
  simp only [b]
  simp only [b2, dBook, wv_var, wv_cst, wv_bin, wv_neg, wv_cmp, wv_chn, wv_not, wv_and, wv_or, wv_ite, wv_idx, wv_slc, wv_tup, wv_lst, wv_dsp0, wv_dsp, wd_nil, wd_cons, wv_call, wv_callK, wv_blt, wv_mth, wv_isi, wv_lc, vp_turn, vp_turn2, ws_nil, ws_cons, wp_no, wp_yes, wt_val, wt_not, wt_and, wt_or, wo_yes, wo_one, wi_seq, wi_rng1, wi_rng2, wi_enm, rs_asg, rs_asgS, rs_aug, rs_augS, rs_exp, rs_ret, rs_retN, rs_ite, rs_for, rs_body, rs_whl, rs_brk, rs_cnt, rs_pas, rp_cons, rp_nil, seq_nx, seq_ret, seq_brk, seq_cnt, loop_nx, loop_ret, loop_brk, loop_cnt, wp_some, vp_some, vp_map, vp_gte, vp_gteP, gteP, o_ixT, o_ixP, o_ixK, i_lst, i_frz, i_dct, i_dctK, at0, at1, at2, at3, ix0, ix1, ix2, cast_pos, cast_ne, zero_cast, if_false, if_true, ite_false, ite_true, b_lenT, b_lenP, l_lst, l_frz, l_dct, b_abs, b_int, b_intB, b_tupT, b_tupP, b_lstT, b_lstP, b_srt, b_sum, b_any, b_all, b_max2, b_min2, b_lrg, o_add, o_sub, o_mul, o_fdv, o_mod, o_pow, o_cat, o_catS, o_catP, o_rep, n_int, bo_bl, in_int, c_lt, c_le, c_gt, c_ge, c_eq, c_ne, c_in, c_nin, e_ii, e_ss, e_bb, t_bl, t_int, t_tup, t_ptr, s_tup, s_ptr, m_app, m_pop, m_popAt, m_joinP, r_app, r_pop, r_popAt, r_join, a_add, a_sub, d_set, d_lst, d_dct, k_int, k_str, q_name, q_tup, q_nil, q_cons, p_z, p_s, g_z, g_s, f_nil, f_cons, z_n, z_b, z_i, z_s, z_t, cs_n, cs_b, cs_i, cs_s, cs_t, cn_n, cn_b, cn_i, cn_s, cn_t, isT, reduceCtorEq, decide_true, decide_false, Bool.or_true, Bool.or_false, Bool.true_or, Bool.false_or, Bool.not_true, Bool.not_false, true_implies, Bool.true_eq_false, Bool.false_eq_true, not_true_eq_false, not_false_eq_true, false_implies, and_true, true_and, decide_eq_true_eq, forall_const, Option.map_some, Option.bind_some, List.length_cons, List.length_nil, at_map h, dSt])
theorem w_rest {i : Nat} {s : Stg} (h : ss[i]? = some s) : Wp (Mi.run Φ wid (n + 1) 3 [dBook t ss, .int i] S) fun d S' => d = .bl s.moves.isEmpty ∧ S' = S := wp_run rfl rfl (by
  have b : bgn 2 [dBook t ss, .int i] = [some (dBook t ss), some (.int i)] := rfl
  simp only [b]
  simp only [b3, dBook, wv_var, wv_cst, wv_bin, wv_neg, wv_cmp, wv_chn, wv_not, wv_and, wv_or, wv_ite, wv_idx, wv_slc, wv_tup, wv_lst, wv_dsp0, wv_dsp, wd_nil, wd_cons, wv_call, wv_callK, wv_blt, wv_mth, wv_isi, wv_lc, vp_turn, vp_turn2, ws_nil, ws_cons, wp_no, wp_yes, wt_val, wt_not, wt_and, wt_or, wo_yes, wo_one, wi_seq, wi_rng1, wi_rng2, wi_enm, rs_asg, rs_asgS, rs_aug, rs_augS, rs_exp, rs_ret, rs_retN, rs_ite, rs_for, rs_body, rs_whl, rs_brk, rs_cnt, rs_pas, rp_cons, rp_nil, seq_nx, seq_ret, seq_brk, seq_cnt, loop_nx, loop_ret, loop_brk, loop_cnt, wp_some, vp_some, vp_map, vp_gte, vp_gteP, gteP, o_ixT, o_ixP, o_ixK, i_lst, i_frz, i_dct, i_dctK, at0, at1, at2, at3, ix0, ix1, ix2, cast_pos, cast_ne, zero_cast, if_false, if_true, ite_false, ite_true, b_lenT, b_lenP, l_lst, l_frz, l_dct, b_abs, b_int, b_intB, b_tupT, b_tupP, b_lstT, b_lstP, b_srt, b_sum, b_any, b_all, b_max2, b_min2, b_lrg, o_add, o_sub, o_mul, o_fdv, o_mod, o_pow, o_cat, o_catS, o_catP, o_rep, n_int, bo_bl, in_int, c_lt, c_le, c_gt, c_ge, c_eq, c_ne, c_in, c_nin, e_ii, e_ss, e_bb, t_bl, t_int, t_tup, t_ptr, s_tup, s_ptr, m_app, m_pop, m_popAt, m_joinP, r_app, r_pop, r_popAt, r_join, a_add, a_sub, d_set, d_lst, d_dct, k_int, k_str, q_name, q_tup, q_nil, q_cons, p_z, p_s, g_z, g_s, f_nil, f_cons, z_n, z_b, z_i, z_s, z_t, cs_n, cs_b, cs_i, cs_s, cs_t, cn_n, cn_b, cn_i, cn_s, cn_t, isT, reduceCtorEq, decide_true, decide_false, Bool.or_true, Bool.or_false, Bool.true_or, Bool.false_or, Bool.not_true, Bool.not_false, true_implies, Bool.true_eq_false, Bool.false_eq_true, not_true_eq_false, not_false_eq_true, false_implies, and_true, true_and, decide_eq_true_eq, forall_const, Option.map_some, Option.bind_some, List.length_cons, List.length_nil, at_map h, dSt, List.length_map]
  cases s.moves with
  | nil => simp
  | cons => simp; omega)
def rests (ss : List Stg) (i : Nat) : List Nat := (List.range i).filter fun k => (ss.getD k ⟨false, []⟩).moves.isEmpty
def dNats (l : List Nat) : List D := l.map fun x => D.int (x : Nat)
theorem w_rests (hl : ss.length ≤ 1000) : Wp (Mi.run Φ wid (n + 2) 4 [dBook t ss] S) fun d S' => d = .tup (dNats (rests ss ss.length)) ∧ Kp 0 S S' := wp_run rfl rfl (by
  have b : bgn 2 [dBook t ss] = [some (dBook t ss), none] := rfl
  simp only [b]
  simp only [b4, dBook, wv_var, wv_cst, wv_bin, wv_neg, wv_cmp, wv_chn, wv_not, wv_and, wv_or, wv_ite, wv_idx, wv_slc, wv_tup, wv_lst, wv_dsp0, wv_dsp, wd_nil, wd_cons, wv_call, wv_callK, wv_blt, wv_mth, wv_isi, wv_lc, vp_turn, vp_turn2, ws_nil, ws_cons, wp_no, wp_yes, wt_val, wt_not, wt_and, wt_or, wo_yes, wo_one, wi_seq, wi_rng1, wi_rng2, wi_enm, rs_asg, rs_asgS, rs_aug, rs_augS, rs_exp, rs_ret, rs_retN, rs_ite, rs_for, rs_body, rs_whl, rs_brk, rs_cnt, rs_pas, rp_cons, rp_nil, seq_nx, seq_ret, seq_brk, seq_cnt, loop_nx, loop_ret, loop_brk, loop_cnt, wp_some, vp_some, vp_map, vp_gte, vp_gteP, gteP, o_ixT, o_ixP, o_ixK, i_lst, i_frz, i_dct, i_dctK, at0, at1, at2, at3, ix0, ix1, ix2, cast_pos, cast_ne, zero_cast, if_false, if_true, ite_false, ite_true, b_lenT, b_lenP, l_lst, l_frz, l_dct, b_abs, b_int, b_intB, b_tupT, b_tupP, b_lstT, b_lstP, b_srt, b_sum, b_any, b_all, b_max2, b_min2, b_lrg, o_add, o_sub, o_mul, o_fdv, o_mod, o_pow, o_cat, o_catS, o_catP, o_rep, n_int, bo_bl, in_int, c_lt, c_le, c_gt, c_ge, c_eq, c_ne, c_in, c_nin, e_ii, e_ss, e_bb, t_bl, t_int, t_tup, t_ptr, s_tup, s_ptr, m_app, m_pop, m_popAt, m_joinP, r_app, r_pop, r_popAt, r_join, a_add, a_sub, d_set, d_lst, d_dct, k_int, k_str, q_name, q_tup, q_nil, q_cons, p_z, p_s, g_z, g_s, f_nil, f_cons, z_n, z_b, z_i, z_s, z_t, cs_n, cs_b, cs_i, cs_s, cs_t, cn_n, cn_b, cn_i, cn_s, cn_t, isT, reduceCtorEq, decide_true, decide_false, Bool.or_true, Bool.or_false, Bool.true_or, Bool.false_or, Bool.not_true, Bool.not_false, true_implies, Bool.true_eq_false, Bool.false_eq_true, not_true_eq_false, not_false_eq_true, false_implies, and_true, true_and, decide_eq_true_eq, forall_const, Option.map_some, Option.bind_some, List.length_cons, List.length_nil, cntI, List.length_map]
  refine ⟨⟨by omega, by omega⟩, ?_⟩
  rw [Int.toNat_natCast]
  refine vp_loop ((List.range ss.length).map fun k => D.int (0 + (k : Nat))) (fun i S1 => S1 = S ++ [.lst (dNats (rests ss i))]) (fun _ _ _ _ => itm_rng) ?_ ?_ _ 0 _ rfl (Nat.zero_le _) (by simp)
  · rintro i d S1 hi rfl
    have hi' : i < ss.length := by
      have := (List.getElem?_eq_some_iff.mp hi).1
      simpa using this
    have hd : d = .int (i : Nat) := by
      rw [List.getElem?_map, List.getElem?_range hi'] at hi
      simpa using hi.symm
    subst hd
    simp only [wv_var, wv_cst, wv_bin, wv_neg, wv_cmp, wv_chn, wv_not, wv_and, wv_or, wv_ite, wv_idx, wv_slc, wv_tup, wv_lst, wv_dsp0, wv_dsp, wd_nil, wd_cons, wv_call, wv_callK, wv_blt, wv_mth, wv_isi, wv_lc, vp_turn, vp_turn2, ws_nil, ws_cons, wp_no, wp_yes, wt_val, wt_not, wt_and, wt_or, wo_yes, wo_one, wi_seq, wi_rng1, wi_rng2, wi_enm, rs_asg, rs_asgS, rs_aug, rs_augS, rs_exp, rs_ret, rs_retN, rs_ite, rs_for, rs_body, rs_whl, rs_brk, rs_cnt, rs_pas, rp_cons, rp_nil, seq_nx, seq_ret, seq_brk, seq_cnt, loop_nx, loop_ret, loop_brk, loop_cnt, wp_some, vp_some, vp_map, vp_gte, vp_gteP, gteP, o_ixT, o_ixP, o_ixK, i_lst, i_frz, i_dct, i_dctK, at0, at1, at2, at3, ix0, ix1, ix2, cast_pos, cast_ne, zero_cast, if_false, if_true, ite_false, ite_true, b_lenT, b_lenP, l_lst, l_frz, l_dct, b_abs, b_int, b_intB, b_tupT, b_tupP, b_lstT, b_lstP, b_srt, b_sum, b_any, b_all, b_max2, b_min2, b_lrg, o_add, o_sub, o_mul, o_fdv, o_mod, o_pow, o_cat, o_catS, o_catP, o_rep, n_int, bo_bl, in_int, c_lt, c_le, c_gt, c_ge, c_eq, c_ne, c_in, c_nin, e_ii, e_ss, e_bb, t_bl, t_int, t_tup, t_ptr, s_tup, s_ptr, m_app, m_pop, m_popAt, m_joinP, r_app, r_pop, r_popAt, r_join, a_add, a_sub, d_set, d_lst, d_dct, k_int, k_str, q_name, q_tup, q_nil, q_cons, p_z, p_s, g_z, g_s, f_nil, f_cons, z_n, z_b, z_i, z_s, z_t, cs_n, cs_b, cs_i, cs_s, cs_t, cn_n, cn_b, cn_i, cn_s, cn_t, isT, reduceCtorEq, decide_true, decide_false, Bool.or_true, Bool.or_false, Bool.true_or, Bool.false_or, Bool.not_true, Bool.not_false, true_implies, Bool.true_eq_false, Bool.false_eq_true, not_true_eq_false, not_false_eq_true, false_implies, and_true, true_and, decide_eq_true_eq, forall_const, Option.map_some, Option.bind_some, List.length_cons, List.length_nil]
    refine (w_rest (List.getElem?_eq_getElem hi')).mono fun d S1 ⟨e1, e2⟩ => ?_
    subst e1 e2
    have er : rests ss (i + 1) = rests ss i ++ if (ss[i]).moves.isEmpty = true then [i] else [] := by
      have hg : ss.getD i ⟨false, []⟩ = ss[i] := by simp [hi']
      unfold rests
      rw [List.range_succ, List.filter_append]
      congr 1
      simp only [List.filter_cons, List.filter_nil, hg]
    have hlen : (rests ss i).length ≤ i := by
      have := List.length_filter_le (fun k => (ss.getD k ⟨false, []⟩).moves.isEmpty) (List.range i)
      rw [List.length_range] at this
      exact this
    simp only [wv_var, wv_cst, wv_bin, wv_neg, wv_cmp, wv_chn, wv_not, wv_and, wv_or, wv_ite, wv_idx, wv_slc, wv_tup, wv_lst, wv_dsp0, wv_dsp, wd_nil, wd_cons, wv_call, wv_callK, wv_blt, wv_mth, wv_isi, wv_lc, vp_turn, vp_turn2, ws_nil, ws_cons, wp_no, wp_yes, wt_val, wt_not, wt_and, wt_or, wo_yes, wo_one, wi_seq, wi_rng1, wi_rng2, wi_enm, rs_asg, rs_asgS, rs_aug, rs_augS, rs_exp, rs_ret, rs_retN, rs_ite, rs_for, rs_body, rs_whl, rs_brk, rs_cnt, rs_pas, rp_cons, rp_nil, seq_nx, seq_ret, seq_brk, seq_cnt, loop_nx, loop_ret, loop_brk, loop_cnt, wp_some, vp_some, vp_map, vp_gte, vp_gteP, gteP, o_ixT, o_ixP, o_ixK, i_lst, i_frz, i_dct, i_dctK, at0, at1, at2, at3, ix0, ix1, ix2, cast_pos, cast_ne, zero_cast, if_false, if_true, ite_false, ite_true, b_lenT, b_lenP, l_lst, l_frz, l_dct, b_abs, b_int, b_intB, b_tupT, b_tupP, b_lstT, b_lstP, b_srt, b_sum, b_any, b_all, b_max2, b_min2, b_lrg, o_add, o_sub, o_mul, o_fdv, o_mod, o_pow, o_cat, o_catS, o_catP, o_rep, n_int, bo_bl, in_int, c_lt, c_le, c_gt, c_ge, c_eq, c_ne, c_in, c_nin, e_ii, e_ss, e_bb, t_bl, t_int, t_tup, t_ptr, s_tup, s_ptr, m_app, m_pop, m_popAt, m_joinP, r_app, r_pop, r_popAt, r_join, a_add, a_sub, d_set, d_lst, d_dct, k_int, k_str, q_name, q_tup, q_nil, q_cons, p_z, p_s, g_z, g_s, f_nil, f_cons, z_n, z_b, z_i, z_s, z_t, cs_n, cs_b, cs_i, cs_s, cs_t, cn_n, cn_b, cn_i, cn_s, cn_t, isT, reduceCtorEq, decide_true, decide_false, Bool.or_true, Bool.or_false, Bool.true_or, Bool.false_or, Bool.not_true, Bool.not_false, true_implies, Bool.true_eq_false, Bool.false_eq_true, not_true_eq_false, not_false_eq_true, false_implies, and_true, true_and, decide_eq_true_eq, forall_const, Option.map_some, Option.bind_some, List.length_cons, List.length_nil]
    refine ⟨fun h => ?_, fun h => ?_⟩
    · simp only [lcApp, mut_get get_end, wv_var, wv_cst, wv_bin, wv_neg, wv_cmp, wv_chn, wv_not, wv_and, wv_or, wv_ite, wv_idx, wv_slc, wv_tup, wv_lst, wv_dsp0, wv_dsp, wd_nil, wd_cons, wv_call, wv_callK, wv_blt, wv_mth, wv_isi, wv_lc, vp_turn, vp_turn2, ws_nil, ws_cons, wp_no, wp_yes, wt_val, wt_not, wt_and, wt_or, wo_yes, wo_one, wi_seq, wi_rng1, wi_rng2, wi_enm, rs_asg, rs_asgS, rs_aug, rs_augS, rs_exp, rs_ret, rs_retN, rs_ite, rs_for, rs_body, rs_whl, rs_brk, rs_cnt, rs_pas, rp_cons, rp_nil, seq_nx, seq_ret, seq_brk, seq_cnt, loop_nx, loop_ret, loop_brk, loop_cnt, wp_some, vp_some, vp_map, vp_gte, vp_gteP, gteP, o_ixT, o_ixP, o_ixK, i_lst, i_frz, i_dct, i_dctK, at0, at1, at2, at3, ix0, ix1, ix2, cast_pos, cast_ne, zero_cast, if_false, if_true, ite_false, ite_true, b_lenT, b_lenP, l_lst, l_frz, l_dct, b_abs, b_int, b_intB, b_tupT, b_tupP, b_lstT, b_lstP, b_srt, b_sum, b_any, b_all, b_max2, b_min2, b_lrg, o_add, o_sub, o_mul, o_fdv, o_mod, o_pow, o_cat, o_catS, o_catP, o_rep, n_int, bo_bl, in_int, c_lt, c_le, c_gt, c_ge, c_eq, c_ne, c_in, c_nin, e_ii, e_ss, e_bb, t_bl, t_int, t_tup, t_ptr, s_tup, s_ptr, m_app, m_pop, m_popAt, m_joinP, r_app, r_pop, r_popAt, r_join, a_add, a_sub, d_set, d_lst, d_dct, k_int, k_str, q_name, q_tup, q_nil, q_cons, p_z, p_s, g_z, g_s, f_nil, f_cons, z_n, z_b, z_i, z_s, z_t, cs_n, cs_b, cs_i, cs_s, cs_t, cn_n, cn_b, cn_i, cn_s, cn_t, isT, reduceCtorEq, decide_true, decide_false, Bool.or_true, Bool.or_false, Bool.true_or, Bool.false_or, Bool.not_true, Bool.not_false, true_implies, Bool.true_eq_false, Bool.false_eq_true, not_true_eq_false, not_false_eq_true, false_implies, and_true, true_and, decide_eq_true_eq, forall_const, Option.map_some, Option.bind_some, List.length_cons, List.length_nil]
      refine ⟨by unfold dNats; rw [List.length_map, sizeLine_eq]; omega, ?_⟩
      rw [set_last, er, if_pos h]
      simp [dNats]
    · rw [er, if_neg h, List.append_nil]
  · rintro S1 rfl
    rw [List.length_map, List.length_range]
    simp only [lst_get get_end, wv_var, wv_cst, wv_bin, wv_neg, wv_cmp, wv_chn, wv_not, wv_and, wv_or, wv_ite, wv_idx, wv_slc, wv_tup, wv_lst, wv_dsp0, wv_dsp, wd_nil, wd_cons, wv_call, wv_callK, wv_blt, wv_mth, wv_isi, wv_lc, vp_turn, vp_turn2, ws_nil, ws_cons, wp_no, wp_yes, wt_val, wt_not, wt_and, wt_or, wo_yes, wo_one, wi_seq, wi_rng1, wi_rng2, wi_enm, rs_asg, rs_asgS, rs_aug, rs_augS, rs_exp, rs_ret, rs_retN, rs_ite, rs_for, rs_body, rs_whl, rs_brk, rs_cnt, rs_pas, rp_cons, rp_nil, seq_nx, seq_ret, seq_brk, seq_cnt, loop_nx, loop_ret, loop_brk, loop_cnt, wp_some, vp_some, vp_map, vp_gte, vp_gteP, gteP, o_ixT, o_ixP, o_ixK, i_lst, i_frz, i_dct, i_dctK, at0, at1, at2, at3, ix0, ix1, ix2, cast_pos, cast_ne, zero_cast, if_false, if_true, ite_false, ite_true, b_lenT, b_lenP, l_lst, l_frz, l_dct, b_abs, b_int, b_intB, b_tupT, b_tupP, b_lstT, b_lstP, b_srt, b_sum, b_any, b_all, b_max2, b_min2, b_lrg, o_add, o_sub, o_mul, o_fdv, o_mod, o_pow, o_cat, o_catS, o_catP, o_rep, n_int, bo_bl, in_int, c_lt, c_le, c_gt, c_ge, c_eq, c_ne, c_in, c_nin, e_ii, e_ss, e_bb, t_bl, t_int, t_tup, t_ptr, s_tup, s_ptr, m_app, m_pop, m_popAt, m_joinP, r_app, r_pop, r_popAt, r_join, a_add, a_sub, d_set, d_lst, d_dct, k_int, k_str, q_name, q_tup, q_nil, q_cons, p_z, p_s, g_z, g_s, f_nil, f_cons, z_n, z_b, z_i, z_s, z_t, cs_n, cs_b, cs_i, cs_s, cs_t, cn_n, cn_b, cn_i, cn_s, cn_t, isT, reduceCtorEq, decide_true, decide_false, Bool.or_true, Bool.or_false, Bool.true_or, Bool.false_or, Bool.not_true, Bool.not_false, true_implies, Bool.true_eq_false, Bool.false_eq_true, not_true_eq_false, not_false_eq_true, false_implies, and_true, true_and, decide_eq_true_eq, forall_const, Option.map_some, Option.bind_some, List.length_cons, List.length_nil]
    exact Kp.refl.app)
def owned (b : Bool) (ss : List Stg) (i : Nat) : List Nat := (List.range i).filter fun k => (ss.getD k ⟨false, []⟩).own == b
theorem ownS_inj (a b : Bool) : decide (ownS a = ownS b) = (a == b) := by cases a <;> cases b <;> decide +kernel
theorem itm_enm {xs : List D} {i : Nat} : itm (.enmT xs) i S = some ((xs.mapIdx fun k x => .tup [.int (k : Nat), x])[i]?) := by
  simp only [itm, List.getElem?_mapIdx]
theorem w_standings {o : Bool} (hl : ss.length ≤ 1000) : Wp (Mi.run Φ wid (n + 1) 5 [dBook t ss, .str (ownS o)] S) fun d S' => d = .tup (dNats (owned o ss ss.length)) ∧ Kp 0 S S' := wp_run rfl rfl (by
  have b : bgn 4 [dBook t ss, .str (ownS o)] = [some (dBook t ss), some (.str (ownS o)), none, none] := rfl
  simp only [b]
  simp only [b5, dBook, wv_var, wv_cst, wv_bin, wv_neg, wv_cmp, wv_chn, wv_not, wv_and, wv_or, wv_ite, wv_idx, wv_slc, wv_tup, wv_lst, wv_dsp0, wv_dsp, wd_nil, wd_cons, wv_call, wv_callK, wv_blt, wv_mth, wv_isi, wv_lc, vp_turn, vp_turn2, ws_nil, ws_cons, wp_no, wp_yes, wt_val, wt_not, wt_and, wt_or, wo_yes, wo_one, wi_seq, wi_rng1, wi_rng2, wi_enm, rs_asg, rs_asgS, rs_aug, rs_augS, rs_exp, rs_ret, rs_retN, rs_ite, rs_for, rs_body, rs_whl, rs_brk, rs_cnt, rs_pas, rp_cons, rp_nil, seq_nx, seq_ret, seq_brk, seq_cnt, loop_nx, loop_ret, loop_brk, loop_cnt, wp_some, vp_some, vp_map, vp_gte, vp_gteP, gteP, o_ixT, o_ixP, o_ixK, i_lst, i_frz, i_dct, i_dctK, at0, at1, at2, at3, ix0, ix1, ix2, cast_pos, cast_ne, zero_cast, if_false, if_true, ite_false, ite_true, b_lenT, b_lenP, l_lst, l_frz, l_dct, b_abs, b_int, b_intB, b_tupT, b_tupP, b_lstT, b_lstP, b_srt, b_sum, b_any, b_all, b_max2, b_min2, b_lrg, o_add, o_sub, o_mul, o_fdv, o_mod, o_pow, o_cat, o_catS, o_catP, o_rep, n_int, bo_bl, in_int, c_lt, c_le, c_gt, c_ge, c_eq, c_ne, c_in, c_nin, e_ii, e_ss, e_bb, t_bl, t_int, t_tup, t_ptr, s_tup, s_ptr, m_app, m_pop, m_popAt, m_joinP, r_app, r_pop, r_popAt, r_join, a_add, a_sub, d_set, d_lst, d_dct, k_int, k_str, q_name, q_tup, q_nil, q_cons, p_z, p_s, g_z, g_s, f_nil, f_cons, z_n, z_b, z_i, z_s, z_t, cs_n, cs_b, cs_i, cs_s, cs_t, cn_n, cn_b, cn_i, cn_s, cn_t, isT, reduceCtorEq, decide_true, decide_false, Bool.or_true, Bool.or_false, Bool.true_or, Bool.false_or, Bool.not_true, Bool.not_false, true_implies, Bool.true_eq_false, Bool.false_eq_true, not_true_eq_false, not_false_eq_true, false_implies, and_true, true_and, decide_eq_true_eq, forall_const, Option.map_some, Option.bind_some, List.length_cons, List.length_nil, cntI, enmI, List.length_map]
  refine vp_loop ((ss.map dSt).mapIdx fun k x => .tup [.int (k : Nat), x]) (fun i S1 => S1 = S ++ [.lst (dNats (owned o ss i))]) (fun _ _ _ _ => itm_enm) ?_ ?_ _ 0 _ rfl (Nat.zero_le _) (by simp)
  · rintro i d S1 hi rfl
    rw [List.getElem?_mapIdx, List.getElem?_map] at hi
    obtain ⟨d1, h1, rfl⟩ := map_some hi
    obtain ⟨s, h2, rfl⟩ := map_some h1
    have hi' := (List.getElem?_eq_some_iff.mp h2).1
    have er : owned o ss (i + 1) = owned o ss i ++ if (s.own == o) = true then [i] else [] := by
      have hg : ss.getD i ⟨false, []⟩ = s := by simp [h2]
      unfold owned
      rw [List.range_succ, List.filter_append]
      congr 1
      simp only [List.filter_cons, List.filter_nil, hg]
    have hlen : (owned o ss i).length ≤ i := by
      have := List.length_filter_le (fun k => (ss.getD k ⟨false, []⟩).own == o) (List.range i)
      rw [List.length_range] at this
      exact this
    simp only [wv_var, wv_cst, wv_bin, wv_neg, wv_cmp, wv_chn, wv_not, wv_and, wv_or, wv_ite, wv_idx, wv_slc, wv_tup, wv_lst, wv_dsp0, wv_dsp, wd_nil, wd_cons, wv_call, wv_callK, wv_blt, wv_mth, wv_isi, wv_lc, vp_turn, vp_turn2, ws_nil, ws_cons, wp_no, wp_yes, wt_val, wt_not, wt_and, wt_or, wo_yes, wo_one, wi_seq, wi_rng1, wi_rng2, wi_enm, rs_asg, rs_asgS, rs_aug, rs_augS, rs_exp, rs_ret, rs_retN, rs_ite, rs_for, rs_body, rs_whl, rs_brk, rs_cnt, rs_pas, rp_cons, rp_nil, seq_nx, seq_ret, seq_brk, seq_cnt, loop_nx, loop_ret, loop_brk, loop_cnt, wp_some, vp_some, vp_map, vp_gte, vp_gteP, gteP, o_ixT, o_ixP, o_ixK, i_lst, i_frz, i_dct, i_dctK, at0, at1, at2, at3, ix0, ix1, ix2, cast_pos, cast_ne, zero_cast, if_false, if_true, ite_false, ite_true, b_lenT, b_lenP, l_lst, l_frz, l_dct, b_abs, b_int, b_intB, b_tupT, b_tupP, b_lstT, b_lstP, b_srt, b_sum, b_any, b_all, b_max2, b_min2, b_lrg, o_add, o_sub, o_mul, o_fdv, o_mod, o_pow, o_cat, o_catS, o_catP, o_rep, n_int, bo_bl, in_int, c_lt, c_le, c_gt, c_ge, c_eq, c_ne, c_in, c_nin, e_ii, e_ss, e_bb, t_bl, t_int, t_tup, t_ptr, s_tup, s_ptr, m_app, m_pop, m_popAt, m_joinP, r_app, r_pop, r_popAt, r_join, a_add, a_sub, d_set, d_lst, d_dct, k_int, k_str, q_name, q_tup, q_nil, q_cons, p_z, p_s, g_z, g_s, f_nil, f_cons, z_n, z_b, z_i, z_s, z_t, cs_n, cs_b, cs_i, cs_s, cs_t, cn_n, cn_b, cn_i, cn_s, cn_t, isT, reduceCtorEq, decide_true, decide_false, Bool.or_true, Bool.or_false, Bool.true_or, Bool.false_or, Bool.not_true, Bool.not_false, true_implies, Bool.true_eq_false, Bool.false_eq_true, not_true_eq_false, not_false_eq_true, false_implies, and_true, true_and, decide_eq_true_eq, forall_const, Option.map_some, Option.bind_some, List.length_cons, List.length_nil, dSt, ownS_inj]
    refine ⟨fun h => ?_, fun h => ?_⟩
    · simp only [lcApp, mut_get get_end, wv_var, wv_cst, wv_bin, wv_neg, wv_cmp, wv_chn, wv_not, wv_and, wv_or, wv_ite, wv_idx, wv_slc, wv_tup, wv_lst, wv_dsp0, wv_dsp, wd_nil, wd_cons, wv_call, wv_callK, wv_blt, wv_mth, wv_isi, wv_lc, vp_turn, vp_turn2, ws_nil, ws_cons, wp_no, wp_yes, wt_val, wt_not, wt_and, wt_or, wo_yes, wo_one, wi_seq, wi_rng1, wi_rng2, wi_enm, rs_asg, rs_asgS, rs_aug, rs_augS, rs_exp, rs_ret, rs_retN, rs_ite, rs_for, rs_body, rs_whl, rs_brk, rs_cnt, rs_pas, rp_cons, rp_nil, seq_nx, seq_ret, seq_brk, seq_cnt, loop_nx, loop_ret, loop_brk, loop_cnt, wp_some, vp_some, vp_map, vp_gte, vp_gteP, gteP, o_ixT, o_ixP, o_ixK, i_lst, i_frz, i_dct, i_dctK, at0, at1, at2, at3, ix0, ix1, ix2, cast_pos, cast_ne, zero_cast, if_false, if_true, ite_false, ite_true, b_lenT, b_lenP, l_lst, l_frz, l_dct, b_abs, b_int, b_intB, b_tupT, b_tupP, b_lstT, b_lstP, b_srt, b_sum, b_any, b_all, b_max2, b_min2, b_lrg, o_add, o_sub, o_mul, o_fdv, o_mod, o_pow, o_cat, o_catS, o_catP, o_rep, n_int, bo_bl, in_int, c_lt, c_le, c_gt, c_ge, c_eq, c_ne, c_in, c_nin, e_ii, e_ss, e_bb, t_bl, t_int, t_tup, t_ptr, s_tup, s_ptr, m_app, m_pop, m_popAt, m_joinP, r_app, r_pop, r_popAt, r_join, a_add, a_sub, d_set, d_lst, d_dct, k_int, k_str, q_name, q_tup, q_nil, q_cons, p_z, p_s, g_z, g_s, f_nil, f_cons, z_n, z_b, z_i, z_s, z_t, cs_n, cs_b, cs_i, cs_s, cs_t, cn_n, cn_b, cn_i, cn_s, cn_t, isT, reduceCtorEq, decide_true, decide_false, Bool.or_true, Bool.or_false, Bool.true_or, Bool.false_or, Bool.not_true, Bool.not_false, true_implies, Bool.true_eq_false, Bool.false_eq_true, not_true_eq_false, not_false_eq_true, false_implies, and_true, true_and, decide_eq_true_eq, forall_const, Option.map_some, Option.bind_some, List.length_cons, List.length_nil]
      refine ⟨by unfold dNats; rw [List.length_map, sizeLine_eq]; omega, ?_⟩
      rw [set_last, er, if_pos h]
      simp [dNats]
    · rw [er, if_neg h, List.append_nil]
  · rintro S1 rfl
    rw [List.length_mapIdx, List.length_map]
    simp only [lst_get get_end, wv_var, wv_cst, wv_bin, wv_neg, wv_cmp, wv_chn, wv_not, wv_and, wv_or, wv_ite, wv_idx, wv_slc, wv_tup, wv_lst, wv_dsp0, wv_dsp, wd_nil, wd_cons, wv_call, wv_callK, wv_blt, wv_mth, wv_isi, wv_lc, vp_turn, vp_turn2, ws_nil, ws_cons, wp_no, wp_yes, wt_val, wt_not, wt_and, wt_or, wo_yes, wo_one, wi_seq, wi_rng1, wi_rng2, wi_enm, rs_asg, rs_asgS, rs_aug, rs_augS, rs_exp, rs_ret, rs_retN, rs_ite, rs_for, rs_body, rs_whl, rs_brk, rs_cnt, rs_pas, rp_cons, rp_nil, seq_nx, seq_ret, seq_brk, seq_cnt, loop_nx, loop_ret, loop_brk, loop_cnt, wp_some, vp_some, vp_map, vp_gte, vp_gteP, gteP, o_ixT, o_ixP, o_ixK, i_lst, i_frz, i_dct, i_dctK, at0, at1, at2, at3, ix0, ix1, ix2, cast_pos, cast_ne, zero_cast, if_false, if_true, ite_false, ite_true, b_lenT, b_lenP, l_lst, l_frz, l_dct, b_abs, b_int, b_intB, b_tupT, b_tupP, b_lstT, b_lstP, b_srt, b_sum, b_any, b_all, b_max2, b_min2, b_lrg, o_add, o_sub, o_mul, o_fdv, o_mod, o_pow, o_cat, o_catS, o_catP, o_rep, n_int, bo_bl, in_int, c_lt, c_le, c_gt, c_ge, c_eq, c_ne, c_in, c_nin, e_ii, e_ss, e_bb, t_bl, t_int, t_tup, t_ptr, s_tup, s_ptr, m_app, m_pop, m_popAt, m_joinP, r_app, r_pop, r_popAt, r_join, a_add, a_sub, d_set, d_lst, d_dct, k_int, k_str, q_name, q_tup, q_nil, q_cons, p_z, p_s, g_z, g_s, f_nil, f_cons, z_n, z_b, z_i, z_s, z_t, cs_n, cs_b, cs_i, cs_s, cs_t, cn_n, cn_b, cn_i, cn_s, cn_t, isT, reduceCtorEq, decide_true, decide_false, Bool.or_true, Bool.or_false, Bool.true_or, Bool.false_or, Bool.not_true, Bool.not_false, true_implies, Bool.true_eq_false, Bool.false_eq_true, not_true_eq_false, not_false_eq_true, false_implies, and_true, true_and, decide_eq_true_eq, forall_const, Option.map_some, Option.bind_some, List.length_cons, List.length_nil]
    exact Kp.refl.app)
/-! ### what is reached -/
def addAll (acc gs : List Nat) : List Nat := gs.foldl (fun a g => if g ∈ a then a else a ++ [g]) acc
def goals (ss : List Stg) (i : Nat) : List Nat := (ss.getD i ⟨false, []⟩).moves.map (·.goal)
def reachF (ss : List Stg) : Nat → Nat → List Nat → List Nat
  | 0, _, acc => acc
  | k + 1, p, acc => match acc[p]? with
    | none => acc
    | some s => reachF ss k (p + 1) (addAll acc (goals ss s))
structure WB (ss : List Stg) : Prop where
  len : ss.length ≤ 1000
  mv : ∀ s ∈ ss, s.moves.length ≤ 100 ∧ ∀ m ∈ s.moves, m.goal < ss.length ∧ m.pours.length ≤ 10
theorem add_in {n : Nat} : ∀ {gs acc : List Nat}, (∀ g ∈ gs, g < n) → (∀ a ∈ acc, a < n) → acc.Nodup → (∀ a ∈ addAll acc gs, a < n) ∧ (addAll acc gs).Nodup
  | [], acc, _, h, hn => ⟨h, hn⟩
  | g :: gs, acc, hg, h, hn => by
    unfold addAll
    rw [List.foldl_cons]
    by_cases hm : g ∈ acc
    · rw [if_pos hm]
      exact add_in (fun x hx => hg x (List.mem_cons_of_mem _ hx)) h hn
    · rw [if_neg hm]
      refine add_in (fun x hx => hg x (List.mem_cons_of_mem _ hx)) (fun a ha => ?_) ?_
      · rcases List.mem_append.mp ha with ha | ha
        · exact h a ha
        · rw [List.mem_singleton.mp ha]
          exact hg g List.mem_cons_self
      · rw [List.nodup_append]
        refine ⟨hn, by simp, fun a ha b hb e => ?_⟩
        rw [List.mem_singleton.mp hb] at e
        exact hm (e ▸ ha)
theorem add_len : ∀ {gs acc : List Nat}, acc.length ≤ (addAll acc gs).length
  | [], _ => Nat.le_refl _
  | g :: gs, acc => by
    unfold addAll
    rw [List.foldl_cons]
    by_cases hm : g ∈ acc
    · rw [if_pos hm]
      exact add_len
    · rw [if_neg hm]
      refine Nat.le_trans ?_ (add_len (acc := acc ++ [g]))
      rw [List.length_append]
      omega
theorem bound {n : Nat} {acc : List Nat} (h : ∀ a ∈ acc, a < n) (hn : acc.Nodup) : acc.length ≤ n := by
  have := nodup_len acc (List.range n) hn fun x hx => List.mem_range.mpr (h x hx)
  simpa using this
theorem inF_nats {g : Nat} {acc : List Nat} : inF false (.int (g : Nat)) (dNats acc) = some (decide (g ∈ acc)) := by
  unfold inF
  rw [if_pos]
  · congr 1
    induction acc with
    | nil => simp [dNats]
    | cons a r ih =>
      simp only [dNats, List.map_cons, List.any_cons, eqF] at ih ⊢
      rw [ih]
      by_cases e : a = g
      · subst e; simp
      · have e1 : ¬ (a : Int) = (g : Int) := by omega
        have e2 : ¬ g = a := fun z => e z.symm
        simp [e1, e2]
  · simp only [Bool.and_eq_true, flatD, true_and, List.all_eq_true, dNats, List.mem_map]
    rintro d ⟨a, _, rfl⟩
    rfl
theorem n_lst {k : Nat} {x : D} {xs : List D} (h : S[k]? = some (.lst xs)) : inD x (.ptr k) S = inF false x xs := by simp only [inD, h]
/-- the loop that adds the goals of one standing -/
def scanB : ISs := (.cons (.ite (.val (.cmp .NotIn (.var i6) (.var i2))) (.cons (.exp (.mth .append (.var i2) (.cons (.var i6) .nil))) .nil) .nil) .nil)
theorem scan_ok {C : CallT} {W : Nat} {P : Fl → Mi.Env → Sto → Prop} {a0 a1 a3 x4 x5 x6 : Option D} {k : Nat} {ms : List Mv} {acc : List Nat} {S0 : Sto} (hS : S[k]? = some (.lst (dNats acc))) (hn : ∀ m ∈ ms, m.goal < 1000) (ha : ∀ a ∈ acc, a < 1000) (hd : acc.Nodup)
    (kp : Kp 0 S0 S) (hk : S0.length ≤ k) (q : ∀ x4 x5 x6 S', S'[k]? = some (.lst (dNats (addAll acc (ms.map (·.goal))))) → Kp 0 S0 S' → P .nx [a0, a1, some (.ptr k), a3, x4, x5, x6] S') :
    RP (forF (.tup (ms.map dMv)) (fun d ρ1 S1 => (tgt (.tup [(.name i4), (.name i5), (.name i6)]) d ρ1).bind fun ρ2 => exs C W scanB ρ2 S1) (ms.map dMv).length 0 [a0, a1, some (.ptr k), a3, x4, x5, x6] S) P := by
  refine rp_for (ms.map dMv) (fun i ρ S1 => ∃ x4 x5 x6, ρ = [a0, a1, some (.ptr k), a3, x4, x5, x6] ∧ S1[k]? = some (.lst (dNats (addAll acc ((ms.take i).map (·.goal))))) ∧ Kp 0 S0 S1) (fun _ _ _ _ _ => rfl) ?_ ?_ _ 0 _ _ ⟨x4, x5, x6, rfl, by simpa [addAll] using hS, kp⟩ (Nat.zero_le _) (by simp)
  · rintro i d ρ S1 hi ⟨x4, x5, x6, rfl, h1, kp1⟩
    rw [List.getElem?_map] at hi
    obtain ⟨m, hm, rfl⟩ := map_some hi
    have hb := add_in (gs := (ms.take i).map (·.goal)) (fun g hg => by
      obtain ⟨m', hm', rfl⟩ := List.mem_map.mp hg
      exact hn m' (List.mem_of_mem_take hm')) ha hd
    have hl := bound hb.1 hb.2
    have er : addAll acc ((ms.take (i + 1)).map (·.goal)) = if m.goal ∈ addAll acc ((ms.take i).map (·.goal)) then addAll acc ((ms.take i).map (·.goal)) else addAll acc ((ms.take i).map (·.goal)) ++ [m.goal] := by
      rw [List.take_add_one, hm, List.map_append]
      unfold addAll
      rw [List.foldl_append]
      rfl
    rw [rs_body]
    simp only [scanB, dMv, wv_var, wv_cst, wv_bin, wv_neg, wv_cmp, wv_chn, wv_not, wv_and, wv_or, wv_ite, wv_idx, wv_slc, wv_tup, wv_lst, wv_dsp0, wv_dsp, wd_nil, wd_cons, wv_call, wv_callK, wv_blt, wv_mth, wv_isi, wv_lc, vp_turn, vp_turn2, ws_nil, ws_cons, wp_no, wp_yes, wt_val, wt_not, wt_and, wt_or, wo_yes, wo_one, wi_seq, wi_rng1, wi_rng2, wi_enm, rs_asg, rs_asgS, rs_aug, rs_augS, rs_exp, rs_ret, rs_retN, rs_ite, rs_for, rs_body, rs_whl, rs_brk, rs_cnt, rs_pas, rp_cons, rp_nil, seq_nx, seq_ret, seq_brk, seq_cnt, loop_nx, loop_ret, loop_brk, loop_cnt, wp_some, vp_some, vp_map, vp_gte, vp_gteP, gteP, o_ixT, o_ixP, o_ixK, i_lst, i_frz, i_dct, i_dctK, at0, at1, at2, at3, ix0, ix1, ix2, cast_pos, cast_ne, zero_cast, if_false, if_true, ite_false, ite_true, b_lenT, b_lenP, l_lst, l_frz, l_dct, b_abs, b_int, b_intB, b_tupT, b_tupP, b_lstT, b_lstP, b_srt, b_sum, b_any, b_all, b_max2, b_min2, b_lrg, o_add, o_sub, o_mul, o_fdv, o_mod, o_pow, o_cat, o_catS, o_catP, o_rep, n_int, bo_bl, in_int, c_lt, c_le, c_gt, c_ge, c_eq, c_ne, c_in, c_nin, e_ii, e_ss, e_bb, t_bl, t_int, t_tup, t_ptr, s_tup, s_ptr, m_app, m_pop, m_popAt, m_joinP, r_app, r_pop, r_popAt, r_join, a_add, a_sub, d_set, d_lst, d_dct, k_int, k_str, q_name, q_tup, q_nil, q_cons, p_z, p_s, g_z, g_s, f_nil, f_cons, z_n, z_b, z_i, z_s, z_t, cs_n, cs_b, cs_i, cs_s, cs_t, cn_n, cn_b, cn_i, cn_s, cn_t, isT, reduceCtorEq, decide_true, decide_false, Bool.or_true, Bool.or_false, Bool.true_or, Bool.false_or, Bool.not_true, Bool.not_false, true_implies, Bool.true_eq_false, Bool.false_eq_true, not_true_eq_false, not_false_eq_true, false_implies, and_true, true_and, decide_eq_true_eq, forall_const, Option.map_some, Option.bind_some, List.length_cons, List.length_nil, n_lst h1, inF_nats, h1, mut_get h1, Option.isSome]
    refine ⟨fun h => ⟨by unfold dNats; rw [List.length_map, sizeLine_eq]; omega, _, _, _, rfl, (get_set (get_lt h1)).trans ?_, kp1.set (.inl hk)⟩, fun h => ⟨_, _, _, rfl, ?_, kp1⟩⟩
    · rw [er, if_neg (by simpa using h)]
      simp [dNats]
    · rw [er, if_pos (by simpa using h)]
  · rintro ρ S1 ⟨x4, x5, x6, rfl, h1, kp1⟩
    rw [List.length_map, List.take_of_length_le (Nat.le_refl _)] at h1
    exact q _ _ _ _ h1 kp1
def reach (ss : List Stg) (s : Nat) : List Nat := reachF ss (ss.length + 1) 0 [s]
/-- the loop over what is reached -/
def turnB (e : IE) : ISs := (.cons (.for (.tup [(.name i4), (.name i5), (.name i6)]) (.seq e) scanB) (.cons (.aug i3 .Add (.cst (.int 1))) .nil))
theorem reach_ok {C : CallT} {W : Nat} {P : Fl → Mi.Env → Sto → Prop} {e : IE} {s : Nat} {a4 a5 a6 : Option D} {k : Nat} {S0 : Sto} (hW : 2000 ≤ W) (wb : WB ss) (hs : s < ss.length) (hS : S[k]? = some (.lst (dNats [s]))) (kp : Kp 0 S0 S) (hk : S0.length ≤ k)
    (he : ∀ (ρ : Mi.Env) (S1 : Sto) (acc : List Nat) (p x : Nat) (st : Stg) (x4 x5 x6 : Option D), ρ = [some (dBook t ss), some (.int s), some (.ptr k), some (.int p), x4, x5, x6] → S1[k]? = some (.lst (dNats acc)) → acc[p]? = some x → ss[x]? = some st → Wp (ev C e ρ S1) fun d S2 => d = .tup (st.moves.map dMv) ∧ S2 = S1)
    (q : ∀ x3 x4 x5 x6 S', S'[k]? = some (.lst (dNats (reach ss s))) → Kp 0 S0 S' → P .nx [some (dBook t ss), some (.int s), some (.ptr k), x3, x4, x5, x6] S') :
    RP (whlF (tst C (.val (.cmp .Lt (.var i3) (.blt .len (.cons (.var i2) .nil))))) (exs C W (turnB e)) W [some (dBook t ss), some (.int s), some (.ptr k), some (.int 0), a4, a5, a6] S) P := by
  have hlen := wb.len
  refine rp_while (fun n ρ S1 => ∃ (acc : List Nat) (p : Nat) (x4 x5 x6 : Option D), ρ = [some (dBook t ss), some (.int s), some (.ptr k), some (.int (p : Nat)), x4, x5, x6] ∧ S1[k]? = some (.lst (dNats acc)) ∧ (∀ a ∈ acc, a < ss.length) ∧ acc.Nodup ∧ p ≤ acc.length ∧ reachF ss (ss.length + 1 - p) p acc = reach ss s ∧ Kp 0 S0 S1 ∧ n = ss.length - p) ?_ W (ss.length - 0) _ _ ⟨[s], 0, a4, a5, a6, rfl, hS, by simpa using hs, by simp, Nat.zero_le _, rfl, kp, rfl⟩ (by omega)
  rintro n ρ S1 ⟨acc, p, x4, x5, x6, rfl, h1, ha, hd, hp, hr, kp1, rfl⟩
  have hl := bound ha hd
  simp only [wv_var, wv_cst, wv_bin, wv_neg, wv_cmp, wv_chn, wv_not, wv_and, wv_or, wv_ite, wv_idx, wv_slc, wv_tup, wv_lst, wv_dsp0, wv_dsp, wd_nil, wd_cons, wv_call, wv_callK, wv_blt, wv_mth, wv_isi, wv_lc, vp_turn, vp_turn2, ws_nil, ws_cons, wp_no, wp_yes, wt_val, wt_not, wt_and, wt_or, wo_yes, wo_one, wi_seq, wi_rng1, wi_rng2, wi_enm, rs_asg, rs_asgS, rs_aug, rs_augS, rs_exp, rs_ret, rs_retN, rs_ite, rs_for, rs_body, rs_whl, rs_brk, rs_cnt, rs_pas, rp_cons, rp_nil, seq_nx, seq_ret, seq_brk, seq_cnt, loop_nx, loop_ret, loop_brk, loop_cnt, wp_some, vp_some, vp_map, vp_gte, vp_gteP, gteP, o_ixT, o_ixP, o_ixK, i_lst, i_frz, i_dct, i_dctK, at0, at1, at2, at3, ix0, ix1, ix2, cast_pos, cast_ne, zero_cast, if_false, if_true, ite_false, ite_true, b_lenT, b_lenP, l_lst, l_frz, l_dct, b_abs, b_int, b_intB, b_tupT, b_tupP, b_lstT, b_lstP, b_srt, b_sum, b_any, b_all, b_max2, b_min2, b_lrg, o_add, o_sub, o_mul, o_fdv, o_mod, o_pow, o_cat, o_catS, o_catP, o_rep, n_int, bo_bl, in_int, c_lt, c_le, c_gt, c_ge, c_eq, c_ne, c_in, c_nin, e_ii, e_ss, e_bb, t_bl, t_int, t_tup, t_ptr, s_tup, s_ptr, m_app, m_pop, m_popAt, m_joinP, r_app, r_pop, r_popAt, r_join, a_add, a_sub, d_set, d_lst, d_dct, k_int, k_str, q_name, q_tup, q_nil, q_cons, p_z, p_s, g_z, g_s, f_nil, f_cons, z_n, z_b, z_i, z_s, z_t, cs_n, cs_b, cs_i, cs_s, cs_t, cn_n, cn_b, cn_i, cn_s, cn_t, isT, reduceCtorEq, decide_true, decide_false, Bool.or_true, Bool.or_false, Bool.true_or, Bool.false_or, Bool.not_true, Bool.not_false, true_implies, Bool.true_eq_false, Bool.false_eq_true, not_true_eq_false, not_false_eq_true, false_implies, and_true, true_and, decide_eq_true_eq, forall_const, Option.map_some, Option.bind_some, List.length_cons, List.length_nil, h1, dNats, List.length_map]
  by_cases hlt : p < acc.length
  · rw [if_pos (by omega)]
    have hx := ha acc[p] (List.getElem_mem hlt)
    have hst := List.getElem?_eq_getElem hx
    have hm := wb.mv _ (List.mem_of_getElem? hst)
    simp only [turnB, wv_var, wv_cst, wv_bin, wv_neg, wv_cmp, wv_chn, wv_not, wv_and, wv_or, wv_ite, wv_idx, wv_slc, wv_tup, wv_lst, wv_dsp0, wv_dsp, wd_nil, wd_cons, wv_call, wv_callK, wv_blt, wv_mth, wv_isi, wv_lc, vp_turn, vp_turn2, ws_nil, ws_cons, wp_no, wp_yes, wt_val, wt_not, wt_and, wt_or, wo_yes, wo_one, wi_seq, wi_rng1, wi_rng2, wi_enm, rs_asg, rs_asgS, rs_aug, rs_augS, rs_exp, rs_ret, rs_retN, rs_ite, rs_for, rs_body, rs_whl, rs_brk, rs_cnt, rs_pas, rp_cons, rp_nil, seq_nx, seq_ret, seq_brk, seq_cnt, loop_nx, loop_ret, loop_brk, loop_cnt, wp_some, vp_some, vp_map, vp_gte, vp_gteP, gteP, o_ixT, o_ixP, o_ixK, i_lst, i_frz, i_dct, i_dctK, at0, at1, at2, at3, ix0, ix1, ix2, cast_pos, cast_ne, zero_cast, if_false, if_true, ite_false, ite_true, b_lenT, b_lenP, l_lst, l_frz, l_dct, b_abs, b_int, b_intB, b_tupT, b_tupP, b_lstT, b_lstP, b_srt, b_sum, b_any, b_all, b_max2, b_min2, b_lrg, o_add, o_sub, o_mul, o_fdv, o_mod, o_pow, o_cat, o_catS, o_catP, o_rep, n_int, bo_bl, in_int, c_lt, c_le, c_gt, c_ge, c_eq, c_ne, c_in, c_nin, e_ii, e_ss, e_bb, t_bl, t_int, t_tup, t_ptr, s_tup, s_ptr, m_app, m_pop, m_popAt, m_joinP, r_app, r_pop, r_popAt, r_join, a_add, a_sub, d_set, d_lst, d_dct, k_int, k_str, q_name, q_tup, q_nil, q_cons, p_z, p_s, g_z, g_s, f_nil, f_cons, z_n, z_b, z_i, z_s, z_t, cs_n, cs_b, cs_i, cs_s, cs_t, cn_n, cn_b, cn_i, cn_s, cn_t, isT, reduceCtorEq, decide_true, decide_false, Bool.or_true, Bool.or_false, Bool.true_or, Bool.false_or, Bool.not_true, Bool.not_false, true_implies, Bool.true_eq_false, Bool.false_eq_true, not_true_eq_false, not_false_eq_true, false_implies, and_true, true_and, decide_eq_true_eq, forall_const, Option.map_some, Option.bind_some, List.length_cons, List.length_nil]
    refine (he _ S1 acc p acc[p] _ x4 x5 x6 rfl h1 (List.getElem?_eq_getElem hlt) hst).mono fun d S2 ⟨e1, e2⟩ => ?_
    subst e1 e2
    simp only [wv_var, wv_cst, wv_bin, wv_neg, wv_cmp, wv_chn, wv_not, wv_and, wv_or, wv_ite, wv_idx, wv_slc, wv_tup, wv_lst, wv_dsp0, wv_dsp, wd_nil, wd_cons, wv_call, wv_callK, wv_blt, wv_mth, wv_isi, wv_lc, vp_turn, vp_turn2, ws_nil, ws_cons, wp_no, wp_yes, wt_val, wt_not, wt_and, wt_or, wo_yes, wo_one, wi_seq, wi_rng1, wi_rng2, wi_enm, rs_asg, rs_asgS, rs_aug, rs_augS, rs_exp, rs_ret, rs_retN, rs_ite, rs_for, rs_body, rs_whl, rs_brk, rs_cnt, rs_pas, rp_cons, rp_nil, seq_nx, seq_ret, seq_brk, seq_cnt, loop_nx, loop_ret, loop_brk, loop_cnt, wp_some, vp_some, vp_map, vp_gte, vp_gteP, gteP, o_ixT, o_ixP, o_ixK, i_lst, i_frz, i_dct, i_dctK, at0, at1, at2, at3, ix0, ix1, ix2, cast_pos, cast_ne, zero_cast, if_false, if_true, ite_false, ite_true, b_lenT, b_lenP, l_lst, l_frz, l_dct, b_abs, b_int, b_intB, b_tupT, b_tupP, b_lstT, b_lstP, b_srt, b_sum, b_any, b_all, b_max2, b_min2, b_lrg, o_add, o_sub, o_mul, o_fdv, o_mod, o_pow, o_cat, o_catS, o_catP, o_rep, n_int, bo_bl, in_int, c_lt, c_le, c_gt, c_ge, c_eq, c_ne, c_in, c_nin, e_ii, e_ss, e_bb, t_bl, t_int, t_tup, t_ptr, s_tup, s_ptr, m_app, m_pop, m_popAt, m_joinP, r_app, r_pop, r_popAt, r_join, a_add, a_sub, d_set, d_lst, d_dct, k_int, k_str, q_name, q_tup, q_nil, q_cons, p_z, p_s, g_z, g_s, f_nil, f_cons, z_n, z_b, z_i, z_s, z_t, cs_n, cs_b, cs_i, cs_s, cs_t, cn_n, cn_b, cn_i, cn_s, cn_t, isT, reduceCtorEq, decide_true, decide_false, Bool.or_true, Bool.or_false, Bool.true_or, Bool.false_or, Bool.not_true, Bool.not_false, true_implies, Bool.true_eq_false, Bool.false_eq_true, not_true_eq_false, not_false_eq_true, false_implies, and_true, true_and, decide_eq_true_eq, forall_const, Option.map_some, Option.bind_some, List.length_cons, List.length_nil, seqI, cntI]
    refine scan_ok h1 (fun m hm' => by have := (hm.2 m hm').1; omega) (fun a ha' => by have := ha a ha'; omega) hd kp1 hk fun y4 y5 y6 S3 h3 kp3 => ?_
    have hb := add_in (gs := (ss[acc[p]]).moves.map (·.goal)) (fun g hg => by
      obtain ⟨m', hm', rfl⟩ := List.mem_map.mp hg
      exact (hm.2 m' hm').1) ha hd
    have hg : goals ss acc[p] = (ss[acc[p]]).moves.map (·.goal) := by unfold goals; simp [hx]
    simp only [wv_var, wv_cst, wv_bin, wv_neg, wv_cmp, wv_chn, wv_not, wv_and, wv_or, wv_ite, wv_idx, wv_slc, wv_tup, wv_lst, wv_dsp0, wv_dsp, wd_nil, wd_cons, wv_call, wv_callK, wv_blt, wv_mth, wv_isi, wv_lc, vp_turn, vp_turn2, ws_nil, ws_cons, wp_no, wp_yes, wt_val, wt_not, wt_and, wt_or, wo_yes, wo_one, wi_seq, wi_rng1, wi_rng2, wi_enm, rs_asg, rs_asgS, rs_aug, rs_augS, rs_exp, rs_ret, rs_retN, rs_ite, rs_for, rs_body, rs_whl, rs_brk, rs_cnt, rs_pas, rp_cons, rp_nil, seq_nx, seq_ret, seq_brk, seq_cnt, loop_nx, loop_ret, loop_brk, loop_cnt, wp_some, vp_some, vp_map, vp_gte, vp_gteP, gteP, o_ixT, o_ixP, o_ixK, i_lst, i_frz, i_dct, i_dctK, at0, at1, at2, at3, ix0, ix1, ix2, cast_pos, cast_ne, zero_cast, if_false, if_true, ite_false, ite_true, b_lenT, b_lenP, l_lst, l_frz, l_dct, b_abs, b_int, b_intB, b_tupT, b_tupP, b_lstT, b_lstP, b_srt, b_sum, b_any, b_all, b_max2, b_min2, b_lrg, o_add, o_sub, o_mul, o_fdv, o_mod, o_pow, o_cat, o_catS, o_catP, o_rep, n_int, bo_bl, in_int, c_lt, c_le, c_gt, c_ge, c_eq, c_ne, c_in, c_nin, e_ii, e_ss, e_bb, t_bl, t_int, t_tup, t_ptr, s_tup, s_ptr, m_app, m_pop, m_popAt, m_joinP, r_app, r_pop, r_popAt, r_join, a_add, a_sub, d_set, d_lst, d_dct, k_int, k_str, q_name, q_tup, q_nil, q_cons, p_z, p_s, g_z, g_s, f_nil, f_cons, z_n, z_b, z_i, z_s, z_t, cs_n, cs_b, cs_i, cs_s, cs_t, cn_n, cn_b, cn_i, cn_s, cn_t, isT, reduceCtorEq, decide_true, decide_false, Bool.or_true, Bool.or_false, Bool.true_or, Bool.false_or, Bool.not_true, Bool.not_false, true_implies, Bool.true_eq_false, Bool.false_eq_true, not_true_eq_false, not_false_eq_true, false_implies, and_true, true_and, decide_eq_true_eq, forall_const, Option.map_some, Option.bind_some, List.length_cons, List.length_nil]
    refine ⟨ss.length - (p + 1), by omega, addAll acc (goals ss acc[p]), p + 1, y4, y5, y6, rfl, by rw [hg]; exact h3, by rw [hg]; exact hb.1, by rw [hg]; exact hb.2, ?_, ?_, kp3, rfl⟩
    · have := add_len (acc := acc) (gs := goals ss acc[p])
      omega
    · rw [← hr, show ss.length + 1 - p = (ss.length + 1 - (p + 1)) + 1 by omega]
      simp only [reachF, List.getElem?_eq_getElem hlt]
  · rw [if_neg (by omega)]
    refine q _ _ _ _ _ ?_ kp1
    have : reachF ss (ss.length + 1 - p) p acc = acc := by
      cases ss.length + 1 - p with
      | zero => rfl
      | succ k => simp only [reachF, List.getElem?_eq_none (Nat.le_of_not_lt hlt)]
    rw [← hr, this]
    exact h1
theorem w_found {s : Nat} (wb : WB ss) (hs : s < ss.length) : Wp (Mi.run Φ wid (n + 2) 6 [dBook t ss, .int s] S) fun d S' => ∃ k, d = .ptr k ∧ S'[k]? = some (.lst (dNats (reach ss s))) ∧ Kp 0 S S' := wp_run rfl rfl (by
  have b : bgn 7 [dBook t ss, .int s] = [some (dBook t ss), some (.int s), none, none, none, none, none] := rfl
  simp only [b]
  simp only [b6, wv_var, wv_cst, wv_bin, wv_neg, wv_cmp, wv_chn, wv_not, wv_and, wv_or, wv_ite, wv_idx, wv_slc, wv_tup, wv_lst, wv_dsp0, wv_dsp, wd_nil, wd_cons, wv_call, wv_callK, wv_blt, wv_mth, wv_isi, wv_lc, vp_turn, vp_turn2, ws_nil, ws_cons, wp_no, wp_yes, wt_val, wt_not, wt_and, wt_or, wo_yes, wo_one, wi_seq, wi_rng1, wi_rng2, wi_enm, rs_asg, rs_asgS, rs_aug, rs_augS, rs_exp, rs_ret, rs_retN, rs_ite, rs_for, rs_body, rs_whl, rs_brk, rs_cnt, rs_pas, rp_cons, rp_nil, seq_nx, seq_ret, seq_brk, seq_cnt, loop_nx, loop_ret, loop_brk, loop_cnt, wp_some, vp_some, vp_map, vp_gte, vp_gteP, gteP, o_ixT, o_ixP, o_ixK, i_lst, i_frz, i_dct, i_dctK, at0, at1, at2, at3, ix0, ix1, ix2, cast_pos, cast_ne, zero_cast, if_false, if_true, ite_false, ite_true, b_lenT, b_lenP, l_lst, l_frz, l_dct, b_abs, b_int, b_intB, b_tupT, b_tupP, b_lstT, b_lstP, b_srt, b_sum, b_any, b_all, b_max2, b_min2, b_lrg, o_add, o_sub, o_mul, o_fdv, o_mod, o_pow, o_cat, o_catS, o_catP, o_rep, n_int, bo_bl, in_int, c_lt, c_le, c_gt, c_ge, c_eq, c_ne, c_in, c_nin, e_ii, e_ss, e_bb, t_bl, t_int, t_tup, t_ptr, s_tup, s_ptr, m_app, m_pop, m_popAt, m_joinP, r_app, r_pop, r_popAt, r_join, a_add, a_sub, d_set, d_lst, d_dct, k_int, k_str, q_name, q_tup, q_nil, q_cons, p_z, p_s, g_z, g_s, f_nil, f_cons, z_n, z_b, z_i, z_s, z_t, cs_n, cs_b, cs_i, cs_s, cs_t, cn_n, cn_b, cn_i, cn_s, cn_t, isT, reduceCtorEq, decide_true, decide_false, Bool.or_true, Bool.or_false, Bool.true_or, Bool.false_or, Bool.not_true, Bool.not_false, true_implies, Bool.true_eq_false, Bool.false_eq_true, not_true_eq_false, not_false_eq_true, false_implies, and_true, true_and, decide_eq_true_eq, forall_const, Option.map_some, Option.bind_some, List.length_cons, List.length_nil]
  refine ⟨by rw [sizeLine_eq]; decide, ?_⟩
  refine reach_ok (W := wid) (e := .call 2 (.cons (.var i0) (.cons (.idx (.var i2) (.var i3)) .nil))) (S := S ++ [.lst [.int s]]) (S0 := S) (k := S.length) (t := t) (ss := ss) (s := s) (by decide) wb hs get_end Kp.refl.app (Nat.le_refl _) (fun ρ S1 acc p x st x4 x5 x6 eρ h1 hp hst => ?_) fun x3 x4 x5 x6 S1 h1 kp => ?_
  · subst eρ
    simp only [wv_var, wv_cst, wv_bin, wv_neg, wv_cmp, wv_chn, wv_not, wv_and, wv_or, wv_ite, wv_idx, wv_slc, wv_tup, wv_lst, wv_dsp0, wv_dsp, wd_nil, wd_cons, wv_call, wv_callK, wv_blt, wv_mth, wv_isi, wv_lc, vp_turn, vp_turn2, ws_nil, ws_cons, wp_no, wp_yes, wt_val, wt_not, wt_and, wt_or, wo_yes, wo_one, wi_seq, wi_rng1, wi_rng2, wi_enm, rs_asg, rs_asgS, rs_aug, rs_augS, rs_exp, rs_ret, rs_retN, rs_ite, rs_for, rs_body, rs_whl, rs_brk, rs_cnt, rs_pas, rp_cons, rp_nil, seq_nx, seq_ret, seq_brk, seq_cnt, loop_nx, loop_ret, loop_brk, loop_cnt, wp_some, vp_some, vp_map, vp_gte, vp_gteP, gteP, o_ixT, o_ixP, o_ixK, i_lst, i_frz, i_dct, i_dctK, at0, at1, at2, at3, ix0, ix1, ix2, cast_pos, cast_ne, zero_cast, if_false, if_true, ite_false, ite_true, b_lenT, b_lenP, l_lst, l_frz, l_dct, b_abs, b_int, b_intB, b_tupT, b_tupP, b_lstT, b_lstP, b_srt, b_sum, b_any, b_all, b_max2, b_min2, b_lrg, o_add, o_sub, o_mul, o_fdv, o_mod, o_pow, o_cat, o_catS, o_catP, o_rep, n_int, bo_bl, in_int, c_lt, c_le, c_gt, c_ge, c_eq, c_ne, c_in, c_nin, e_ii, e_ss, e_bb, t_bl, t_int, t_tup, t_ptr, s_tup, s_ptr, m_app, m_pop, m_popAt, m_joinP, r_app, r_pop, r_popAt, r_join, a_add, a_sub, d_set, d_lst, d_dct, k_int, k_str, q_name, q_tup, q_nil, q_cons, p_z, p_s, g_z, g_s, f_nil, f_cons, z_n, z_b, z_i, z_s, z_t, cs_n, cs_b, cs_i, cs_s, cs_t, cn_n, cn_b, cn_i, cn_s, cn_t, isT, reduceCtorEq, decide_true, decide_false, Bool.or_true, Bool.or_false, Bool.true_or, Bool.false_or, Bool.not_true, Bool.not_false, true_implies, Bool.true_eq_false, Bool.false_eq_true, not_true_eq_false, not_false_eq_true, false_implies, and_true, true_and, decide_eq_true_eq, forall_const, Option.map_some, Option.bind_some, List.length_cons, List.length_nil, h1, dNats, at_map hp]
    exact w_moves hst
  · simp only [wv_var, wv_cst, wv_bin, wv_neg, wv_cmp, wv_chn, wv_not, wv_and, wv_or, wv_ite, wv_idx, wv_slc, wv_tup, wv_lst, wv_dsp0, wv_dsp, wd_nil, wd_cons, wv_call, wv_callK, wv_blt, wv_mth, wv_isi, wv_lc, vp_turn, vp_turn2, ws_nil, ws_cons, wp_no, wp_yes, wt_val, wt_not, wt_and, wt_or, wo_yes, wo_one, wi_seq, wi_rng1, wi_rng2, wi_enm, rs_asg, rs_asgS, rs_aug, rs_augS, rs_exp, rs_ret, rs_retN, rs_ite, rs_for, rs_body, rs_whl, rs_brk, rs_cnt, rs_pas, rp_cons, rp_nil, seq_nx, seq_ret, seq_brk, seq_cnt, loop_nx, loop_ret, loop_brk, loop_cnt, wp_some, vp_some, vp_map, vp_gte, vp_gteP, gteP, o_ixT, o_ixP, o_ixK, i_lst, i_frz, i_dct, i_dctK, at0, at1, at2, at3, ix0, ix1, ix2, cast_pos, cast_ne, zero_cast, if_false, if_true, ite_false, ite_true, b_lenT, b_lenP, l_lst, l_frz, l_dct, b_abs, b_int, b_intB, b_tupT, b_tupP, b_lstT, b_lstP, b_srt, b_sum, b_any, b_all, b_max2, b_min2, b_lrg, o_add, o_sub, o_mul, o_fdv, o_mod, o_pow, o_cat, o_catS, o_catP, o_rep, n_int, bo_bl, in_int, c_lt, c_le, c_gt, c_ge, c_eq, c_ne, c_in, c_nin, e_ii, e_ss, e_bb, t_bl, t_int, t_tup, t_ptr, s_tup, s_ptr, m_app, m_pop, m_popAt, m_joinP, r_app, r_pop, r_popAt, r_join, a_add, a_sub, d_set, d_lst, d_dct, k_int, k_str, q_name, q_tup, q_nil, q_cons, p_z, p_s, g_z, g_s, f_nil, f_cons, z_n, z_b, z_i, z_s, z_t, cs_n, cs_b, cs_i, cs_s, cs_t, cn_n, cn_b, cn_i, cn_s, cn_t, isT, reduceCtorEq, decide_true, decide_false, Bool.or_true, Bool.or_false, Bool.true_or, Bool.false_or, Bool.not_true, Bool.not_false, true_implies, Bool.true_eq_false, Bool.false_eq_true, not_true_eq_false, not_false_eq_true, false_implies, and_true, true_and, decide_eq_true_eq, forall_const, Option.map_some, Option.bind_some, List.length_cons, List.length_nil]
    exact ⟨_, rfl, h1, kp⟩)
theorem ints_nats : ∀ l : List Nat, intsOf (dNats l) = some (l.map fun x => ((x : Nat) : Int))
  | [] => rfl
  | a :: r => by
    have ih := ints_nats r
    unfold dNats at ih ⊢
    simp only [List.map_cons, intsOf, ih, Option.map_some]
def srt (l : List Nat) : D := .tup ((isort (l.map fun x => ((x : Nat) : Int))).map D.int)
theorem w_reached {s : Nat} (wb : WB ss) (hs : s < ss.length) : Wp (Mi.run Φ wid (n + 3) 7 [dBook t ss, .int s] S) fun d S' => d = srt (reach ss s) ∧ Kp 0 S S' := wp_run rfl rfl (by
  have b : bgn 2 [dBook t ss, .int s] = [some (dBook t ss), some (.int s)] := rfl
  simp only [b]
  simp only [b7, wv_var, wv_cst, wv_bin, wv_neg, wv_cmp, wv_chn, wv_not, wv_and, wv_or, wv_ite, wv_idx, wv_slc, wv_tup, wv_lst, wv_dsp0, wv_dsp, wd_nil, wd_cons, wv_call, wv_callK, wv_blt, wv_mth, wv_isi, wv_lc, vp_turn, vp_turn2, ws_nil, ws_cons, wp_no, wp_yes, wt_val, wt_not, wt_and, wt_or, wo_yes, wo_one, wi_seq, wi_rng1, wi_rng2, wi_enm, rs_asg, rs_asgS, rs_aug, rs_augS, rs_exp, rs_ret, rs_retN, rs_ite, rs_for, rs_body, rs_whl, rs_brk, rs_cnt, rs_pas, rp_cons, rp_nil, seq_nx, seq_ret, seq_brk, seq_cnt, loop_nx, loop_ret, loop_brk, loop_cnt, wp_some, vp_some, vp_map, vp_gte, vp_gteP, gteP, o_ixT, o_ixP, o_ixK, i_lst, i_frz, i_dct, i_dctK, at0, at1, at2, at3, ix0, ix1, ix2, cast_pos, cast_ne, zero_cast, if_false, if_true, ite_false, ite_true, b_lenT, b_lenP, l_lst, l_frz, l_dct, b_abs, b_int, b_intB, b_tupT, b_tupP, b_lstT, b_lstP, b_srt, b_sum, b_any, b_all, b_max2, b_min2, b_lrg, o_add, o_sub, o_mul, o_fdv, o_mod, o_pow, o_cat, o_catS, o_catP, o_rep, n_int, bo_bl, in_int, c_lt, c_le, c_gt, c_ge, c_eq, c_ne, c_in, c_nin, e_ii, e_ss, e_bb, t_bl, t_int, t_tup, t_ptr, s_tup, s_ptr, m_app, m_pop, m_popAt, m_joinP, r_app, r_pop, r_popAt, r_join, a_add, a_sub, d_set, d_lst, d_dct, k_int, k_str, q_name, q_tup, q_nil, q_cons, p_z, p_s, g_z, g_s, f_nil, f_cons, z_n, z_b, z_i, z_s, z_t, cs_n, cs_b, cs_i, cs_s, cs_t, cn_n, cn_b, cn_i, cn_s, cn_t, isT, reduceCtorEq, decide_true, decide_false, Bool.or_true, Bool.or_false, Bool.true_or, Bool.false_or, Bool.not_true, Bool.not_false, true_implies, Bool.true_eq_false, Bool.false_eq_true, not_true_eq_false, not_false_eq_true, false_implies, and_true, true_and, decide_eq_true_eq, forall_const, Option.map_some, Option.bind_some, List.length_cons, List.length_nil]
  refine (w_found wb hs).mono fun d S1 ⟨k, e, h1, kp⟩ => ?_
  subst e
  simp only [wv_var, wv_cst, wv_bin, wv_neg, wv_cmp, wv_chn, wv_not, wv_and, wv_or, wv_ite, wv_idx, wv_slc, wv_tup, wv_lst, wv_dsp0, wv_dsp, wd_nil, wd_cons, wv_call, wv_callK, wv_blt, wv_mth, wv_isi, wv_lc, vp_turn, vp_turn2, ws_nil, ws_cons, wp_no, wp_yes, wt_val, wt_not, wt_and, wt_or, wo_yes, wo_one, wi_seq, wi_rng1, wi_rng2, wi_enm, rs_asg, rs_asgS, rs_aug, rs_augS, rs_exp, rs_ret, rs_retN, rs_ite, rs_for, rs_body, rs_whl, rs_brk, rs_cnt, rs_pas, rp_cons, rp_nil, seq_nx, seq_ret, seq_brk, seq_cnt, loop_nx, loop_ret, loop_brk, loop_cnt, wp_some, vp_some, vp_map, vp_gte, vp_gteP, gteP, o_ixT, o_ixP, o_ixK, i_lst, i_frz, i_dct, i_dctK, at0, at1, at2, at3, ix0, ix1, ix2, cast_pos, cast_ne, zero_cast, if_false, if_true, ite_false, ite_true, b_lenT, b_lenP, l_lst, l_frz, l_dct, b_abs, b_int, b_intB, b_tupT, b_tupP, b_lstT, b_lstP, b_srt, b_sum, b_any, b_all, b_max2, b_min2, b_lrg, o_add, o_sub, o_mul, o_fdv, o_mod, o_pow, o_cat, o_catS, o_catP, o_rep, n_int, bo_bl, in_int, c_lt, c_le, c_gt, c_ge, c_eq, c_ne, c_in, c_nin, e_ii, e_ss, e_bb, t_bl, t_int, t_tup, t_ptr, s_tup, s_ptr, m_app, m_pop, m_popAt, m_joinP, r_app, r_pop, r_popAt, r_join, a_add, a_sub, d_set, d_lst, d_dct, k_int, k_str, q_name, q_tup, q_nil, q_cons, p_z, p_s, g_z, g_s, f_nil, f_cons, z_n, z_b, z_i, z_s, z_t, cs_n, cs_b, cs_i, cs_s, cs_t, cn_n, cn_b, cn_i, cn_s, cn_t, isT, reduceCtorEq, decide_true, decide_false, Bool.or_true, Bool.or_false, Bool.true_or, Bool.false_or, Bool.not_true, Bool.not_false, true_implies, Bool.true_eq_false, Bool.false_eq_true, not_true_eq_false, not_false_eq_true, false_implies, and_true, true_and, decide_eq_true_eq, forall_const, Option.map_some, Option.bind_some, List.length_cons, List.length_nil, lst_get h1, ints_nats, lst_get get_end]
  exact ⟨rfl, kp.app⟩)
theorem w_lreached {s : Nat} (wb : WB ss) (hs : s < ss.length) : Wp (Mi.run Φ wid (n + 1) 15 [dBook t ss, .int s] S) fun d S' => d = srt (reach ss s) ∧ Kp 0 S S' := wp_run rfl rfl (by
  have b : bgn 7 [dBook t ss, .int s] = [some (dBook t ss), some (.int s), none, none, none, none, none] := rfl
  simp only [b]
  simp only [b15, wv_var, wv_cst, wv_bin, wv_neg, wv_cmp, wv_chn, wv_not, wv_and, wv_or, wv_ite, wv_idx, wv_slc, wv_tup, wv_lst, wv_dsp0, wv_dsp, wd_nil, wd_cons, wv_call, wv_callK, wv_blt, wv_mth, wv_isi, wv_lc, vp_turn, vp_turn2, ws_nil, ws_cons, wp_no, wp_yes, wt_val, wt_not, wt_and, wt_or, wo_yes, wo_one, wi_seq, wi_rng1, wi_rng2, wi_enm, rs_asg, rs_asgS, rs_aug, rs_augS, rs_exp, rs_ret, rs_retN, rs_ite, rs_for, rs_body, rs_whl, rs_brk, rs_cnt, rs_pas, rp_cons, rp_nil, seq_nx, seq_ret, seq_brk, seq_cnt, loop_nx, loop_ret, loop_brk, loop_cnt, wp_some, vp_some, vp_map, vp_gte, vp_gteP, gteP, o_ixT, o_ixP, o_ixK, i_lst, i_frz, i_dct, i_dctK, at0, at1, at2, at3, ix0, ix1, ix2, cast_pos, cast_ne, zero_cast, if_false, if_true, ite_false, ite_true, b_lenT, b_lenP, l_lst, l_frz, l_dct, b_abs, b_int, b_intB, b_tupT, b_tupP, b_lstT, b_lstP, b_srt, b_sum, b_any, b_all, b_max2, b_min2, b_lrg, o_add, o_sub, o_mul, o_fdv, o_mod, o_pow, o_cat, o_catS, o_catP, o_rep, n_int, bo_bl, in_int, c_lt, c_le, c_gt, c_ge, c_eq, c_ne, c_in, c_nin, e_ii, e_ss, e_bb, t_bl, t_int, t_tup, t_ptr, s_tup, s_ptr, m_app, m_pop, m_popAt, m_joinP, r_app, r_pop, r_popAt, r_join, a_add, a_sub, d_set, d_lst, d_dct, k_int, k_str, q_name, q_tup, q_nil, q_cons, p_z, p_s, g_z, g_s, f_nil, f_cons, z_n, z_b, z_i, z_s, z_t, cs_n, cs_b, cs_i, cs_s, cs_t, cn_n, cn_b, cn_i, cn_s, cn_t, isT, reduceCtorEq, decide_true, decide_false, Bool.or_true, Bool.or_false, Bool.true_or, Bool.false_or, Bool.not_true, Bool.not_false, true_implies, Bool.true_eq_false, Bool.false_eq_true, not_true_eq_false, not_false_eq_true, false_implies, and_true, true_and, decide_eq_true_eq, forall_const, Option.map_some, Option.bind_some, List.length_cons, List.length_nil]
  refine ⟨by rw [sizeLine_eq]; decide, ?_⟩
  refine reach_ok (W := wid) (e := .idx (.idx (.idx (.var i0) (.cst (.int 1))) (.idx (.var i2) (.var i3))) (.cst (.int 1))) (S := S ++ [.lst [.int s]]) (S0 := S) (k := S.length) (t := t) (ss := ss) (s := s) (by decide) wb hs get_end Kp.refl.app (Nat.le_refl _) (fun ρ S1 acc p x st x4 x5 x6 eρ h1 hp hst => ?_) fun x3 x4 x5 x6 S1 h1 kp => ?_
  · subst eρ
    simp only [wv_var, wv_cst, wv_bin, wv_neg, wv_cmp, wv_chn, wv_not, wv_and, wv_or, wv_ite, wv_idx, wv_slc, wv_tup, wv_lst, wv_dsp0, wv_dsp, wd_nil, wd_cons, wv_call, wv_callK, wv_blt, wv_mth, wv_isi, wv_lc, vp_turn, vp_turn2, ws_nil, ws_cons, wp_no, wp_yes, wt_val, wt_not, wt_and, wt_or, wo_yes, wo_one, wi_seq, wi_rng1, wi_rng2, wi_enm, rs_asg, rs_asgS, rs_aug, rs_augS, rs_exp, rs_ret, rs_retN, rs_ite, rs_for, rs_body, rs_whl, rs_brk, rs_cnt, rs_pas, rp_cons, rp_nil, seq_nx, seq_ret, seq_brk, seq_cnt, loop_nx, loop_ret, loop_brk, loop_cnt, wp_some, vp_some, vp_map, vp_gte, vp_gteP, gteP, o_ixT, o_ixP, o_ixK, i_lst, i_frz, i_dct, i_dctK, at0, at1, at2, at3, ix0, ix1, ix2, cast_pos, cast_ne, zero_cast, if_false, if_true, ite_false, ite_true, b_lenT, b_lenP, l_lst, l_frz, l_dct, b_abs, b_int, b_intB, b_tupT, b_tupP, b_lstT, b_lstP, b_srt, b_sum, b_any, b_all, b_max2, b_min2, b_lrg, o_add, o_sub, o_mul, o_fdv, o_mod, o_pow, o_cat, o_catS, o_catP, o_rep, n_int, bo_bl, in_int, c_lt, c_le, c_gt, c_ge, c_eq, c_ne, c_in, c_nin, e_ii, e_ss, e_bb, t_bl, t_int, t_tup, t_ptr, s_tup, s_ptr, m_app, m_pop, m_popAt, m_joinP, r_app, r_pop, r_popAt, r_join, a_add, a_sub, d_set, d_lst, d_dct, k_int, k_str, q_name, q_tup, q_nil, q_cons, p_z, p_s, g_z, g_s, f_nil, f_cons, z_n, z_b, z_i, z_s, z_t, cs_n, cs_b, cs_i, cs_s, cs_t, cn_n, cn_b, cn_i, cn_s, cn_t, isT, reduceCtorEq, decide_true, decide_false, Bool.or_true, Bool.or_false, Bool.true_or, Bool.false_or, Bool.not_true, Bool.not_false, true_implies, Bool.true_eq_false, Bool.false_eq_true, not_true_eq_false, not_false_eq_true, false_implies, and_true, true_and, decide_eq_true_eq, forall_const, Option.map_some, Option.bind_some, List.length_cons, List.length_nil, h1, dBook, dNats, at_map hp, at_map hst, dSt]
  · simp only [wv_var, wv_cst, wv_bin, wv_neg, wv_cmp, wv_chn, wv_not, wv_and, wv_or, wv_ite, wv_idx, wv_slc, wv_tup, wv_lst, wv_dsp0, wv_dsp, wd_nil, wd_cons, wv_call, wv_callK, wv_blt, wv_mth, wv_isi, wv_lc, vp_turn, vp_turn2, ws_nil, ws_cons, wp_no, wp_yes, wt_val, wt_not, wt_and, wt_or, wo_yes, wo_one, wi_seq, wi_rng1, wi_rng2, wi_enm, rs_asg, rs_asgS, rs_aug, rs_augS, rs_exp, rs_ret, rs_retN, rs_ite, rs_for, rs_body, rs_whl, rs_brk, rs_cnt, rs_pas, rp_cons, rp_nil, seq_nx, seq_ret, seq_brk, seq_cnt, loop_nx, loop_ret, loop_brk, loop_cnt, wp_some, vp_some, vp_map, vp_gte, vp_gteP, gteP, o_ixT, o_ixP, o_ixK, i_lst, i_frz, i_dct, i_dctK, at0, at1, at2, at3, ix0, ix1, ix2, cast_pos, cast_ne, zero_cast, if_false, if_true, ite_false, ite_true, b_lenT, b_lenP, l_lst, l_frz, l_dct, b_abs, b_int, b_intB, b_tupT, b_tupP, b_lstT, b_lstP, b_srt, b_sum, b_any, b_all, b_max2, b_min2, b_lrg, o_add, o_sub, o_mul, o_fdv, o_mod, o_pow, o_cat, o_catS, o_catP, o_rep, n_int, bo_bl, in_int, c_lt, c_le, c_gt, c_ge, c_eq, c_ne, c_in, c_nin, e_ii, e_ss, e_bb, t_bl, t_int, t_tup, t_ptr, s_tup, s_ptr, m_app, m_pop, m_popAt, m_joinP, r_app, r_pop, r_popAt, r_join, a_add, a_sub, d_set, d_lst, d_dct, k_int, k_str, q_name, q_tup, q_nil, q_cons, p_z, p_s, g_z, g_s, f_nil, f_cons, z_n, z_b, z_i, z_s, z_t, cs_n, cs_b, cs_i, cs_s, cs_t, cn_n, cn_b, cn_i, cn_s, cn_t, isT, reduceCtorEq, decide_true, decide_false, Bool.or_true, Bool.or_false, Bool.true_or, Bool.false_or, Bool.not_true, Bool.not_false, true_implies, Bool.true_eq_false, Bool.false_eq_true, not_true_eq_false, not_false_eq_true, false_implies, and_true, true_and, decide_eq_true_eq, forall_const, Option.map_some, Option.bind_some, List.length_cons, List.length_nil, lst_get h1, ints_nats, lst_get get_end]
    exact ⟨rfl, kp.app⟩)
end K04

namespace K04
open PySem L2 Mi
variable {n : Nat} {S : Sto} {t : Nat} {ss : List Stg}
theorem draw_c : DrawC (Mi.run Φ wid (n + 1)) 9 := draw_call (a := 40692) (c := 8017) (d := 59) (by decide) (by decide) (by decide) (by decide) rfl
theorem pick_c : PickC (Mi.run Φ wid (n + 2)) 10 := pick_call draw_c rfl
theorem order_c : OrderC (Mi.run Φ wid (n + 2)) 11 := order_call draw_c rfl
theorem words_c : WordsC (Mi.run Φ wid (n + 3)) 12 := words_call draw_c order_c rfl
theorem book_c : BookC (Mi.run Φ wid (n + 4)) 13 := book_call pick_c words_c rfl
theorem same_c : SameC (Mi.run Φ wid (n + 1)) 14 := same_call (by decide) rfl
theorem nds_map {α : Type} {f : α → D} {c : Nat} : ∀ {l : List α}, (∀ x ∈ l, nd (f x) ≤ c) → nds (l.map f) ≤ c * l.length
  | [], _ => by simp [nds]
  | x :: l, h => by
    have := nds_map (l := l) fun y hy => h y (List.mem_cons_of_mem _ hy)
    have := h x List.mem_cons_self
    simp only [List.map_cons, nds, List.length_cons, Nat.mul_add]
    omega
theorem pure_map {α : Type} {f : α → D} {l : List α} (h : ∀ x ∈ l, pureD (f x) = true) : pureDs (l.map f) = true := pure_mem.mpr fun d hd => by
  obtain ⟨x, hx, rfl⟩ := List.mem_map.mp hd
  exact h x hx
theorem nds_nats (l : List Nat) : nds (dNats l) = l.length := by
  induction l with
  | nil => rfl
  | cons a r ih => unfold dNats at ih ⊢; simp only [List.map_cons, nds, nd, ih, List.length_cons]; omega
theorem pure_nats (l : List Nat) : pureDs (dNats l) = true := pure_map fun _ _ => rfl
theorem same_nats {l : List Nat} (hl : l.length ≤ 1000) : pureD (.tup (dNats l)) = true ∧ nd (.tup (dNats l)) < 1000000 := ⟨pure_nats l, by simp only [nd, nds_nats]; omega⟩
theorem same_srt {l : List Nat} (hl : l.length ≤ 1000) : pureD (srt l) = true ∧ nd (srt l) < 1000000 := by
  have h1 := (isort_perm (l.map fun x => ((x : Nat) : Int))).length_eq
  have h2 := nds_map (f := D.int) (c := 1) (l := isort (l.map fun x => ((x : Nat) : Int))) fun x _ => by simp [nd]
  rw [h1, List.length_map] at h2
  exact ⟨pure_map fun _ _ => rfl, by simp only [srt, nd]; omega⟩
theorem same_moves {ms : List Mv} (hl : ms.length ≤ 100) (hm : ∀ m ∈ ms, m.pours.length ≤ 10) : pureD (.tup (ms.map dMv)) = true ∧ nd (.tup (ms.map dMv)) < 1000000 := by
  refine ⟨pure_map fun m _ => ?_, ?_⟩
  · simp only [dMv, pureD, pureDs, Bool.and_true, Bool.true_and]
    exact pure_map fun _ _ => rfl
  · have := nds_map (f := dMv) (c := 20) (l := ms) fun m hx => by
      have h2 := nds_map (f := D.int) (c := 1) (l := m.pours) fun x _ => by simp [nd]
      have := hm m hx
      simp only [dMv, nd, nds]
      omega
    simp only [nd]
    omega
theorem rests_succ {i : Nat} {s : Stg} (h : ss[i]? = some s) : rests ss (i + 1) = rests ss i ++ if s.moves.isEmpty = true then [i] else [] := by
  have hg : ss.getD i ⟨false, []⟩ = s := by simp [h]
  unfold rests
  rw [List.range_succ, List.filter_append]
  congr 1
  simp only [List.filter_cons, List.filter_nil, hg]
theorem owned_succ {i : Nat} {s : Stg} {b : Bool} (h : ss[i]? = some s) : owned b ss (i + 1) = owned b ss i ++ if (s.own == b) = true then [i] else [] := by
  have hg : ss.getD i ⟨false, []⟩ = s := by simp [h]
  unfold owned
  rw [List.range_succ, List.filter_append]
  congr 1
  simp only [List.filter_cons, List.filter_nil, hg]
theorem rests_len (i : Nat) : (rests ss i).length ≤ i := by
  have := List.length_filter_le (fun k => (ss.getD k ⟨false, []⟩).moves.isEmpty) (List.range i)
  rw [List.length_range] at this
  exact this
theorem owned_len (b : Bool) (i : Nat) : (owned b ss i).length ≤ i := by
  have := List.length_filter_le (fun k => (ss.getD k ⟨false, []⟩).own == b) (List.range i)
  rw [List.length_range] at this
  exact this
theorem reachF_in (wb : WB ss) : ∀ (k p : Nat) (acc : List Nat), (∀ a ∈ acc, a < ss.length) → acc.Nodup → (∀ a ∈ reachF ss k p acc, a < ss.length) ∧ (reachF ss k p acc).Nodup
  | 0, _, acc, h, hn => ⟨h, hn⟩
  | k + 1, p, acc, h, hn => by
    simp only [reachF]
    cases e : acc[p]? with
    | none => exact ⟨h, hn⟩
    | some s =>
      have hb := add_in (gs := goals ss s) (n := ss.length) (fun g hg => by
        have hs := h s (List.mem_of_getElem? e)
        unfold goals at hg
        obtain ⟨m, hm, rfl⟩ := List.mem_map.mp hg
        have : ss.getD s ⟨false, []⟩ = ss[s] := by simp [hs]
        rw [this] at hm
        exact ((wb.mv _ (List.getElem_mem hs)).2 m hm).1) h hn
      exact reachF_in wb k (p + 1) _ hb.1 hb.2
theorem reach_len (wb : WB ss) {s : Nat} (hs : s < ss.length) : (reach ss s).length ≤ 1000 := by
  have h := reachF_in wb (ss.length + 1) 0 [s] (by simpa using hs) (by simp)
  exact Nat.le_trans (bound h.1 h.2) wb.len
theorem putAll2 {k1 k2 : Key} {x y : D} (h : k1 ≠ k2) : putAll [(k1, x), (k2, y)] = [(k1, x), (k2, y)] := by
  simp [putAll, putKD, h]
def kO : Key := .inr ("outside" : Str)
def kH : Key := .inr ("house" : Str)
theorem kOH : kO ≠ kH := by decide +kernel
theorem getOwn {b : Bool} {x y : D} : getK [(kO, x), (kH, y)] (.inr (ownS b)) = some (if b = true then y else x) := by
  cases b with
  | false => simp [getK, kO, ownS]
  | true =>
    have h : ¬ kO = kH := kOH
    have e : (Sum.inr (ownS true) : Key) = kH := rfl
    rw [e]
    simp [getK, h]
theorem tgt_book {a b : Ix} {ρ : Mi.Env} : tgt (.tup [.name a, .name b]) (dBook t ss) ρ = some (put (put ρ a (some (.int (t : Nat)))) b (some (.tup (ss.map dSt)))) := rfl
theorem get_two {o p : O} : (S ++ [o] ++ [p])[S.length + (0 + [o].length)]? = some p := by
  have : S.length + (0 + [o].length) = (S ++ [o]).length := by simp
  rw [this]
  exact get_new
theorem bg_kp {S S' : Sto} (k : Kp 0 S S') (h : Bg S) : Bg S' := by
  obtain ⟨g, m, kvs, h⟩ := h
  exact ⟨g, m, kvs, h.v, k.get h.s1 (Nat.zero_le _), k.get h.s3 (Nat.zero_le _), k.get h.s4 (Nat.zero_le _)⟩
structure OwnAt (ss : List Stg) (L j i : Nat) (S : Sto) : Prop where
  r : S[L]? = some (.lst (dNats (rests ss j)))
  o : S[L + 1]? = some (.dct [(kO, .ptr (L + 2)), (kH, .ptr (L + 3))])
  q : ∀ b : Bool, S[if b = true then L + 3 else L + 2]? = some (.lst (dNats (owned b ss i)))
theorem OwnAt.kp {L j i : Nat} {S S' : Sto} (h : OwnAt ss L j i S) (k : Kp 0 S S') : OwnAt ss L j i S' := ⟨k.get h.r (Nat.zero_le _), k.get h.o (Nat.zero_le _), fun b => k.get (h.q b) (Nat.zero_le _)⟩
theorem w_parts (hb : Bg S) (wb : WB ss) (h0 : 0 < ss.length) : Wp (Mi.run Φ wid (n + 5) 17 [.ptr 4, dBook t ss] S) fun d S' => d = .bl true ∧ Bg S' ∧ Kp 5 S S' := wp_run rfl rfl (by
  have b : bgn 11 [.ptr 4, dBook t ss] = [some (.ptr 4), some (dBook t ss), none, none, none, none, none, none, none, none, none] := rfl
  simp only [b]
  have hlen := wb.len
  have h5 := hb.len
  have ek : (Sum.inr ("outside" : Str) : Key) = kO := rfl
  have ek2 : (Sum.inr ("house" : Str) : Key) = kH := rfl
  simp only [b17, wv_var, wv_cst, wv_bin, wv_neg, wv_cmp, wv_chn, wv_not, wv_and, wv_or, wv_ite, wv_idx, wv_slc, wv_tup, wv_lst, wv_dsp0, wv_dsp, wd_nil, wd_cons, wv_call, wv_callK, wv_blt, wv_mth, wv_isi, vp_turn, vp_turn2, ws_nil, ws_cons, wp_no, wp_yes, wt_val, wt_not, wt_and, wt_or, wo_yes, wo_one, wi_seq, wi_rng1, wi_rng2, wi_enm, rs_asg, rs_asgS, rs_aug, rs_augS, rs_exp, rs_ret, rs_retN, rs_ite, rs_for, rs_body, rs_whl, rs_brk, rs_cnt, rs_pas, rp_cons, rp_nil, seq_nx, seq_ret, seq_brk, seq_cnt, loop_nx, loop_ret, loop_brk, loop_cnt, wp_some, vp_some, vp_map, vp_gte, vp_gteP, gteP, o_ixT, o_ixP, o_ixK, i_lst, i_frz, i_dct, i_dctK, at0, at1, at2, at3, ix0, ix1, ix2, cast_pos, cast_ne, zero_cast, if_false, if_true, ite_false, ite_true, b_lenT, b_lenP, l_lst, l_frz, l_dct, b_abs, b_int, b_intB, b_tupT, b_tupP, b_lstT, b_lstP, b_srt, b_sum, b_any, b_all, b_max2, b_min2, b_lrg, o_add, o_sub, o_mul, o_fdv, o_mod, o_pow, o_cat, o_catS, o_catP, o_rep, n_int, bo_bl, in_int, c_lt, c_le, c_gt, c_ge, c_eq, c_ne, c_in, c_nin, e_ii, e_ss, e_bb, t_bl, t_int, t_tup, t_ptr, s_tup, s_ptr, m_app, m_pop, m_popAt, m_joinP, r_app, r_pop, r_popAt, r_join, a_add, a_sub, d_set, d_lst, d_dct, k_int, k_str, q_name, q_tup, q_nil, q_cons, p_z, p_s, g_z, g_s, f_nil, f_cons, z_n, z_b, z_i, z_s, z_t, cs_n, cs_b, cs_i, cs_s, cs_t, cn_n, cn_b, cn_i, cn_s, cn_t, isT, reduceCtorEq, decide_true, decide_false, Bool.or_true, Bool.or_false, Bool.true_or, Bool.false_or, Bool.not_true, Bool.not_false, true_implies, Bool.true_eq_false, Bool.false_eq_true, not_true_eq_false, not_false_eq_true, false_implies, and_true, true_and, decide_eq_true_eq, forall_const, Option.map_some, Option.bind_some, List.length_cons, List.length_nil, tgt_book, ek, ek2, cntI, List.length_map, putAll2 kOH, List.length_append, Nat.add_assoc]
  refine ⟨Nat.zero_le _, Nat.zero_le _, Nat.zero_le _, get_app (get_app get_two), ⟨by omega, by omega⟩, ?_⟩
  rw [Int.toNat_natCast]
  refine rp_for ((List.range ss.length).map fun k => D.int (0 + (k : Nat))) (fun i ρ S1 => ∃ x4 x5 x6 x9 x10, ρ = [some (.ptr 4), some (dBook t ss), some (.ptr S.length), some (.ptr (S.length + 1)), x4, x5, x6, some (.int t), some (.tup (ss.map dSt)), x9, x10] ∧ OwnAt ss S.length i i S1 ∧ Bg S1 ∧ Kp 5 S S1)
    (fun _ _ _ _ _ => itm_rng) ?_ ?_ _ 0 _ _ ?_ (Nat.zero_le _) (by simp)
  · rintro i d ρ S1 hi ⟨x4, x5, x6, x9, x10, rfl, ⟨hR, hO, hQ⟩, hB, kp⟩
    have hi' : i < ss.length := by
      have := (List.getElem?_eq_some_iff.mp hi).1
      simpa using this
    have hd : d = .int (i : Nat) := by
      rw [List.getElem?_map, List.getElem?_range hi'] at hi
      simpa using hi.symm
    subst hd
    have hs := List.getElem?_eq_getElem hi'
    generalize ss[i] = s at hs
    have hm := wb.mv s (List.mem_of_getElem? hs)
    -- the owner's list
    obtain ⟨q, hq, hqe, hqL⟩ : ∃ q, getK [(kO, D.ptr (S.length + 2)), (kH, .ptr (S.length + 3))] (.inr (ownS s.own)) = some (.ptr q) ∧ S1[q]? = some (.lst (dNats (owned s.own ss i))) ∧ q = (if s.own = true then S.length + 3 else S.length + 2) := by
      refine ⟨_, getOwn.trans ?_, ?_, rfl⟩
      · cases s.own <;> rfl
      · exact hQ s.own
    have hq2 : S.length + 2 ≤ q := by rw [hqL]; split <;> omega
    rw [rp_cons]
    simp only [wv_var, wv_cst, wv_bin, wv_neg, wv_cmp, wv_chn, wv_not, wv_and, wv_or, wv_ite, wv_idx, wv_slc, wv_tup, wv_lst, wv_dsp0, wv_dsp, wd_nil, wd_cons, wv_call, wv_callK, wv_blt, wv_mth, wv_isi, vp_turn, vp_turn2, ws_nil, ws_cons, wp_no, wp_yes, wt_val, wt_not, wt_and, wt_or, wo_yes, wo_one, wi_seq, wi_rng1, wi_rng2, wi_enm, rs_asg, rs_asgS, rs_aug, rs_augS, rs_exp, rs_ret, rs_retN, rs_ite, rs_for, rs_body, rs_whl, rs_brk, rs_cnt, rs_pas, rp_nil, seq_nx, seq_ret, seq_brk, seq_cnt, loop_nx, loop_ret, loop_brk, loop_cnt, wp_some, vp_some, vp_map, vp_gte, vp_gteP, gteP, o_ixT, o_ixP, o_ixK, i_lst, i_frz, i_dct, i_dctK, at0, at1, at2, at3, ix0, ix1, ix2, cast_pos, cast_ne, zero_cast, if_false, if_true, ite_false, ite_true, b_lenT, b_lenP, l_lst, l_frz, l_dct, b_abs, b_int, b_intB, b_tupT, b_tupP, b_lstT, b_lstP, b_srt, b_sum, b_any, b_all, b_max2, b_min2, b_lrg, o_add, o_sub, o_mul, o_fdv, o_mod, o_pow, o_cat, o_catS, o_catP, o_rep, n_int, bo_bl, in_int, c_lt, c_le, c_gt, c_ge, c_eq, c_ne, c_in, c_nin, e_ii, e_ss, e_bb, t_bl, t_int, t_tup, t_ptr, s_tup, s_ptr, m_app, m_pop, m_popAt, m_joinP, r_app, r_pop, r_popAt, r_join, a_add, a_sub, d_set, d_lst, d_dct, k_int, k_str, q_name, q_tup, q_nil, q_cons, p_z, p_s, g_z, g_s, f_nil, f_cons, z_n, z_b, z_i, z_s, z_t, cs_n, cs_b, cs_i, cs_s, cs_t, cn_n, cn_b, cn_i, cn_s, cn_t, isT, reduceCtorEq, decide_true, decide_false, Bool.or_true, Bool.or_false, Bool.true_or, Bool.false_or, Bool.not_true, Bool.not_false, true_implies, Bool.true_eq_false, Bool.false_eq_true, not_true_eq_false, not_false_eq_true, false_implies, and_true, true_and, decide_eq_true_eq, forall_const, Option.map_some, Option.bind_some, List.length_cons, List.length_nil, at_map hs, dSt]
    rw [rp_cons]
    simp only [wv_var, wv_cst, wv_bin, wv_neg, wv_cmp, wv_chn, wv_not, wv_and, wv_or, wv_ite, wv_idx, wv_slc, wv_tup, wv_lst, wv_dsp0, wv_dsp, wd_nil, wd_cons, wv_call, wv_callK, wv_blt, wv_mth, wv_isi, vp_turn, vp_turn2, ws_nil, ws_cons, wp_no, wp_yes, wt_val, wt_not, wt_and, wt_or, wo_yes, wo_one, wi_seq, wi_rng1, wi_rng2, wi_enm, rs_asg, rs_asgS, rs_aug, rs_augS, rs_exp, rs_ret, rs_retN, rs_ite, rs_for, rs_body, rs_whl, rs_brk, rs_cnt, rs_pas, rp_nil, seq_nx, seq_ret, seq_brk, seq_cnt, loop_nx, loop_ret, loop_brk, loop_cnt, wp_some, vp_some, vp_map, vp_gte, vp_gteP, gteP, o_ixT, o_ixP, o_ixK, i_lst, i_frz, i_dct, i_dctK, at0, at1, at2, at3, ix0, ix1, ix2, cast_pos, cast_ne, zero_cast, if_false, if_true, ite_false, ite_true, b_lenT, b_lenP, l_lst, l_frz, l_dct, b_abs, b_int, b_intB, b_tupT, b_tupP, b_lstT, b_lstP, b_srt, b_sum, b_any, b_all, b_max2, b_min2, b_lrg, o_add, o_sub, o_mul, o_fdv, o_mod, o_pow, o_cat, o_catS, o_catP, o_rep, n_int, bo_bl, in_int, c_lt, c_le, c_gt, c_ge, c_eq, c_ne, c_in, c_nin, e_ii, e_ss, e_bb, t_bl, t_int, t_tup, t_ptr, s_tup, s_ptr, m_app, m_pop, m_popAt, m_joinP, r_app, r_pop, r_popAt, r_join, a_add, a_sub, d_set, d_lst, d_dct, k_int, k_str, q_name, q_tup, q_nil, q_cons, p_z, p_s, g_z, g_s, f_nil, f_cons, z_n, z_b, z_i, z_s, z_t, cs_n, cs_b, cs_i, cs_s, cs_t, cn_n, cn_b, cn_i, cn_s, cn_t, isT, reduceCtorEq, decide_true, decide_false, Bool.or_true, Bool.or_false, Bool.true_or, Bool.false_or, Bool.not_true, Bool.not_false, true_implies, Bool.true_eq_false, Bool.false_eq_true, not_true_eq_false, not_false_eq_true, false_implies, and_true, true_and, decide_eq_true_eq, forall_const, Option.map_some, Option.bind_some, List.length_cons, List.length_nil, hO, hq, mut_get hqe, Option.isSome, dNats, List.length_map]
    have lo := owned_len (ss := ss) s.own i
    have lr := rests_len (ss := ss) i
    refine ⟨by rw [sizeLine_eq]; omega, ?_⟩
    rw [rp_cons]
    have hqn : q < S1.length := get_lt hqe
    have hR1 := get_set_ne (k := q) (o' := .lst ((owned s.own ss i).map (fun x => D.int (x : Nat)) ++ [.int (i : Nat)])) hR (by omega)
    have hO1 := get_set_ne (k := q) (o' := .lst ((owned s.own ss i).map (fun x => D.int (x : Nat)) ++ [.int (i : Nat)])) hO (by omega)
    have hQ1 : ∀ b : Bool, (S1.set q (.lst ((owned s.own ss i).map (fun x => D.int (x : Nat)) ++ [.int (i : Nat)])))[if b = true then S.length + 3 else S.length + 2]? = some (.lst (dNats (owned b ss (i + 1)))) := fun b => by
      rw [owned_succ hs]
      by_cases e : s.own = b
      · subst e
        rw [← hqL, get_set hqn]
        simp [dNats]
      · have e2 : (s.own == b) = false := by simpa using e
        have hb2 := hQ b
        have ne : q ≠ (if b = true then S.length + 3 else S.length + 2) := by
          rw [hqL]
          cases hso : s.own <;> cases b <;> simp_all <;> omega
        rw [e2, get_set_ne hb2 ne]
        simp
    have hB1 : Bg (S1.set q (.lst ((owned s.own ss i).map (fun x => D.int (x : Nat)) ++ [.int (i : Nat)]))) := hB.set (by omega)
    have kp1 : Kp 5 S (S1.set q (.lst ((owned s.own ss i).map (fun x => D.int (x : Nat)) ++ [.int (i : Nat)]))) := kp.set (.inl (by omega))
    generalize S1.set q (.lst ((owned s.own ss i).map (fun x => D.int (x : Nat)) ++ [.int (i : Nat)])) = S2 at hR1 hO1 hQ1 hB1 kp1
    refine RP.mono (Q := fun f ρ' S3 => f = .nx ∧ ρ' = [some (.ptr 4), some (dBook t ss), some (.ptr S.length), some (.ptr (S.length + 1)), some (.int (i : Nat)), some (.str (ownS s.own)), x6, some (.int (t : Nat)), some (.tup (ss.map dSt)), x9, some (.tup (s.moves.map dMv))] ∧ OwnAt ss S.length (i + 1) (i + 1) S3 ∧ Bg S3 ∧ Kp 5 S S3) ?_ ?_
    · simp only [wv_var, wv_cst, wv_bin, wv_neg, wv_cmp, wv_chn, wv_not, wv_and, wv_or, wv_ite, wv_idx, wv_slc, wv_tup, wv_lst, wv_dsp0, wv_dsp, wd_nil, wd_cons, wv_call, wv_callK, wv_blt, wv_mth, wv_isi, wv_lc, vp_turn, vp_turn2, ws_nil, ws_cons, wp_no, wp_yes, wt_val, wt_not, wt_and, wt_or, wo_yes, wo_one, wi_seq, wi_rng1, wi_rng2, wi_enm, rs_asg, rs_asgS, rs_aug, rs_augS, rs_exp, rs_ret, rs_retN, rs_ite, rs_for, rs_body, rs_whl, rs_brk, rs_cnt, rs_pas, rp_cons, rp_nil, seq_nx, seq_ret, seq_brk, seq_cnt, loop_nx, loop_ret, loop_brk, loop_cnt, wp_some, vp_some, vp_map, vp_gte, vp_gteP, gteP, o_ixT, o_ixP, o_ixK, i_lst, i_frz, i_dct, i_dctK, at0, at1, at2, at3, ix0, ix1, ix2, cast_pos, cast_ne, zero_cast, if_false, if_true, ite_false, ite_true, b_lenT, b_lenP, l_lst, l_frz, l_dct, b_abs, b_int, b_intB, b_tupT, b_tupP, b_lstT, b_lstP, b_srt, b_sum, b_any, b_all, b_max2, b_min2, b_lrg, o_add, o_sub, o_mul, o_fdv, o_mod, o_pow, o_cat, o_catS, o_catP, o_rep, n_int, bo_bl, in_int, c_lt, c_le, c_gt, c_ge, c_eq, c_ne, c_in, c_nin, e_ii, e_ss, e_bb, t_bl, t_int, t_tup, t_ptr, s_tup, s_ptr, m_app, m_pop, m_popAt, m_joinP, r_app, r_pop, r_popAt, r_join, a_add, a_sub, d_set, d_lst, d_dct, k_int, k_str, q_name, q_tup, q_nil, q_cons, p_z, p_s, g_z, g_s, f_nil, f_cons, z_n, z_b, z_i, z_s, z_t, cs_n, cs_b, cs_i, cs_s, cs_t, cn_n, cn_b, cn_i, cn_s, cn_t, isT, reduceCtorEq, decide_true, decide_false, Bool.or_true, Bool.or_false, Bool.true_or, Bool.false_or, Bool.not_true, Bool.not_false, true_implies, Bool.true_eq_false, Bool.false_eq_true, not_true_eq_false, not_false_eq_true, false_implies, and_true, true_and, decide_eq_true_eq, forall_const, Option.map_some, Option.bind_some, List.length_cons, List.length_nil, List.length_map, mut_get hR1, Option.isSome, dNats]
      refine ⟨fun e => ⟨by rw [sizeLine_eq]; omega, ⟨?_, get_set_ne hO1 (by omega), fun b => get_set_ne (hQ1 b) (by cases b <;> simp)⟩, hB1.set (by omega), kp1.set (.inl (Nat.le_refl _))⟩, fun e => ⟨⟨?_, hO1, hQ1⟩, hB1, kp1⟩⟩
      · have : s.moves.isEmpty = true := by
          cases hsm : s.moves with
          | nil => rfl
          | cons => rw [hsm, List.length_cons] at e; omega
        rw [rests_succ hs, this, get_set (get_lt hR1)]
        simp [dNats]
      · have : s.moves.isEmpty = false := by
          cases hsm : s.moves with
          | nil => rw [hsm] at e; exact absurd rfl e
          | cons => rfl
        rw [rests_succ hs, this]
        simpa [dNats] using hR1
    · rintro f ρ' S3 ⟨rfl, rfl, h3, hB3, kp3⟩
      simp only [wv_var, wv_cst, wv_bin, wv_neg, wv_cmp, wv_chn, wv_not, wv_and, wv_or, wv_ite, wv_idx, wv_slc, wv_tup, wv_lst, wv_dsp0, wv_dsp, wd_nil, wd_cons, wv_call, wv_callK, wv_blt, wv_mth, wv_isi, vp_turn, vp_turn2, ws_nil, ws_cons, wp_no, wp_yes, wt_val, wt_not, wt_and, wt_or, wo_yes, wo_one, wi_seq, wi_rng1, wi_rng2, wi_enm, rs_asg, rs_asgS, rs_aug, rs_augS, rs_exp, rs_ret, rs_retN, rs_ite, rs_for, rs_body, rs_whl, rs_brk, rs_cnt, rs_pas, rp_cons, rp_nil, seq_nx, seq_ret, seq_brk, seq_cnt, loop_nx, loop_ret, loop_brk, loop_cnt, wp_some, vp_some, vp_map, vp_gte, vp_gteP, gteP, o_ixT, o_ixP, o_ixK, i_lst, i_frz, i_dct, i_dctK, at0, at1, at2, at3, ix0, ix1, ix2, cast_pos, cast_ne, zero_cast, if_false, if_true, ite_false, ite_true, b_lenT, b_lenP, l_lst, l_frz, l_dct, b_abs, b_int, b_intB, b_tupT, b_tupP, b_lstT, b_lstP, b_srt, b_sum, b_any, b_all, b_max2, b_min2, b_lrg, o_add, o_sub, o_mul, o_fdv, o_mod, o_pow, o_cat, o_catS, o_catP, o_rep, n_int, bo_bl, in_int, c_lt, c_le, c_gt, c_ge, c_eq, c_ne, c_in, c_nin, e_ii, e_ss, e_bb, t_bl, t_int, t_tup, t_ptr, s_tup, s_ptr, m_app, m_pop, m_popAt, m_joinP, r_app, r_pop, r_popAt, r_join, a_add, a_sub, d_set, d_lst, d_dct, k_int, k_str, q_name, q_tup, q_nil, q_cons, p_z, p_s, g_z, g_s, f_nil, f_cons, z_n, z_b, z_i, z_s, z_t, cs_n, cs_b, cs_i, cs_s, cs_t, cn_n, cn_b, cn_i, cn_s, cn_t, isT, reduceCtorEq, decide_true, decide_false, Bool.or_true, Bool.or_false, Bool.true_or, Bool.false_or, Bool.not_true, Bool.not_false, true_implies, Bool.true_eq_false, Bool.false_eq_true, not_true_eq_false, not_false_eq_true, false_implies, and_true, true_and, decide_eq_true_eq, forall_const, Option.map_some, Option.bind_some, List.length_cons, List.length_nil]
      refine (w_owner hs).mono fun d S4 ⟨e1, e2⟩ => ?_
      subst e1 e2
      refine (same_c (.str (ownS s.own)) S4 rfl (by simp [nd])).mono fun d S5 ⟨e1, kp5⟩ => ?_
      subst e1
      simp only [wv_var, wv_cst, wv_bin, wv_neg, wv_cmp, wv_chn, wv_not, wv_and, wv_or, wv_ite, wv_idx, wv_slc, wv_tup, wv_lst, wv_dsp0, wv_dsp, wd_nil, wd_cons, wv_call, wv_callK, wv_blt, wv_mth, wv_isi, vp_turn, vp_turn2, ws_nil, ws_cons, wp_no, wp_yes, wt_val, wt_not, wt_and, wt_or, wo_yes, wo_one, wi_seq, wi_rng1, wi_rng2, wi_enm, rs_asg, rs_asgS, rs_aug, rs_augS, rs_exp, rs_ret, rs_retN, rs_ite, rs_for, rs_body, rs_whl, rs_brk, rs_cnt, rs_pas, rp_cons, rp_nil, seq_nx, seq_ret, seq_brk, seq_cnt, loop_nx, loop_ret, loop_brk, loop_cnt, wp_some, vp_some, vp_map, vp_gte, vp_gteP, gteP, o_ixT, o_ixP, o_ixK, i_lst, i_frz, i_dct, i_dctK, at0, at1, at2, at3, ix0, ix1, ix2, cast_pos, cast_ne, zero_cast, if_false, if_true, ite_false, ite_true, b_lenT, b_lenP, l_lst, l_frz, l_dct, b_abs, b_int, b_intB, b_tupT, b_tupP, b_lstT, b_lstP, b_srt, b_sum, b_any, b_all, b_max2, b_min2, b_lrg, o_add, o_sub, o_mul, o_fdv, o_mod, o_pow, o_cat, o_catS, o_catP, o_rep, n_int, bo_bl, in_int, c_lt, c_le, c_gt, c_ge, c_eq, c_ne, c_in, c_nin, e_ii, e_ss, e_bb, t_bl, t_int, t_tup, t_ptr, s_tup, s_ptr, m_app, m_pop, m_popAt, m_joinP, r_app, r_pop, r_popAt, r_join, a_add, a_sub, d_set, d_lst, d_dct, k_int, k_str, q_name, q_tup, q_nil, q_cons, p_z, p_s, g_z, g_s, f_nil, f_cons, z_n, z_b, z_i, z_s, z_t, cs_n, cs_b, cs_i, cs_s, cs_t, cn_n, cn_b, cn_i, cn_s, cn_t, isT, reduceCtorEq, decide_true, decide_false, Bool.or_true, Bool.or_false, Bool.true_or, Bool.false_or, Bool.not_true, Bool.not_false, true_implies, Bool.true_eq_false, Bool.false_eq_true, not_true_eq_false, not_false_eq_true, false_implies, and_true, true_and, decide_eq_true_eq, forall_const, Option.map_some, Option.bind_some, List.length_cons, List.length_nil]
      refine Wp.mono (Q := fun d S' => d = .tup (s.moves.map dMv) ∧ S' = S5) (w_moves hs) fun d S4 ⟨e1, e2⟩ => ?_
      subst e1 e2
      have hsm := same_moves hm.1 fun m hx => (hm.2 m hx).2
      refine (same_c _ S4 hsm.1 hsm.2).mono fun d S6 ⟨e1, kp6⟩ => ?_
      subst e1
      simp only [wv_var, wv_cst, wv_bin, wv_neg, wv_cmp, wv_chn, wv_not, wv_and, wv_or, wv_ite, wv_idx, wv_slc, wv_tup, wv_lst, wv_dsp0, wv_dsp, wd_nil, wd_cons, wv_call, wv_callK, wv_blt, wv_mth, wv_isi, vp_turn, vp_turn2, ws_nil, ws_cons, wp_no, wp_yes, wt_val, wt_not, wt_and, wt_or, wo_yes, wo_one, wi_seq, wi_rng1, wi_rng2, wi_enm, rs_asg, rs_asgS, rs_aug, rs_augS, rs_exp, rs_ret, rs_retN, rs_ite, rs_for, rs_body, rs_whl, rs_brk, rs_cnt, rs_pas, rp_cons, rp_nil, seq_nx, seq_ret, seq_brk, seq_cnt, loop_nx, loop_ret, loop_brk, loop_cnt, wp_some, vp_some, vp_map, vp_gte, vp_gteP, gteP, o_ixT, o_ixP, o_ixK, i_lst, i_frz, i_dct, i_dctK, at0, at1, at2, at3, ix0, ix1, ix2, cast_pos, cast_ne, zero_cast, if_false, if_true, ite_false, ite_true, b_lenT, b_lenP, l_lst, l_frz, l_dct, b_abs, b_int, b_intB, b_tupT, b_tupP, b_lstT, b_lstP, b_srt, b_sum, b_any, b_all, b_max2, b_min2, b_lrg, o_add, o_sub, o_mul, o_fdv, o_mod, o_pow, o_cat, o_catS, o_catP, o_rep, n_int, bo_bl, in_int, c_lt, c_le, c_gt, c_ge, c_eq, c_ne, c_in, c_nin, e_ii, e_ss, e_bb, t_bl, t_int, t_tup, t_ptr, s_tup, s_ptr, m_app, m_pop, m_popAt, m_joinP, r_app, r_pop, r_popAt, r_join, a_add, a_sub, d_set, d_lst, d_dct, k_int, k_str, q_name, q_tup, q_nil, q_cons, p_z, p_s, g_z, g_s, f_nil, f_cons, z_n, z_b, z_i, z_s, z_t, cs_n, cs_b, cs_i, cs_s, cs_t, cn_n, cn_b, cn_i, cn_s, cn_t, isT, reduceCtorEq, decide_true, decide_false, Bool.or_true, Bool.or_false, Bool.true_or, Bool.false_or, Bool.not_true, Bool.not_false, true_implies, Bool.true_eq_false, Bool.false_eq_true, not_true_eq_false, not_false_eq_true, false_implies, and_true, true_and, decide_eq_true_eq, forall_const, Option.map_some, Option.bind_some, List.length_cons, List.length_nil]
      have kk := kp5.trans kp6
      exact ⟨_, _, x6, x9, _, rfl, h3.kp kk, bg_kp kk hB3, kp3.trans (kk.mono (Nat.zero_le _))⟩
  · rintro ρ S1 ⟨x4, x5, x6, x9, x10, rfl, hw, hB, kp⟩
    rw [List.length_map, List.length_range] at hw
    simp only [wv_var, wv_cst, wv_bin, wv_neg, wv_cmp, wv_chn, wv_not, wv_and, wv_or, wv_ite, wv_idx, wv_slc, wv_tup, wv_lst, wv_dsp0, wv_dsp, wd_nil, wd_cons, wv_call, wv_callK, wv_blt, wv_mth, wv_isi, vp_turn, vp_turn2, ws_nil, ws_cons, wp_no, wp_yes, wt_val, wt_not, wt_and, wt_or, wo_yes, wo_one, wi_seq, wi_rng1, wi_rng2, wi_enm, rs_asg, rs_asgS, rs_aug, rs_augS, rs_exp, rs_ret, rs_retN, rs_ite, rs_for, rs_body, rs_whl, rs_brk, rs_cnt, rs_pas, rp_cons, rp_nil, seq_nx, seq_ret, seq_brk, seq_cnt, loop_nx, loop_ret, loop_brk, loop_cnt, wp_some, vp_some, vp_map, vp_gte, vp_gteP, gteP, o_ixT, o_ixP, o_ixK, i_lst, i_frz, i_dct, i_dctK, at0, at1, at2, at3, ix0, ix1, ix2, cast_pos, cast_ne, zero_cast, if_false, if_true, ite_false, ite_true, b_lenT, b_lenP, l_lst, l_frz, l_dct, b_abs, b_int, b_intB, b_tupT, b_tupP, b_lstT, b_lstP, b_srt, b_sum, b_any, b_all, b_max2, b_min2, b_lrg, o_add, o_sub, o_mul, o_fdv, o_mod, o_pow, o_cat, o_catS, o_catP, o_rep, n_int, bo_bl, in_int, c_lt, c_le, c_gt, c_ge, c_eq, c_ne, c_in, c_nin, e_ii, e_ss, e_bb, t_bl, t_int, t_tup, t_ptr, s_tup, s_ptr, m_app, m_pop, m_popAt, m_joinP, r_app, r_pop, r_popAt, r_join, a_add, a_sub, d_set, d_lst, d_dct, k_int, k_str, q_name, q_tup, q_nil, q_cons, p_z, p_s, g_z, g_s, f_nil, f_cons, z_n, z_b, z_i, z_s, z_t, cs_n, cs_b, cs_i, cs_s, cs_t, cn_n, cn_b, cn_i, cn_s, cn_t, isT, reduceCtorEq, decide_true, decide_false, Bool.or_true, Bool.or_false, Bool.true_or, Bool.false_or, Bool.not_true, Bool.not_false, true_implies, Bool.true_eq_false, Bool.false_eq_true, not_true_eq_false, not_false_eq_true, false_implies, and_true, true_and, decide_eq_true_eq, forall_const, Option.map_some, Option.bind_some, List.length_cons, List.length_nil]
    refine w_tanks.mono fun d S2 ⟨e1, e2⟩ => ?_
    subst e1 e2
    refine (same_c (.int (t : Nat)) S2 rfl (by simp [nd])).mono fun d S3 ⟨e1, kp3⟩ => ?_
    subst e1
    simp only [wv_var, wv_cst, wv_bin, wv_neg, wv_cmp, wv_chn, wv_not, wv_and, wv_or, wv_ite, wv_idx, wv_slc, wv_tup, wv_lst, wv_dsp0, wv_dsp, wd_nil, wd_cons, wv_call, wv_callK, wv_blt, wv_mth, wv_isi, vp_turn, vp_turn2, ws_nil, ws_cons, wp_no, wp_yes, wt_val, wt_not, wt_and, wt_or, wo_yes, wo_one, wi_seq, wi_rng1, wi_rng2, wi_enm, rs_asg, rs_asgS, rs_aug, rs_augS, rs_exp, rs_ret, rs_retN, rs_ite, rs_for, rs_body, rs_whl, rs_brk, rs_cnt, rs_pas, rp_cons, rp_nil, seq_nx, seq_ret, seq_brk, seq_cnt, loop_nx, loop_ret, loop_brk, loop_cnt, wp_some, vp_some, vp_map, vp_gte, vp_gteP, gteP, o_ixT, o_ixP, o_ixK, i_lst, i_frz, i_dct, i_dctK, at0, at1, at2, at3, ix0, ix1, ix2, cast_pos, cast_ne, zero_cast, if_false, if_true, ite_false, ite_true, b_lenT, b_lenP, l_lst, l_frz, l_dct, b_abs, b_int, b_intB, b_tupT, b_tupP, b_lstT, b_lstP, b_srt, b_sum, b_any, b_all, b_max2, b_min2, b_lrg, o_add, o_sub, o_mul, o_fdv, o_mod, o_pow, o_cat, o_catS, o_catP, o_rep, n_int, bo_bl, in_int, c_lt, c_le, c_gt, c_ge, c_eq, c_ne, c_in, c_nin, e_ii, e_ss, e_bb, t_bl, t_int, t_tup, t_ptr, s_tup, s_ptr, m_app, m_pop, m_popAt, m_joinP, r_app, r_pop, r_popAt, r_join, a_add, a_sub, d_set, d_lst, d_dct, k_int, k_str, q_name, q_tup, q_nil, q_cons, p_z, p_s, g_z, g_s, f_nil, f_cons, z_n, z_b, z_i, z_s, z_t, cs_n, cs_b, cs_i, cs_s, cs_t, cn_n, cn_b, cn_i, cn_s, cn_t, isT, reduceCtorEq, decide_true, decide_false, Bool.or_true, Bool.or_false, Bool.true_or, Bool.false_or, Bool.not_true, Bool.not_false, true_implies, Bool.true_eq_false, Bool.false_eq_true, not_true_eq_false, not_false_eq_true, false_implies, and_true, true_and, decide_eq_true_eq, forall_const, Option.map_some, Option.bind_some, List.length_cons, List.length_nil]
    refine (w_rests (n := n + 2) hlen).mono fun d S4 ⟨e1, kp4⟩ => ?_
    subst e1
    have k34 := kp3.trans kp4
    have h4 := hw.kp k34
    simp only [wv_var, wv_cst, wv_bin, wv_neg, wv_cmp, wv_chn, wv_not, wv_and, wv_or, wv_ite, wv_idx, wv_slc, wv_tup, wv_lst, wv_dsp0, wv_dsp, wd_nil, wd_cons, wv_call, wv_callK, wv_blt, wv_mth, wv_isi, vp_turn, vp_turn2, ws_nil, ws_cons, wp_no, wp_yes, wt_val, wt_not, wt_and, wt_or, wo_yes, wo_one, wi_seq, wi_rng1, wi_rng2, wi_enm, rs_asg, rs_asgS, rs_aug, rs_augS, rs_exp, rs_ret, rs_retN, rs_ite, rs_for, rs_body, rs_whl, rs_brk, rs_cnt, rs_pas, rp_cons, rp_nil, seq_nx, seq_ret, seq_brk, seq_cnt, loop_nx, loop_ret, loop_brk, loop_cnt, wp_some, vp_some, vp_map, vp_gte, vp_gteP, gteP, o_ixT, o_ixP, o_ixK, i_lst, i_frz, i_dct, i_dctK, at0, at1, at2, at3, ix0, ix1, ix2, cast_pos, cast_ne, zero_cast, if_false, if_true, ite_false, ite_true, b_lenT, b_lenP, l_lst, l_frz, l_dct, b_abs, b_int, b_intB, b_tupT, b_tupP, b_lstT, b_lstP, b_srt, b_sum, b_any, b_all, b_max2, b_min2, b_lrg, o_add, o_sub, o_mul, o_fdv, o_mod, o_pow, o_cat, o_catS, o_catP, o_rep, n_int, bo_bl, in_int, c_lt, c_le, c_gt, c_ge, c_eq, c_ne, c_in, c_nin, e_ii, e_ss, e_bb, t_bl, t_int, t_tup, t_ptr, s_tup, s_ptr, m_app, m_pop, m_popAt, m_joinP, r_app, r_pop, r_popAt, r_join, a_add, a_sub, d_set, d_lst, d_dct, k_int, k_str, q_name, q_tup, q_nil, q_cons, p_z, p_s, g_z, g_s, f_nil, f_cons, z_n, z_b, z_i, z_s, z_t, cs_n, cs_b, cs_i, cs_s, cs_t, cn_n, cn_b, cn_i, cn_s, cn_t, isT, reduceCtorEq, decide_true, decide_false, Bool.or_true, Bool.or_false, Bool.true_or, Bool.false_or, Bool.not_true, Bool.not_false, true_implies, Bool.true_eq_false, Bool.false_eq_true, not_true_eq_false, not_false_eq_true, false_implies, and_true, true_and, decide_eq_true_eq, forall_const, Option.map_some, Option.bind_some, List.length_cons, List.length_nil, lst_get h4.r]
    have lr := rests_len (ss := ss) ss.length
    have hsn := same_nats (l := rests ss ss.length) (by omega)
    refine (same_c _ S4 hsn.1 hsn.2).mono fun d S5 ⟨e1, kp5⟩ => ?_
    subst e1
    have k35 := k34.trans kp5
    simp only [wv_var, wv_cst, wv_bin, wv_neg, wv_cmp, wv_chn, wv_not, wv_and, wv_or, wv_ite, wv_idx, wv_slc, wv_tup, wv_lst, wv_dsp0, wv_dsp, wd_nil, wd_cons, wv_call, wv_callK, wv_blt, wv_mth, wv_isi, vp_turn, vp_turn2, ws_nil, ws_cons, wp_no, wp_yes, wt_val, wt_not, wt_and, wt_or, wo_yes, wo_one, wi_seq, wi_rng1, wi_rng2, wi_enm, rs_asg, rs_asgS, rs_aug, rs_augS, rs_exp, rs_ret, rs_retN, rs_ite, rs_for, rs_body, rs_whl, rs_brk, rs_cnt, rs_pas, rp_cons, rp_nil, seq_nx, seq_ret, seq_brk, seq_cnt, loop_nx, loop_ret, loop_brk, loop_cnt, wp_some, vp_some, vp_map, vp_gte, vp_gteP, gteP, o_ixT, o_ixP, o_ixK, i_lst, i_frz, i_dct, i_dctK, at0, at1, at2, at3, ix0, ix1, ix2, cast_pos, cast_ne, zero_cast, if_false, if_true, ite_false, ite_true, b_lenT, b_lenP, l_lst, l_frz, l_dct, b_abs, b_int, b_intB, b_tupT, b_tupP, b_lstT, b_lstP, b_srt, b_sum, b_any, b_all, b_max2, b_min2, b_lrg, o_add, o_sub, o_mul, o_fdv, o_mod, o_pow, o_cat, o_catS, o_catP, o_rep, n_int, bo_bl, in_int, c_lt, c_le, c_gt, c_ge, c_eq, c_ne, c_in, c_nin, e_ii, e_ss, e_bb, t_bl, t_int, t_tup, t_ptr, s_tup, s_ptr, m_app, m_pop, m_popAt, m_joinP, r_app, r_pop, r_popAt, r_join, a_add, a_sub, d_set, d_lst, d_dct, k_int, k_str, q_name, q_tup, q_nil, q_cons, p_z, p_s, g_z, g_s, f_nil, f_cons, z_n, z_b, z_i, z_s, z_t, cs_n, cs_b, cs_i, cs_s, cs_t, cn_n, cn_b, cn_i, cn_s, cn_t, isT, reduceCtorEq, decide_true, decide_false, Bool.or_true, Bool.or_false, Bool.true_or, Bool.false_or, Bool.not_true, Bool.not_false, true_implies, Bool.true_eq_false, Bool.false_eq_true, not_true_eq_false, not_false_eq_true, false_implies, and_true, true_and, decide_eq_true_eq, forall_const, Option.map_some, Option.bind_some, List.length_cons, List.length_nil, seqI, cntI]
    refine ⟨by rw [sizeLine_eq]; decide, ?_⟩
    refine rp_for [D.str ("house" : Str), .str ("outside" : Str)] (fun i ρ S6 => ∃ x5, ρ = [some (.ptr 4), some (dBook t ss), some (.ptr S.length), some (.ptr (S.length + 1)), x4, x5, x6, some (.int (t : Nat)), some (.tup (ss.map dSt)), x9, x10] ∧ OwnAt ss S.length ss.length ss.length S6 ∧ Bg S6 ∧ Kp 5 S S6) (fun _ _ _ _ _ => rfl) ?_ ?_ _ 0 _ _ ⟨x5, rfl, hw.kp k35, bg_kp k35 hB, kp.trans (k35.mono (Nat.zero_le _))⟩ (Nat.zero_le _) (by simp)
    · rintro i d ρ S6 hi ⟨x5, rfl, hw6, hB6, kp6⟩
      obtain ⟨o, rfl⟩ : ∃ o : Bool, d = .str (ownS o) := by
        match i, hi with
        | 0, hi => exact ⟨true, (Option.some.inj (show some (D.str ("house" : Str)) = some d from hi)).symm⟩
        | 1, hi => exact ⟨false, (Option.some.inj (show some (D.str ("outside" : Str)) = some d from hi)).symm⟩
        | i + 2, hi => simp at hi
      simp only [wv_var, wv_cst, wv_bin, wv_neg, wv_cmp, wv_chn, wv_not, wv_and, wv_or, wv_ite, wv_idx, wv_slc, wv_tup, wv_lst, wv_dsp0, wv_dsp, wd_nil, wd_cons, wv_call, wv_callK, wv_blt, wv_mth, wv_isi, vp_turn, vp_turn2, ws_nil, ws_cons, wp_no, wp_yes, wt_val, wt_not, wt_and, wt_or, wo_yes, wo_one, wi_seq, wi_rng1, wi_rng2, wi_enm, rs_asg, rs_asgS, rs_aug, rs_augS, rs_exp, rs_ret, rs_retN, rs_ite, rs_for, rs_body, rs_whl, rs_brk, rs_cnt, rs_pas, rp_cons, rp_nil, seq_nx, seq_ret, seq_brk, seq_cnt, loop_nx, loop_ret, loop_brk, loop_cnt, wp_some, vp_some, vp_map, vp_gte, vp_gteP, gteP, o_ixT, o_ixP, o_ixK, i_lst, i_frz, i_dct, i_dctK, at0, at1, at2, at3, ix0, ix1, ix2, cast_pos, cast_ne, zero_cast, if_false, if_true, ite_false, ite_true, b_lenT, b_lenP, l_lst, l_frz, l_dct, b_abs, b_int, b_intB, b_tupT, b_tupP, b_lstT, b_lstP, b_srt, b_sum, b_any, b_all, b_max2, b_min2, b_lrg, o_add, o_sub, o_mul, o_fdv, o_mod, o_pow, o_cat, o_catS, o_catP, o_rep, n_int, bo_bl, in_int, c_lt, c_le, c_gt, c_ge, c_eq, c_ne, c_in, c_nin, e_ii, e_ss, e_bb, t_bl, t_int, t_tup, t_ptr, s_tup, s_ptr, m_app, m_pop, m_popAt, m_joinP, r_app, r_pop, r_popAt, r_join, a_add, a_sub, d_set, d_lst, d_dct, k_int, k_str, q_name, q_tup, q_nil, q_cons, p_z, p_s, g_z, g_s, f_nil, f_cons, z_n, z_b, z_i, z_s, z_t, cs_n, cs_b, cs_i, cs_s, cs_t, cn_n, cn_b, cn_i, cn_s, cn_t, isT, reduceCtorEq, decide_true, decide_false, Bool.or_true, Bool.or_false, Bool.true_or, Bool.false_or, Bool.not_true, Bool.not_false, true_implies, Bool.true_eq_false, Bool.false_eq_true, not_true_eq_false, not_false_eq_true, false_implies, and_true, true_and, decide_eq_true_eq, forall_const, Option.map_some, Option.bind_some, List.length_cons, List.length_nil]
      refine (w_standings hlen).mono fun d S7 ⟨e1, kp7⟩ => ?_
      subst e1
      have h7 := hw6.kp kp7
      have hg : getK [(kO, D.ptr (S.length + 2)), (kH, .ptr (S.length + 3))] (.inr (ownS o)) = some (.ptr (if o = true then S.length + 3 else S.length + 2)) := by
        rw [getOwn]
        cases o <;> rfl
      simp only [wv_var, wv_cst, wv_bin, wv_neg, wv_cmp, wv_chn, wv_not, wv_and, wv_or, wv_ite, wv_idx, wv_slc, wv_tup, wv_lst, wv_dsp0, wv_dsp, wd_nil, wd_cons, wv_call, wv_callK, wv_blt, wv_mth, wv_isi, vp_turn, vp_turn2, ws_nil, ws_cons, wp_no, wp_yes, wt_val, wt_not, wt_and, wt_or, wo_yes, wo_one, wi_seq, wi_rng1, wi_rng2, wi_enm, rs_asg, rs_asgS, rs_aug, rs_augS, rs_exp, rs_ret, rs_retN, rs_ite, rs_for, rs_body, rs_whl, rs_brk, rs_cnt, rs_pas, rp_cons, rp_nil, seq_nx, seq_ret, seq_brk, seq_cnt, loop_nx, loop_ret, loop_brk, loop_cnt, wp_some, vp_some, vp_map, vp_gte, vp_gteP, gteP, o_ixT, o_ixP, o_ixK, i_lst, i_frz, i_dct, i_dctK, at0, at1, at2, at3, ix0, ix1, ix2, cast_pos, cast_ne, zero_cast, if_false, if_true, ite_false, ite_true, b_lenT, b_lenP, l_lst, l_frz, l_dct, b_abs, b_int, b_intB, b_tupT, b_tupP, b_lstT, b_lstP, b_srt, b_sum, b_any, b_all, b_max2, b_min2, b_lrg, o_add, o_sub, o_mul, o_fdv, o_mod, o_pow, o_cat, o_catS, o_catP, o_rep, n_int, bo_bl, in_int, c_lt, c_le, c_gt, c_ge, c_eq, c_ne, c_in, c_nin, e_ii, e_ss, e_bb, t_bl, t_int, t_tup, t_ptr, s_tup, s_ptr, m_app, m_pop, m_popAt, m_joinP, r_app, r_pop, r_popAt, r_join, a_add, a_sub, d_set, d_lst, d_dct, k_int, k_str, q_name, q_tup, q_nil, q_cons, p_z, p_s, g_z, g_s, f_nil, f_cons, z_n, z_b, z_i, z_s, z_t, cs_n, cs_b, cs_i, cs_s, cs_t, cn_n, cn_b, cn_i, cn_s, cn_t, isT, reduceCtorEq, decide_true, decide_false, Bool.or_true, Bool.or_false, Bool.true_or, Bool.false_or, Bool.not_true, Bool.not_false, true_implies, Bool.true_eq_false, Bool.false_eq_true, not_true_eq_false, not_false_eq_true, false_implies, and_true, true_and, decide_eq_true_eq, forall_const, Option.map_some, Option.bind_some, List.length_cons, List.length_nil, h7.o, hg, lst_get (h7.q o)]
      have lo := owned_len (ss := ss) o ss.length
      have hsn := same_nats (l := owned o ss ss.length) (by omega)
      refine (same_c _ S7 hsn.1 hsn.2).mono fun d S8 ⟨e1, kp8⟩ => ?_
      subst e1
      have k8 := kp7.trans kp8
      simp only [wv_var, wv_cst, wv_bin, wv_neg, wv_cmp, wv_chn, wv_not, wv_and, wv_or, wv_ite, wv_idx, wv_slc, wv_tup, wv_lst, wv_dsp0, wv_dsp, wd_nil, wd_cons, wv_call, wv_callK, wv_blt, wv_mth, wv_isi, vp_turn, vp_turn2, ws_nil, ws_cons, wp_no, wp_yes, wt_val, wt_not, wt_and, wt_or, wo_yes, wo_one, wi_seq, wi_rng1, wi_rng2, wi_enm, rs_asg, rs_asgS, rs_aug, rs_augS, rs_exp, rs_ret, rs_retN, rs_ite, rs_for, rs_body, rs_whl, rs_brk, rs_cnt, rs_pas, rp_cons, rp_nil, seq_nx, seq_ret, seq_brk, seq_cnt, loop_nx, loop_ret, loop_brk, loop_cnt, wp_some, vp_some, vp_map, vp_gte, vp_gteP, gteP, o_ixT, o_ixP, o_ixK, i_lst, i_frz, i_dct, i_dctK, at0, at1, at2, at3, ix0, ix1, ix2, cast_pos, cast_ne, zero_cast, if_false, if_true, ite_false, ite_true, b_lenT, b_lenP, l_lst, l_frz, l_dct, b_abs, b_int, b_intB, b_tupT, b_tupP, b_lstT, b_lstP, b_srt, b_sum, b_any, b_all, b_max2, b_min2, b_lrg, o_add, o_sub, o_mul, o_fdv, o_mod, o_pow, o_cat, o_catS, o_catP, o_rep, n_int, bo_bl, in_int, c_lt, c_le, c_gt, c_ge, c_eq, c_ne, c_in, c_nin, e_ii, e_ss, e_bb, t_bl, t_int, t_tup, t_ptr, s_tup, s_ptr, m_app, m_pop, m_popAt, m_joinP, r_app, r_pop, r_popAt, r_join, a_add, a_sub, d_set, d_lst, d_dct, k_int, k_str, q_name, q_tup, q_nil, q_cons, p_z, p_s, g_z, g_s, f_nil, f_cons, z_n, z_b, z_i, z_s, z_t, cs_n, cs_b, cs_i, cs_s, cs_t, cn_n, cn_b, cn_i, cn_s, cn_t, isT, reduceCtorEq, decide_true, decide_false, Bool.or_true, Bool.or_false, Bool.true_or, Bool.false_or, Bool.not_true, Bool.not_false, true_implies, Bool.true_eq_false, Bool.false_eq_true, not_true_eq_false, not_false_eq_true, false_implies, and_true, true_and, decide_eq_true_eq, forall_const, Option.map_some, Option.bind_some, List.length_cons, List.length_nil]
      exact ⟨_, rfl, hw6.kp k8, bg_kp k8 hB6, kp6.trans (k8.mono (Nat.zero_le _))⟩
    · rintro ρ S6 ⟨x5, rfl, hw6, hB6, kp6⟩
      simp only [wv_var, wv_cst, wv_bin, wv_neg, wv_cmp, wv_chn, wv_not, wv_and, wv_or, wv_ite, wv_idx, wv_slc, wv_tup, wv_lst, wv_dsp0, wv_dsp, wd_nil, wd_cons, wv_call, wv_callK, wv_blt, wv_mth, wv_isi, vp_turn, vp_turn2, ws_nil, ws_cons, wp_no, wp_yes, wt_val, wt_not, wt_and, wt_or, wo_yes, wo_one, wi_seq, wi_rng1, wi_rng2, wi_enm, rs_asg, rs_asgS, rs_aug, rs_augS, rs_exp, rs_ret, rs_retN, rs_ite, rs_for, rs_body, rs_whl, rs_brk, rs_cnt, rs_pas, rp_cons, rp_nil, seq_nx, seq_ret, seq_brk, seq_cnt, loop_nx, loop_ret, loop_brk, loop_cnt, wp_some, vp_some, vp_map, vp_gte, vp_gteP, gteP, o_ixT, o_ixP, o_ixK, i_lst, i_frz, i_dct, i_dctK, at0, at1, at2, at3, ix0, ix1, ix2, cast_pos, cast_ne, zero_cast, if_false, if_true, ite_false, ite_true, b_lenT, b_lenP, l_lst, l_frz, l_dct, b_abs, b_int, b_intB, b_tupT, b_tupP, b_lstT, b_lstP, b_srt, b_sum, b_any, b_all, b_max2, b_min2, b_lrg, o_add, o_sub, o_mul, o_fdv, o_mod, o_pow, o_cat, o_catS, o_catP, o_rep, n_int, bo_bl, in_int, c_lt, c_le, c_gt, c_ge, c_eq, c_ne, c_in, c_nin, e_ii, e_ss, e_bb, t_bl, t_int, t_tup, t_ptr, s_tup, s_ptr, m_app, m_pop, m_popAt, m_joinP, r_app, r_pop, r_popAt, r_join, a_add, a_sub, d_set, d_lst, d_dct, k_int, k_str, q_name, q_tup, q_nil, q_cons, p_z, p_s, g_z, g_s, f_nil, f_cons, z_n, z_b, z_i, z_s, z_t, cs_n, cs_b, cs_i, cs_s, cs_t, cn_n, cn_b, cn_i, cn_s, cn_t, isT, reduceCtorEq, decide_true, decide_false, Bool.or_true, Bool.or_false, Bool.true_or, Bool.false_or, Bool.not_true, Bool.not_false, true_implies, Bool.true_eq_false, Bool.false_eq_true, not_true_eq_false, not_false_eq_true, false_implies, and_true, true_and, decide_eq_true_eq, forall_const, Option.map_some, Option.bind_some, List.length_cons, List.length_nil, cntI]
      refine ⟨⟨by decide, by decide⟩, ?_⟩
      refine rp_for ((List.range 3).map fun k => D.int (0 + (k : Nat))) (fun i ρ S7 => ∃ x6 x9, ρ = [some (.ptr 4), some (dBook t ss), some (.ptr S.length), some (.ptr (S.length + 1)), x4, x5, x6, some (.int (t : Nat)), some (.tup (ss.map dSt)), x9, x10] ∧ Bg S7 ∧ Kp 5 S S7) (fun _ _ _ _ _ => itm_rng) ?_ ?_ _ 0 _ _ ⟨_, _, rfl, hB6, kp6⟩ (Nat.zero_le _) (by simp)
      · rintro i d ρ S7 hi ⟨x6, x9, rfl, hB7, kp7⟩
        simp only [wv_var, wv_cst, wv_bin, wv_neg, wv_cmp, wv_chn, wv_not, wv_and, wv_or, wv_ite, wv_idx, wv_slc, wv_tup, wv_lst, wv_dsp0, wv_dsp, wd_nil, wd_cons, wv_call, wv_callK, wv_blt, wv_mth, wv_isi, vp_turn, vp_turn2, ws_nil, ws_cons, wp_no, wp_yes, wt_val, wt_not, wt_and, wt_or, wo_yes, wo_one, wi_seq, wi_rng1, wi_rng2, wi_enm, rs_asg, rs_asgS, rs_aug, rs_augS, rs_exp, rs_ret, rs_retN, rs_ite, rs_for, rs_body, rs_whl, rs_brk, rs_cnt, rs_pas, rp_cons, rp_nil, seq_nx, seq_ret, seq_brk, seq_cnt, loop_nx, loop_ret, loop_brk, loop_cnt, wp_some, vp_some, vp_map, vp_gte, vp_gteP, gteP, o_ixT, o_ixP, o_ixK, i_lst, i_frz, i_dct, i_dctK, at0, at1, at2, at3, ix0, ix1, ix2, cast_pos, cast_ne, zero_cast, if_false, if_true, ite_false, ite_true, b_lenT, b_lenP, l_lst, l_frz, l_dct, b_abs, b_int, b_intB, b_tupT, b_tupP, b_lstT, b_lstP, b_srt, b_sum, b_any, b_all, b_max2, b_min2, b_lrg, o_add, o_sub, o_mul, o_fdv, o_mod, o_pow, o_cat, o_catS, o_catP, o_rep, n_int, bo_bl, in_int, c_lt, c_le, c_gt, c_ge, c_eq, c_ne, c_in, c_nin, e_ii, e_ss, e_bb, t_bl, t_int, t_tup, t_ptr, s_tup, s_ptr, m_app, m_pop, m_popAt, m_joinP, r_app, r_pop, r_popAt, r_join, a_add, a_sub, d_set, d_lst, d_dct, k_int, k_str, q_name, q_tup, q_nil, q_cons, p_z, p_s, g_z, g_s, f_nil, f_cons, z_n, z_b, z_i, z_s, z_t, cs_n, cs_b, cs_i, cs_s, cs_t, cn_n, cn_b, cn_i, cn_s, cn_t, isT, reduceCtorEq, decide_true, decide_false, Bool.or_true, Bool.or_false, Bool.true_or, Bool.false_or, Bool.not_true, Bool.not_false, true_implies, Bool.true_eq_false, Bool.false_eq_true, not_true_eq_false, not_false_eq_true, false_implies, and_true, true_and, decide_eq_true_eq, forall_const, Option.map_some, Option.bind_some, List.length_cons, List.length_nil, List.length_map]
        refine (draw_c.b hB7 (by omega) (by omega)).mono fun d1 S8 ⟨r, e, p1, p2, hB8, kp8, l8⟩ => ?_
        subst e
        obtain ⟨k, rfl⟩ := Int.eq_ofNat_of_zero_le p1
        have hk : k < ss.length := by omega
        refine (w_reached (n := n + 1) wb hk).mono fun d S9 ⟨e1, kp9⟩ => ?_
        subst e1
        refine (w_lreached (n := n + 3) wb hk).mono fun d S10 ⟨e1, kp10⟩ => ?_
        subst e1
        have hsn := same_srt (reach_len wb hk)
        refine (same_c _ S10 hsn.1 hsn.2).mono fun d S11 ⟨e1, kp11⟩ => ?_
        subst e1
        have k11 := (kp9.trans kp10).trans kp11
        simp only [wv_var, wv_cst, wv_bin, wv_neg, wv_cmp, wv_chn, wv_not, wv_and, wv_or, wv_ite, wv_idx, wv_slc, wv_tup, wv_lst, wv_dsp0, wv_dsp, wd_nil, wd_cons, wv_call, wv_callK, wv_blt, wv_mth, wv_isi, vp_turn, vp_turn2, ws_nil, ws_cons, wp_no, wp_yes, wt_val, wt_not, wt_and, wt_or, wo_yes, wo_one, wi_seq, wi_rng1, wi_rng2, wi_enm, rs_asg, rs_asgS, rs_aug, rs_augS, rs_exp, rs_ret, rs_retN, rs_ite, rs_for, rs_body, rs_whl, rs_brk, rs_cnt, rs_pas, rp_cons, rp_nil, seq_nx, seq_ret, seq_brk, seq_cnt, loop_nx, loop_ret, loop_brk, loop_cnt, wp_some, vp_some, vp_map, vp_gte, vp_gteP, gteP, o_ixT, o_ixP, o_ixK, i_lst, i_frz, i_dct, i_dctK, at0, at1, at2, at3, ix0, ix1, ix2, cast_pos, cast_ne, zero_cast, if_false, if_true, ite_false, ite_true, b_lenT, b_lenP, l_lst, l_frz, l_dct, b_abs, b_int, b_intB, b_tupT, b_tupP, b_lstT, b_lstP, b_srt, b_sum, b_any, b_all, b_max2, b_min2, b_lrg, o_add, o_sub, o_mul, o_fdv, o_mod, o_pow, o_cat, o_catS, o_catP, o_rep, n_int, bo_bl, in_int, c_lt, c_le, c_gt, c_ge, c_eq, c_ne, c_in, c_nin, e_ii, e_ss, e_bb, t_bl, t_int, t_tup, t_ptr, s_tup, s_ptr, m_app, m_pop, m_popAt, m_joinP, r_app, r_pop, r_popAt, r_join, a_add, a_sub, d_set, d_lst, d_dct, k_int, k_str, q_name, q_tup, q_nil, q_cons, p_z, p_s, g_z, g_s, f_nil, f_cons, z_n, z_b, z_i, z_s, z_t, cs_n, cs_b, cs_i, cs_s, cs_t, cn_n, cn_b, cn_i, cn_s, cn_t, isT, reduceCtorEq, decide_true, decide_false, Bool.or_true, Bool.or_false, Bool.true_or, Bool.false_or, Bool.not_true, Bool.not_false, true_implies, Bool.true_eq_false, Bool.false_eq_true, not_true_eq_false, not_false_eq_true, false_implies, and_true, true_and, decide_eq_true_eq, forall_const, Option.map_some, Option.bind_some, List.length_cons, List.length_nil]
        exact ⟨_, _, rfl, bg_kp k11 hB8, (kp7.trans kp8).trans (k11.mono (Nat.zero_le _))⟩
      · rintro ρ S7 ⟨x6, x9, rfl, hB7, kp7⟩
        simp only [wv_var, wv_cst, wv_bin, wv_neg, wv_cmp, wv_chn, wv_not, wv_and, wv_or, wv_ite, wv_idx, wv_slc, wv_tup, wv_lst, wv_dsp0, wv_dsp, wd_nil, wd_cons, wv_call, wv_callK, wv_blt, wv_mth, wv_isi, vp_turn, vp_turn2, ws_nil, ws_cons, wp_no, wp_yes, wt_val, wt_not, wt_and, wt_or, wo_yes, wo_one, wi_seq, wi_rng1, wi_rng2, wi_enm, rs_asg, rs_asgS, rs_aug, rs_augS, rs_exp, rs_ret, rs_retN, rs_ite, rs_for, rs_body, rs_whl, rs_brk, rs_cnt, rs_pas, rp_cons, rp_nil, seq_nx, seq_ret, seq_brk, seq_cnt, loop_nx, loop_ret, loop_brk, loop_cnt, wp_some, vp_some, vp_map, vp_gte, vp_gteP, gteP, o_ixT, o_ixP, o_ixK, i_lst, i_frz, i_dct, i_dctK, at0, at1, at2, at3, ix0, ix1, ix2, cast_pos, cast_ne, zero_cast, if_false, if_true, ite_false, ite_true, b_lenT, b_lenP, l_lst, l_frz, l_dct, b_abs, b_int, b_intB, b_tupT, b_tupP, b_lstT, b_lstP, b_srt, b_sum, b_any, b_all, b_max2, b_min2, b_lrg, o_add, o_sub, o_mul, o_fdv, o_mod, o_pow, o_cat, o_catS, o_catP, o_rep, n_int, bo_bl, in_int, c_lt, c_le, c_gt, c_ge, c_eq, c_ne, c_in, c_nin, e_ii, e_ss, e_bb, t_bl, t_int, t_tup, t_ptr, s_tup, s_ptr, m_app, m_pop, m_popAt, m_joinP, r_app, r_pop, r_popAt, r_join, a_add, a_sub, d_set, d_lst, d_dct, k_int, k_str, q_name, q_tup, q_nil, q_cons, p_z, p_s, g_z, g_s, f_nil, f_cons, z_n, z_b, z_i, z_s, z_t, cs_n, cs_b, cs_i, cs_s, cs_t, cn_n, cn_b, cn_i, cn_s, cn_t, isT, reduceCtorEq, decide_true, decide_false, Bool.or_true, Bool.or_false, Bool.true_or, Bool.false_or, Bool.not_true, Bool.not_false, true_implies, Bool.true_eq_false, Bool.false_eq_true, not_true_eq_false, not_false_eq_true, false_implies, and_true, true_and, decide_eq_true_eq, forall_const, Option.map_some, Option.bind_some, List.length_cons, List.length_nil]
        exact ⟨hB7, kp7⟩
  · have gt : ∀ (k : Nat), (S ++ [O.lst []] ++ [O.dct []] ++ [O.lst []] ++ [O.lst []])[S.length + k]? = [O.lst [], O.dct [], O.lst [], O.lst []][k]? := fun k => by
      simp only [List.append_assoc, List.cons_append, List.nil_append]
      rw [List.getElem?_append_right (Nat.le_add_right _ _), Nat.add_sub_cancel_left]
    refine ⟨none, none, none, none, none, rfl, ⟨get_set_ne (i := S.length) (gt 0) (by omega), get_set (get_lt (gt 1)), fun b => ?_⟩, (((hb.app.app).app).app).set (by omega), ((((Kp.refl.app).app).app).app).set (.inl (by omega))⟩
    cases b
    · exact get_set_ne (i := S.length + 2) (gt 2) (by omega)
    · exact get_set_ne (i := S.length + 3) (gt 3) (by omega))
end K04

namespace K04
open PySem L2 Mi
variable {n : Nat} {S : Sto} {t : Nat} {ss : List Stg}
def nxt (many back : Nat) (ord : List Nat) (a : Nat) : List Nat := if a + 1 < many then [ord.getD (a + 1) 0] else if back < many then [ord.getD back 0] else []
structure At (many back : Nat) (ord : List Nat) (a : Nat) (s : Stg) : Prop where
  g : ∃ lp : Bool, s.moves.map (·.goal) = nxt many back ord a ++ if lp = true then [ord.getD a 0] else []
structure Wm (many : Nat) (ms : List Mv) : Prop where
  len : ms.length ≤ 2
  mv : ∀ m ∈ ms, m.goal < many ∧ m.pours.length = 1
theorem str_n : ("n" : Str) = ⟨([110] : List Nat).toArray⟩ := by decide +kernel
theorem str_back : ("back" : Str) = ⟨([98, 97, 99, 107] : List Nat).toArray⟩ := by decide +kernel
theorem str_loop : ("loop" : Str) = ⟨([108, 111, 111, 112] : List Nat).toArray⟩ := by decide +kernel
theorem str_house : ("house" : Str) = ownS true := rfl
theorem flat_rep {α : Type} (x : α) : ∀ k : Nat, (List.replicate k [x]).flatten = List.replicate k x
  | 0 => rfl
  | k + 1 => by simp only [List.replicate_succ, List.flatten_cons, flat_rep x k]; rfl
structure RowP (many back : Nat) (ord : List Nat) (ss : List Stg) : Prop where
  len : ss.length = many
  perm : ord.Perm (List.range many)
  at' : ∀ a s, a < many → ss[ord.getD a 0]? = some s → At many back ord a s
  wm : ∀ s ∈ ss, Wm many s.moves
structure RS (S : Sto) (k T : Nat) (ord : List Nat) (cur : List Stg) (S1 : Sto) : Prop where
  o : S1[k]? = some (.lst (dNats ord))
  c : S1[T]? = some (.lst (cur.map dSt))
  b : Bg S1
  k : Kp 5 S S1
structure MS (many back i : Nat) (gs : List Nat) (T M : Nat) (ms : List Mv) (S : Sto) : Prop where
  t : T < M
  m : S[M]? = some (.lst (ms.map dMv))
  g : ms.map (·.goal) = gs
  w : ∀ m ∈ ms, m.goal < many ∧ m.pours.length = 1
theorem w_row {many back : Nat} (hb : Bg S) (hm : 0 < many ∧ many ≤ 100) (hk : back ≤ many) : Wp (Mi.run Φ wid (n + 5) 16 [.ptr 4, .int many, .int back] S) fun d S' => ∃ (k : Nat) (ord : List Nat) (ss : List Stg), d = .tup [dBook 1 ss, .ptr k] ∧ S'[k]? = some (.lst (dNats ord)) ∧ S.length ≤ k ∧ RowP many back ord ss ∧ Bg S' ∧ Kp 5 S S' := wp_run rfl rfl (by
  have b : bgn 7 [.ptr 4, .int many, .int back] = [some (.ptr 4), some (.int many), some (.int back), none, none, none, none] := rfl
  simp only [b]
  have h5 := hb.len
  simp only [b16, wv_var, wv_cst, wv_bin, wv_neg, wv_cmp, wv_chn, wv_not, wv_and, wv_or, wv_ite, wv_idx, wv_slc, wv_tup, wv_lst, wv_dsp0, wv_dsp, wd_nil, wd_cons, wv_call, wv_callK, wv_blt, wv_mth, wv_isi, vp_turn, vp_turn2, ws_nil, ws_cons, wp_no, wp_yes, wt_val, wt_not, wt_and, wt_or, wo_yes, wo_one, wi_seq, wi_rng1, wi_rng2, wi_enm, rs_asg, rs_asgS, rs_aug, rs_augS, rs_exp, rs_ret, rs_retN, rs_ite, rs_for, rs_body, rs_whl, rs_brk, rs_cnt, rs_pas, rp_cons, rp_nil, seq_nx, seq_ret, seq_brk, seq_cnt, loop_nx, loop_ret, loop_brk, loop_cnt, wp_some, vp_some, vp_map, vp_gte, vp_gteP, gteP, o_ixT, o_ixP, o_ixK, i_lst, i_frz, i_dct, i_dctK, at0, at1, at2, at3, ix0, ix1, ix2, cast_pos, cast_ne, zero_cast, if_false, if_true, ite_false, ite_true, b_lenT, b_lenP, l_lst, l_frz, l_dct, b_abs, b_int, b_intB, b_tupT, b_tupP, b_lstT, b_lstP, b_srt, b_sum, b_any, b_all, b_max2, b_min2, b_lrg, o_add, o_sub, o_mul, o_fdv, o_mod, o_pow, o_cat, o_catS, o_catP, o_rep, n_int, bo_bl, in_int, c_lt, c_le, c_gt, c_ge, c_eq, c_ne, c_in, c_nin, e_ii, e_ss, e_bb, t_bl, t_int, t_tup, t_ptr, s_tup, s_ptr, m_app, m_pop, m_popAt, m_joinP, r_app, r_pop, r_popAt, r_join, a_add, a_sub, d_set, d_lst, d_dct, k_int, k_str, q_name, q_tup, q_nil, q_cons, p_z, p_s, g_z, g_s, f_nil, f_cons, z_n, z_b, z_i, z_s, z_t, cs_n, cs_b, cs_i, cs_s, cs_t, cn_n, cn_b, cn_i, cn_s, cn_t, isT, reduceCtorEq, decide_true, decide_false, Bool.or_true, Bool.or_false, Bool.true_or, Bool.false_or, Bool.not_true, Bool.not_false, true_implies, Bool.true_eq_false, Bool.false_eq_true, not_true_eq_false, not_false_eq_true, false_implies, and_true, true_and, decide_eq_true_eq, forall_const, Option.map_some, Option.bind_some, List.length_cons, List.length_nil, str_n, str_back, str_loop, str_house]
  refine (order_c (n := n + 2) many S hb (by omega)).mono fun d S1 ⟨k, ord, e, hk1, hO, hp, hB1, kp1⟩ => ?_
  subst e
  have hB1l := hB1.len
  have hT : mutOf (S1 ++ [O.lst [D.tup [.str (ownS true), .tup []]]]) S1.length = some [D.tup [.str (ownS true), .tup []]] := mut_get get_new
  have hol : ord.length = many := by rw [hp.length_eq, List.length_range]
  have ond : ord.Nodup := hp.symm.nodup List.nodup_range
  have olt : ∀ a, a < many → ord.getD a 0 < many ∧ ord[a]? = some (ord.getD a 0) := fun a ha => by
    have h1 : ord[a]? = some ord[a] := List.getElem?_eq_getElem (by omega)
    have h2 : ord.getD a 0 = ord[a] := by simp [hol, ha]
    refine ⟨?_, by rw [h1, h2]⟩
    rw [h2]
    simpa using hp.mem_iff.mp (List.getElem_mem (by omega))
  simp only [wv_var, wv_cst, wv_bin, wv_neg, wv_cmp, wv_chn, wv_not, wv_and, wv_or, wv_ite, wv_idx, wv_slc, wv_tup, wv_lst, wv_dsp0, wv_dsp, wd_nil, wd_cons, wv_call, wv_callK, wv_blt, wv_mth, wv_isi, vp_turn, vp_turn2, ws_nil, ws_cons, wp_no, wp_yes, wt_val, wt_not, wt_and, wt_or, wo_yes, wo_one, wi_seq, wi_rng1, wi_rng2, wi_enm, rs_asg, rs_asgS, rs_aug, rs_augS, rs_exp, rs_ret, rs_retN, rs_ite, rs_for, rs_body, rs_whl, rs_brk, rs_cnt, rs_pas, rp_cons, rp_nil, seq_nx, seq_ret, seq_brk, seq_cnt, loop_nx, loop_ret, loop_brk, loop_cnt, wp_some, vp_some, vp_map, vp_gte, vp_gteP, gteP, o_ixT, o_ixP, o_ixK, i_lst, i_frz, i_dct, i_dctK, at0, at1, at2, at3, ix0, ix1, ix2, cast_pos, cast_ne, zero_cast, if_false, if_true, ite_false, ite_true, b_lenT, b_lenP, l_lst, l_frz, l_dct, b_abs, b_int, b_intB, b_tupT, b_tupP, b_lstT, b_lstP, b_srt, b_sum, b_any, b_all, b_max2, b_min2, b_lrg, o_add, o_sub, o_mul, o_fdv, o_mod, o_pow, o_cat, o_catS, o_catP, o_rep, n_int, bo_bl, in_int, c_lt, c_le, c_gt, c_ge, c_eq, c_ne, c_in, c_nin, e_ii, e_ss, e_bb, t_bl, t_int, t_tup, t_ptr, s_tup, s_ptr, m_app, m_pop, m_popAt, m_joinP, r_app, r_pop, r_popAt, r_join, a_add, a_sub, d_set, d_lst, d_dct, k_int, k_str, q_name, q_tup, q_nil, q_cons, p_z, p_s, g_z, g_s, f_nil, f_cons, z_n, z_b, z_i, z_s, z_t, cs_n, cs_b, cs_i, cs_s, cs_t, cn_n, cn_b, cn_i, cn_s, cn_t, isT, reduceCtorEq, decide_true, decide_false, Bool.or_true, Bool.or_false, Bool.true_or, Bool.false_or, Bool.not_true, Bool.not_false, true_implies, Bool.true_eq_false, Bool.false_eq_true, not_true_eq_false, not_false_eq_true, false_implies, and_true, true_and, decide_eq_true_eq, forall_const, Option.map_some, Option.bind_some, List.length_cons, List.length_nil, hT, cntI, flat_rep, List.length_append]
  refine ⟨Nat.zero_le _, by rw [sizeLine_eq]; decide, by rw [sizeLine_eq]; decide, ⟨by omega, by omega, by rw [sizeLine_eq]; omega⟩, ⟨by omega, by omega⟩, ?_⟩
  rw [Int.toNat_natCast]
  generalize hT2 : S1.length + (0 + 1) = T
  have hT5 : 5 < T := by omega
  have hkT : k < T := by have := get_lt hO; omega
  refine rp_for ((List.range many).map fun k => D.int (0 + (k : Nat))) (fun i ρ S2 => ∃ (cur : List Stg) (x5 x6 : Option D), ρ = [some (.ptr 4), some (.int many), some (.int back), some (.ptr k), some (.ptr T), x5, x6] ∧ S2[k]? = some (.lst (dNats ord)) ∧ S2[T]? = some (.lst (cur.map dSt)) ∧ cur.length = many ∧ (∀ a s, a < i → cur[ord.getD a 0]? = some s → At many back ord a s) ∧ (∀ s ∈ cur, Wm many s.moves) ∧ Bg S2 ∧ Kp 5 S S2)
    (fun _ _ _ _ _ => itm_rng) ?_ ?_ _ 0 _ _ ?_ (Nat.zero_le _) (by simp)
  · rintro i d ρ S2 hi ⟨cur, x5, x6, rfl, hO2, hC, hcl, hat, hw, hB2, kp2⟩
    have hi' : i < many := by
      have := (List.getElem?_eq_some_iff.mp hi).1
      simpa using this
    have hd : d = .int (i : Nat) := by
      rw [List.getElem?_map, List.getElem?_range hi'] at hi
      simpa using hi.symm
    subst hd
    have oat : ∀ a, a < many → atI (ord.map fun x => D.int (x : Nat)) (a : Nat) = some (.int (ord.getD a 0 : Nat)) := fun a ha => at_map (f := fun x => D.int (x : Nat)) (olt a ha).2
    have hlen2 := get_lt hC
    -- moves
    rw [rp_cons]
    refine RP.mono (Q := fun f ρ' S3 => f = .nx ∧ ∃ (M : Nat) (ms : List Mv), ρ' = [some (.ptr 4), some (.int many), some (.int back), some (.ptr k), some (.ptr T), some (.int (i : Nat)), some (.ptr M)] ∧ MS many back i (if i + 1 < many then [ord.getD (i + 1) 0] else []) T M ms S3 ∧ RS S k T ord cur S3) ?_ ?_
    · simp only [wv_var, wv_cst, wv_bin, wv_neg, wv_cmp, wv_chn, wv_not, wv_and, wv_or, wv_ite, wv_idx, wv_slc, wv_tup, wv_lst, wv_dsp0, wv_dsp, wd_nil, wd_cons, wv_call, wv_callK, wv_blt, wv_mth, wv_isi, vp_turn, vp_turn2, ws_nil, ws_cons, wp_no, wp_yes, wt_val, wt_not, wt_and, wt_or, wo_yes, wo_one, wi_seq, wi_rng1, wi_rng2, wi_enm, rs_asg, rs_asgS, rs_aug, rs_augS, rs_exp, rs_ret, rs_retN, rs_ite, rs_for, rs_body, rs_whl, rs_brk, rs_cnt, rs_pas, rp_nil, seq_nx, seq_ret, seq_brk, seq_cnt, loop_nx, loop_ret, loop_brk, loop_cnt, wp_some, vp_some, vp_map, vp_gte, vp_gteP, gteP, o_ixT, o_ixP, o_ixK, i_lst, i_frz, i_dct, i_dctK, at0, at1, at2, at3, ix0, ix1, ix2, cast_pos, cast_ne, zero_cast, if_false, if_true, ite_false, ite_true, b_lenT, b_lenP, l_lst, l_frz, l_dct, b_abs, b_int, b_intB, b_tupT, b_tupP, b_lstT, b_lstP, b_srt, b_sum, b_any, b_all, b_max2, b_min2, b_lrg, o_add, o_sub, o_mul, o_fdv, o_mod, o_pow, o_cat, o_catS, o_catP, o_rep, n_int, bo_bl, in_int, c_lt, c_le, c_gt, c_ge, c_eq, c_ne, c_in, c_nin, e_ii, e_ss, e_bb, t_bl, t_int, t_tup, t_ptr, s_tup, s_ptr, m_app, m_pop, m_popAt, m_joinP, r_app, r_pop, r_popAt, r_join, a_add, a_sub, d_set, d_lst, d_dct, k_int, k_str, q_name, q_tup, q_nil, q_cons, p_z, p_s, g_z, g_s, f_nil, f_cons, z_n, z_b, z_i, z_s, z_t, cs_n, cs_b, cs_i, cs_s, cs_t, cn_n, cn_b, cn_i, cn_s, cn_t, isT, reduceCtorEq, decide_true, decide_false, Bool.or_true, Bool.or_false, Bool.true_or, Bool.false_or, Bool.not_true, Bool.not_false, true_implies, Bool.true_eq_false, Bool.false_eq_true, not_true_eq_false, not_false_eq_true, false_implies, and_true, true_and, decide_eq_true_eq, forall_const, Option.map_some, Option.bind_some, List.length_cons, List.length_nil, hO2, dNats]
      refine ⟨fun h => ?_, fun h => ?_⟩
      · have h' : i + 1 < many := by omega
        have e1 : ((i : Nat) : Int) + 1 = ((i + 1 : Nat) : Int) := by omega
        rw [e1]
        simp only [wv_var, wv_cst, wv_bin, wv_neg, wv_cmp, wv_chn, wv_not, wv_and, wv_or, wv_ite, wv_idx, wv_slc, wv_tup, wv_lst, wv_dsp0, wv_dsp, wd_nil, wd_cons, wv_call, wv_callK, wv_blt, wv_mth, wv_isi, vp_turn, vp_turn2, ws_nil, ws_cons, wp_no, wp_yes, wt_val, wt_not, wt_and, wt_or, wo_yes, wo_one, wi_seq, wi_rng1, wi_rng2, wi_enm, rs_asg, rs_asgS, rs_aug, rs_augS, rs_exp, rs_ret, rs_retN, rs_ite, rs_for, rs_body, rs_whl, rs_brk, rs_cnt, rs_pas, rp_nil, seq_nx, seq_ret, seq_brk, seq_cnt, loop_nx, loop_ret, loop_brk, loop_cnt, wp_some, vp_some, vp_map, vp_gte, vp_gteP, gteP, o_ixT, o_ixP, o_ixK, i_lst, i_frz, i_dct, i_dctK, at0, at1, at2, at3, ix0, ix1, ix2, cast_pos, cast_ne, zero_cast, if_false, if_true, ite_false, ite_true, b_lenT, b_lenP, l_lst, l_frz, l_dct, b_abs, b_int, b_intB, b_tupT, b_tupP, b_lstT, b_lstP, b_srt, b_sum, b_any, b_all, b_max2, b_min2, b_lrg, o_add, o_sub, o_mul, o_fdv, o_mod, o_pow, o_cat, o_catS, o_catP, o_rep, n_int, bo_bl, in_int, c_lt, c_le, c_gt, c_ge, c_eq, c_ne, c_in, c_nin, e_ii, e_ss, e_bb, t_bl, t_int, t_tup, t_ptr, s_tup, s_ptr, m_app, m_pop, m_popAt, m_joinP, r_app, r_pop, r_popAt, r_join, a_add, a_sub, d_set, d_lst, d_dct, k_int, k_str, q_name, q_tup, q_nil, q_cons, p_z, p_s, g_z, g_s, f_nil, f_cons, z_n, z_b, z_i, z_s, z_t, cs_n, cs_b, cs_i, cs_s, cs_t, cn_n, cn_b, cn_i, cn_s, cn_t, isT, reduceCtorEq, decide_true, decide_false, Bool.or_true, Bool.or_false, Bool.true_or, Bool.false_or, Bool.not_true, Bool.not_false, true_implies, Bool.true_eq_false, Bool.false_eq_true, not_true_eq_false, not_false_eq_true, false_implies, and_true, true_and, decide_eq_true_eq, forall_const, Option.map_some, Option.bind_some, List.length_cons, List.length_nil, oat _ h']
        refine ⟨by rw [sizeLine_eq]; decide, by rw [sizeLine_eq]; decide, by rw [sizeLine_eq]; decide, S2.length, [⟨[110], [0], ord.getD (i + 1) 0⟩], rfl, ⟨hlen2, get_new, by rw [if_pos h']; rfl, fun m hm => ?_⟩, get_app hO2, get_app hC, hB2.app, kp2.app⟩
        rw [List.mem_singleton.mp hm]
        exact ⟨(olt _ h').1, rfl⟩
      · have h' : ¬ i + 1 < many := by omega
        exact ⟨Nat.zero_le _, S2.length, [], rfl, ⟨hlen2, get_new, by rw [if_neg h']; rfl, by simp⟩, get_app hO2, get_app hC, hB2.app, kp2.app⟩
    · rintro f ρ' S3 ⟨rfl, M, ms, rfl, hM, h3⟩
      simp only [wv_var, wv_cst, wv_bin, wv_neg, wv_cmp, wv_chn, wv_not, wv_and, wv_or, wv_ite, wv_idx, wv_slc, wv_tup, wv_lst, wv_dsp0, wv_dsp, wd_nil, wd_cons, wv_call, wv_callK, wv_blt, wv_mth, wv_isi, vp_turn, vp_turn2, ws_nil, ws_cons, wp_no, wp_yes, wt_val, wt_not, wt_and, wt_or, wo_yes, wo_one, wi_seq, wi_rng1, wi_rng2, wi_enm, rs_asg, rs_asgS, rs_aug, rs_augS, rs_exp, rs_ret, rs_retN, rs_ite, rs_for, rs_body, rs_whl, rs_brk, rs_cnt, rs_pas, rp_nil, seq_nx, seq_ret, seq_brk, seq_cnt, loop_nx, loop_ret, loop_brk, loop_cnt, wp_some, vp_some, vp_map, vp_gte, vp_gteP, gteP, o_ixT, o_ixP, o_ixK, i_lst, i_frz, i_dct, i_dctK, at0, at1, at2, at3, ix0, ix1, ix2, cast_pos, cast_ne, zero_cast, if_false, if_true, ite_false, ite_true, b_lenT, b_lenP, l_lst, l_frz, l_dct, b_abs, b_int, b_intB, b_tupT, b_tupP, b_lstT, b_lstP, b_srt, b_sum, b_any, b_all, b_max2, b_min2, b_lrg, o_add, o_sub, o_mul, o_fdv, o_mod, o_pow, o_cat, o_catS, o_catP, o_rep, n_int, bo_bl, in_int, c_lt, c_le, c_gt, c_ge, c_eq, c_ne, c_in, c_nin, e_ii, e_ss, e_bb, t_bl, t_int, t_tup, t_ptr, s_tup, s_ptr, m_app, m_pop, m_popAt, m_joinP, r_app, r_pop, r_popAt, r_join, a_add, a_sub, d_set, d_lst, d_dct, k_int, k_str, q_name, q_tup, q_nil, q_cons, p_z, p_s, g_z, g_s, f_nil, f_cons, z_n, z_b, z_i, z_s, z_t, cs_n, cs_b, cs_i, cs_s, cs_t, cn_n, cn_b, cn_i, cn_s, cn_t, isT, reduceCtorEq, decide_true, decide_false, Bool.or_true, Bool.or_false, Bool.true_or, Bool.false_or, Bool.not_true, Bool.not_false, true_implies, Bool.true_eq_false, Bool.false_eq_true, not_true_eq_false, not_false_eq_true, false_implies, and_true, true_and, decide_eq_true_eq, forall_const, Option.map_some, Option.bind_some, List.length_cons, List.length_nil]
      rw [rp_cons]
      refine RP.mono (Q := fun f ρ' S4 => f = .nx ∧ ∃ (M : Nat) (ms : List Mv), ρ' = [some (.ptr 4), some (.int many), some (.int back), some (.ptr k), some (.ptr T), some (.int (i : Nat)), some (.ptr M)] ∧ MS many back i (nxt many back ord i) T M ms S4 ∧ RS S k T ord cur S4) ?_ ?_
      · simp only [wv_var, wv_cst, wv_bin, wv_neg, wv_cmp, wv_chn, wv_not, wv_and, wv_or, wv_ite, wv_idx, wv_slc, wv_tup, wv_lst, wv_dsp0, wv_dsp, wd_nil, wd_cons, wv_call, wv_callK, wv_blt, wv_mth, wv_isi, vp_turn, vp_turn2, ws_nil, ws_cons, wp_no, wp_yes, wt_val, wt_not, wt_and, wt_or, wo_yes, wo_one, wi_seq, wi_rng1, wi_rng2, wi_enm, rs_asg, rs_asgS, rs_aug, rs_augS, rs_exp, rs_ret, rs_retN, rs_ite, rs_for, rs_body, rs_whl, rs_brk, rs_cnt, rs_pas, rp_cons, rp_nil, seq_nx, seq_ret, seq_brk, seq_cnt, loop_nx, loop_ret, loop_brk, loop_cnt, wp_some, vp_some, vp_map, vp_gte, vp_gteP, gteP, o_ixT, o_ixP, o_ixK, i_lst, i_frz, i_dct, i_dctK, at0, at1, at2, at3, ix0, ix1, ix2, cast_pos, cast_ne, zero_cast, if_false, if_true, ite_false, ite_true, b_lenT, b_lenP, l_lst, l_frz, l_dct, b_abs, b_int, b_intB, b_tupT, b_tupP, b_lstT, b_lstP, b_srt, b_sum, b_any, b_all, b_max2, b_min2, b_lrg, o_add, o_sub, o_mul, o_fdv, o_mod, o_pow, o_cat, o_catS, o_catP, o_rep, n_int, bo_bl, in_int, c_lt, c_le, c_gt, c_ge, c_eq, c_ne, c_in, c_nin, e_ii, e_ss, e_bb, t_bl, t_int, t_tup, t_ptr, s_tup, s_ptr, m_app, m_pop, m_popAt, m_joinP, r_app, r_pop, r_popAt, r_join, a_add, a_sub, d_set, d_lst, d_dct, k_int, k_str, q_name, q_tup, q_nil, q_cons, p_z, p_s, g_z, g_s, f_nil, f_cons, z_n, z_b, z_i, z_s, z_t, cs_n, cs_b, cs_i, cs_s, cs_t, cn_n, cn_b, cn_i, cn_s, cn_t, isT, reduceCtorEq, decide_true, decide_false, Bool.or_true, Bool.or_false, Bool.true_or, Bool.false_or, Bool.not_true, Bool.not_false, true_implies, Bool.true_eq_false, Bool.false_eq_true, not_true_eq_false, not_false_eq_true, false_implies, and_true, true_and, decide_eq_true_eq, forall_const, Option.map_some, Option.bind_some, List.length_cons, List.length_nil, h3.o]
        refine ⟨fun h1 => ⟨fun h2 => ?_, fun h2 => ⟨M, ms, rfl, ⟨hM.t, hM.m, ?_, hM.w⟩, h3⟩⟩, fun h1 => ⟨M, ms, rfl, ⟨hM.t, hM.m, ?_, hM.w⟩, h3⟩⟩
        · have h2' : back < many := by omega
          unfold dNats
          simp only [wv_var, wv_cst, wv_bin, wv_neg, wv_cmp, wv_chn, wv_not, wv_and, wv_or, wv_ite, wv_idx, wv_slc, wv_tup, wv_lst, wv_dsp0, wv_dsp, wd_nil, wd_cons, wv_call, wv_callK, wv_blt, wv_mth, wv_isi, vp_turn, vp_turn2, ws_nil, ws_cons, wp_no, wp_yes, wt_val, wt_not, wt_and, wt_or, wo_yes, wo_one, wi_seq, wi_rng1, wi_rng2, wi_enm, rs_asg, rs_asgS, rs_aug, rs_augS, rs_exp, rs_ret, rs_retN, rs_ite, rs_for, rs_body, rs_whl, rs_brk, rs_cnt, rs_pas, rp_cons, rp_nil, seq_nx, seq_ret, seq_brk, seq_cnt, loop_nx, loop_ret, loop_brk, loop_cnt, wp_some, vp_some, vp_map, vp_gte, vp_gteP, gteP, o_ixT, o_ixP, o_ixK, i_lst, i_frz, i_dct, i_dctK, at0, at1, at2, at3, ix0, ix1, ix2, cast_pos, cast_ne, zero_cast, if_false, if_true, ite_false, ite_true, b_lenT, b_lenP, l_lst, l_frz, l_dct, b_abs, b_int, b_intB, b_tupT, b_tupP, b_lstT, b_lstP, b_srt, b_sum, b_any, b_all, b_max2, b_min2, b_lrg, o_add, o_sub, o_mul, o_fdv, o_mod, o_pow, o_cat, o_catS, o_catP, o_rep, n_int, bo_bl, in_int, c_lt, c_le, c_gt, c_ge, c_eq, c_ne, c_in, c_nin, e_ii, e_ss, e_bb, t_bl, t_int, t_tup, t_ptr, s_tup, s_ptr, m_app, m_pop, m_popAt, m_joinP, r_app, r_pop, r_popAt, r_join, a_add, a_sub, d_set, d_lst, d_dct, k_int, k_str, q_name, q_tup, q_nil, q_cons, p_z, p_s, g_z, g_s, f_nil, f_cons, z_n, z_b, z_i, z_s, z_t, cs_n, cs_b, cs_i, cs_s, cs_t, cn_n, cn_b, cn_i, cn_s, cn_t, isT, reduceCtorEq, decide_true, decide_false, Bool.or_true, Bool.or_false, Bool.true_or, Bool.false_or, Bool.not_true, Bool.not_false, true_implies, Bool.true_eq_false, Bool.false_eq_true, not_true_eq_false, not_false_eq_true, false_implies, and_true, true_and, decide_eq_true_eq, forall_const, Option.map_some, Option.bind_some, List.length_cons, List.length_nil, oat _ h2']
          refine ⟨by rw [sizeLine_eq]; decide, by rw [sizeLine_eq]; decide, by rw [sizeLine_eq]; decide, S3.length, [⟨[98, 97, 99, 107], [1], ord.getD back 0⟩], rfl, ⟨get_lt h3.c, get_new, ?_, fun m hm => ?_⟩, get_app h3.o, get_app h3.c, h3.b.app, h3.k.app⟩
          · unfold nxt
            rw [if_neg (by omega), if_pos h2']
            rfl
          · rw [List.mem_singleton.mp hm]
            exact ⟨(olt _ h2').1, rfl⟩
        · rw [hM.g, if_neg (by omega)]
          unfold nxt
          rw [if_neg (by omega), if_neg (by omega)]
        · rw [hM.g, if_pos (by omega)]
          unfold nxt
          rw [if_pos (by omega)]
      · rintro f ρ' S4 ⟨rfl, M, ms, rfl, hM, h4⟩
        simp only [wv_var, wv_cst, wv_bin, wv_neg, wv_cmp, wv_chn, wv_not, wv_and, wv_or, wv_ite, wv_idx, wv_slc, wv_tup, wv_lst, wv_dsp0, wv_dsp, wd_nil, wd_cons, wv_call, wv_callK, wv_blt, wv_mth, wv_isi, vp_turn, vp_turn2, ws_nil, ws_cons, wp_no, wp_yes, wt_val, wt_not, wt_and, wt_or, wo_yes, wo_one, wi_seq, wi_rng1, wi_rng2, wi_enm, rs_asg, rs_asgS, rs_aug, rs_augS, rs_exp, rs_ret, rs_retN, rs_ite, rs_for, rs_body, rs_whl, rs_brk, rs_cnt, rs_pas, rp_nil, seq_nx, seq_ret, seq_brk, seq_cnt, loop_nx, loop_ret, loop_brk, loop_cnt, wp_some, vp_some, vp_map, vp_gte, vp_gteP, gteP, o_ixT, o_ixP, o_ixK, i_lst, i_frz, i_dct, i_dctK, at0, at1, at2, at3, ix0, ix1, ix2, cast_pos, cast_ne, zero_cast, if_false, if_true, ite_false, ite_true, b_lenT, b_lenP, l_lst, l_frz, l_dct, b_abs, b_int, b_intB, b_tupT, b_tupP, b_lstT, b_lstP, b_srt, b_sum, b_any, b_all, b_max2, b_min2, b_lrg, o_add, o_sub, o_mul, o_fdv, o_mod, o_pow, o_cat, o_catS, o_catP, o_rep, n_int, bo_bl, in_int, c_lt, c_le, c_gt, c_ge, c_eq, c_ne, c_in, c_nin, e_ii, e_ss, e_bb, t_bl, t_int, t_tup, t_ptr, s_tup, s_ptr, m_app, m_pop, m_popAt, m_joinP, r_app, r_pop, r_popAt, r_join, a_add, a_sub, d_set, d_lst, d_dct, k_int, k_str, q_name, q_tup, q_nil, q_cons, p_z, p_s, g_z, g_s, f_nil, f_cons, z_n, z_b, z_i, z_s, z_t, cs_n, cs_b, cs_i, cs_s, cs_t, cn_n, cn_b, cn_i, cn_s, cn_t, isT, reduceCtorEq, decide_true, decide_false, Bool.or_true, Bool.or_false, Bool.true_or, Bool.false_or, Bool.not_true, Bool.not_false, true_implies, Bool.true_eq_false, Bool.false_eq_true, not_true_eq_false, not_false_eq_true, false_implies, and_true, true_and, decide_eq_true_eq, forall_const, Option.map_some, Option.bind_some, List.length_cons, List.length_nil]
        rw [rp_cons]
        refine RP.mono (Q := fun f ρ' S5 => f = .nx ∧ ρ' = [some (.ptr 4), some (.int many), some (.int back), some (.ptr k), some (.ptr T), some (.int (i : Nat)), some (.ptr M)] ∧ ∃ (lp : Bool) (ms : List Mv), MS many back i (nxt many back ord i ++ if lp = true then [ord.getD i 0] else []) T M ms S5 ∧ RS S k T ord cur S5) ?_ ?_
        · simp only [wv_var, wv_cst, wv_bin, wv_neg, wv_cmp, wv_chn, wv_not, wv_and, wv_or, wv_ite, wv_idx, wv_slc, wv_tup, wv_lst, wv_dsp0, wv_dsp, wd_nil, wd_cons, wv_call, wv_callK, wv_blt, wv_mth, wv_isi, vp_turn, vp_turn2, ws_nil, ws_cons, wp_no, wp_yes, wt_val, wt_not, wt_and, wt_or, wo_yes, wo_one, wi_seq, wi_rng1, wi_rng2, wi_enm, rs_asg, rs_asgS, rs_aug, rs_augS, rs_exp, rs_ret, rs_retN, rs_ite, rs_for, rs_body, rs_whl, rs_brk, rs_cnt, rs_pas, rp_cons, rp_nil, seq_nx, seq_ret, seq_brk, seq_cnt, loop_nx, loop_ret, loop_brk, loop_cnt, wp_some, vp_some, vp_map, vp_gte, vp_gteP, gteP, o_ixT, o_ixP, o_ixK, i_lst, i_frz, i_dct, i_dctK, at0, at1, at2, at3, ix0, ix1, ix2, cast_pos, cast_ne, zero_cast, if_false, if_true, ite_false, ite_true, b_lenT, b_lenP, l_lst, l_frz, l_dct, b_abs, b_int, b_intB, b_tupT, b_tupP, b_lstT, b_lstP, b_srt, b_sum, b_any, b_all, b_max2, b_min2, b_lrg, o_add, o_sub, o_mul, o_fdv, o_mod, o_pow, o_cat, o_catS, o_catP, o_rep, n_int, bo_bl, in_int, c_lt, c_le, c_gt, c_ge, c_eq, c_ne, c_in, c_nin, e_ii, e_ss, e_bb, t_bl, t_int, t_tup, t_ptr, s_tup, s_ptr, m_app, m_pop, m_popAt, m_joinP, r_app, r_pop, r_popAt, r_join, a_add, a_sub, d_set, d_lst, d_dct, k_int, k_str, q_name, q_tup, q_nil, q_cons, p_z, p_s, g_z, g_s, f_nil, f_cons, z_n, z_b, z_i, z_s, z_t, cs_n, cs_b, cs_i, cs_s, cs_t, cn_n, cn_b, cn_i, cn_s, cn_t, isT, reduceCtorEq, decide_true, decide_false, Bool.or_true, Bool.or_false, Bool.true_or, Bool.false_or, Bool.not_true, Bool.not_false, true_implies, Bool.true_eq_false, Bool.false_eq_true, not_true_eq_false, not_false_eq_true, false_implies, and_true, true_and, decide_eq_true_eq, forall_const, Option.map_some, Option.bind_some, List.length_cons, List.length_nil]
          refine (draw_c.b h4.b (by decide) (by decide)).mono fun d1 S5 ⟨r, e, p1, p2, hB5, kp5, l5⟩ => ?_
          subst e
          have h5o := kp5.get h4.o (by omega)
          have h5c := kp5.get h4.c (by omega)
          have h5m := kp5.get hM.m (by have := hM.t; omega)
          have hr5 : RS S k T ord cur S5 := ⟨h5o, h5c, hB5, h4.k.trans kp5⟩
          simp only [wv_var, wv_cst, wv_bin, wv_neg, wv_cmp, wv_chn, wv_not, wv_and, wv_or, wv_ite, wv_idx, wv_slc, wv_tup, wv_lst, wv_dsp0, wv_dsp, wd_nil, wd_cons, wv_call, wv_callK, wv_blt, wv_mth, wv_isi, vp_turn, vp_turn2, ws_nil, ws_cons, wp_no, wp_yes, wt_val, wt_not, wt_and, wt_or, wo_yes, wo_one, wi_seq, wi_rng1, wi_rng2, wi_enm, rs_asg, rs_asgS, rs_aug, rs_augS, rs_exp, rs_ret, rs_retN, rs_ite, rs_for, rs_body, rs_whl, rs_brk, rs_cnt, rs_pas, rp_cons, rp_nil, seq_nx, seq_ret, seq_brk, seq_cnt, loop_nx, loop_ret, loop_brk, loop_cnt, wp_some, vp_some, vp_map, vp_gte, vp_gteP, gteP, o_ixT, o_ixP, o_ixK, i_lst, i_frz, i_dct, i_dctK, at0, at1, at2, at3, ix0, ix1, ix2, cast_pos, cast_ne, zero_cast, if_false, if_true, ite_false, ite_true, b_lenT, b_lenP, l_lst, l_frz, l_dct, b_abs, b_int, b_intB, b_tupT, b_tupP, b_lstT, b_lstP, b_srt, b_sum, b_any, b_all, b_max2, b_min2, b_lrg, o_add, o_sub, o_mul, o_fdv, o_mod, o_pow, o_cat, o_catS, o_catP, o_rep, n_int, bo_bl, in_int, c_lt, c_le, c_gt, c_ge, c_eq, c_ne, c_in, c_nin, e_ii, e_ss, e_bb, t_bl, t_int, t_tup, t_ptr, s_tup, s_ptr, m_app, m_pop, m_popAt, m_joinP, r_app, r_pop, r_popAt, r_join, a_add, a_sub, d_set, d_lst, d_dct, k_int, k_str, q_name, q_tup, q_nil, q_cons, p_z, p_s, g_z, g_s, f_nil, f_cons, z_n, z_b, z_i, z_s, z_t, cs_n, cs_b, cs_i, cs_s, cs_t, cn_n, cn_b, cn_i, cn_s, cn_t, isT, reduceCtorEq, decide_true, decide_false, Bool.or_true, Bool.or_false, Bool.true_or, Bool.false_or, Bool.not_true, Bool.not_false, true_implies, Bool.true_eq_false, Bool.false_eq_true, not_true_eq_false, not_false_eq_true, false_implies, and_true, true_and, decide_eq_true_eq, forall_const, Option.map_some, Option.bind_some, List.length_cons, List.length_nil, mut_get h5m, Option.isSome, h5o]
          have hml : ms.length ≤ 1 := by
            have := congrArg List.length hM.g
            rw [List.length_map] at this
            rw [this]
            unfold nxt
            split
            · simp
            · split <;> simp
          refine ⟨fun h1 => ?_, fun h1 => ⟨false, ms, ⟨hM.t, h5m, by rw [hM.g]; simp, hM.w⟩, hr5⟩⟩
          unfold dNats
          simp only [wv_var, wv_cst, wv_bin, wv_neg, wv_cmp, wv_chn, wv_not, wv_and, wv_or, wv_ite, wv_idx, wv_slc, wv_tup, wv_lst, wv_dsp0, wv_dsp, wd_nil, wd_cons, wv_call, wv_callK, wv_blt, wv_mth, wv_isi, vp_turn, vp_turn2, ws_nil, ws_cons, wp_no, wp_yes, wt_val, wt_not, wt_and, wt_or, wo_yes, wo_one, wi_seq, wi_rng1, wi_rng2, wi_enm, rs_asg, rs_asgS, rs_aug, rs_augS, rs_exp, rs_ret, rs_retN, rs_ite, rs_for, rs_body, rs_whl, rs_brk, rs_cnt, rs_pas, rp_cons, rp_nil, seq_nx, seq_ret, seq_brk, seq_cnt, loop_nx, loop_ret, loop_brk, loop_cnt, wp_some, vp_some, vp_map, vp_gte, vp_gteP, gteP, o_ixT, o_ixP, o_ixK, i_lst, i_frz, i_dct, i_dctK, at0, at1, at2, at3, ix0, ix1, ix2, cast_pos, cast_ne, zero_cast, if_false, if_true, ite_false, ite_true, b_lenT, b_lenP, l_lst, l_frz, l_dct, b_abs, b_int, b_intB, b_tupT, b_tupP, b_lstT, b_lstP, b_srt, b_sum, b_any, b_all, b_max2, b_min2, b_lrg, o_add, o_sub, o_mul, o_fdv, o_mod, o_pow, o_cat, o_catS, o_catP, o_rep, n_int, bo_bl, in_int, c_lt, c_le, c_gt, c_ge, c_eq, c_ne, c_in, c_nin, e_ii, e_ss, e_bb, t_bl, t_int, t_tup, t_ptr, s_tup, s_ptr, m_app, m_pop, m_popAt, m_joinP, r_app, r_pop, r_popAt, r_join, a_add, a_sub, d_set, d_lst, d_dct, k_int, k_str, q_name, q_tup, q_nil, q_cons, p_z, p_s, g_z, g_s, f_nil, f_cons, z_n, z_b, z_i, z_s, z_t, cs_n, cs_b, cs_i, cs_s, cs_t, cn_n, cn_b, cn_i, cn_s, cn_t, isT, reduceCtorEq, decide_true, decide_false, Bool.or_true, Bool.or_false, Bool.true_or, Bool.false_or, Bool.not_true, Bool.not_false, true_implies, Bool.true_eq_false, Bool.false_eq_true, not_true_eq_false, not_false_eq_true, false_implies, and_true, true_and, decide_eq_true_eq, forall_const, Option.map_some, Option.bind_some, List.length_cons, List.length_nil, oat _ hi', mut_get h5m]
          refine ⟨by rw [sizeLine_eq]; decide, by rw [sizeLine_eq]; decide, by rw [List.length_map, sizeLine_eq]; omega, true, ms ++ [⟨[108, 111, 111, 112], [-1], ord.getD i 0⟩], ⟨hM.t, (get_set (get_lt h5m)).trans (by rw [List.map_append]; rfl), by rw [List.map_append, hM.g]; rfl, fun m hm => ?_⟩, get_set_ne h5o (by have := hM.t; omega), get_set_ne h5c (by have := hM.t; omega), hB5.set (by have := hM.t; omega), (h4.k.trans kp5).set (.inl (by have := hM.t; have := kp1.len; omega))⟩
          rcases List.mem_append.mp hm with hm | hm
          · exact hM.w m hm
          · rw [List.mem_singleton.mp hm]
            exact ⟨(olt _ hi').1, rfl⟩
        · rintro f ρ' S5 ⟨rfl, rfl, lp, ms, hM, h5⟩
          simp only [wv_var, wv_cst, wv_bin, wv_neg, wv_cmp, wv_chn, wv_not, wv_and, wv_or, wv_ite, wv_idx, wv_slc, wv_tup, wv_lst, wv_dsp0, wv_dsp, wd_nil, wd_cons, wv_call, wv_callK, wv_blt, wv_mth, wv_isi, vp_turn, vp_turn2, ws_nil, ws_cons, wp_no, wp_yes, wt_val, wt_not, wt_and, wt_or, wo_yes, wo_one, wi_seq, wi_rng1, wi_rng2, wi_enm, rs_asg, rs_asgS, rs_aug, rs_augS, rs_exp, rs_ret, rs_retN, rs_ite, rs_for, rs_body, rs_whl, rs_brk, rs_cnt, rs_pas, rp_cons, rp_nil, seq_nx, seq_ret, seq_brk, seq_cnt, loop_nx, loop_ret, loop_brk, loop_cnt, wp_some, vp_some, vp_map, vp_gte, vp_gteP, gteP, o_ixT, o_ixP, o_ixK, i_lst, i_frz, i_dct, i_dctK, at0, at1, at2, at3, ix0, ix1, ix2, cast_pos, cast_ne, zero_cast, if_false, if_true, ite_false, ite_true, b_lenT, b_lenP, l_lst, l_frz, l_dct, b_abs, b_int, b_intB, b_tupT, b_tupP, b_lstT, b_lstP, b_srt, b_sum, b_any, b_all, b_max2, b_min2, b_lrg, o_add, o_sub, o_mul, o_fdv, o_mod, o_pow, o_cat, o_catS, o_catP, o_rep, n_int, bo_bl, in_int, c_lt, c_le, c_gt, c_ge, c_eq, c_ne, c_in, c_nin, e_ii, e_ss, e_bb, t_bl, t_int, t_tup, t_ptr, s_tup, s_ptr, m_app, m_pop, m_popAt, m_joinP, r_app, r_pop, r_popAt, r_join, a_add, a_sub, d_set, d_lst, d_dct, k_int, k_str, q_name, q_tup, q_nil, q_cons, p_z, p_s, g_z, g_s, f_nil, f_cons, z_n, z_b, z_i, z_s, z_t, cs_n, cs_b, cs_i, cs_s, cs_t, cn_n, cn_b, cn_i, cn_s, cn_t, isT, reduceCtorEq, decide_true, decide_false, Bool.or_true, Bool.or_false, Bool.true_or, Bool.false_or, Bool.not_true, Bool.not_false, true_implies, Bool.true_eq_false, Bool.false_eq_true, not_true_eq_false, not_false_eq_true, false_implies, and_true, true_and, decide_eq_true_eq, forall_const, Option.map_some, Option.bind_some, List.length_cons, List.length_nil]
          refine ⟨by rw [sizeLine_eq]; decide, ?_⟩
          refine (draw_c.b h5.b (by decide) (by decide)).mono fun d1 S6 ⟨r, e, p1, p2, hB6, kp6, l6⟩ => ?_
          subst e
          have h6o := kp6.get h5.o (by omega)
          have h6c := kp6.get h5.c (by omega)
          have h6m := kp6.get hM.m (by have := hM.t; omega)
          obtain ⟨o, ho⟩ : ∃ o : Bool, atI [D.str ("outside" : Str), .str (ownS true)] r = some (.str (ownS o)) := by
            have : r = 0 ∨ r = 1 := by omega
            rcases this with rfl | rfl
            · exact ⟨false, at0⟩
            · exact ⟨true, at1⟩
          have hw1 := (olt _ hi').1
          have hix : ixN (cur.map dSt).length (ord.getD i 0 : Nat) = some (ord.getD i 0) := ixOf_nat (by rw [List.length_map, hcl]; exact hw1)
          simp only [wv_var, wv_cst, wv_bin, wv_neg, wv_cmp, wv_chn, wv_not, wv_and, wv_or, wv_ite, wv_idx, wv_slc, wv_tup, wv_lst, wv_dsp0, wv_dsp, wd_nil, wd_cons, wv_call, wv_callK, wv_blt, wv_mth, wv_isi, vp_turn, vp_turn2, ws_nil, ws_cons, wp_no, wp_yes, wt_val, wt_not, wt_and, wt_or, wo_yes, wo_one, wi_seq, wi_rng1, wi_rng2, wi_enm, rs_asg, rs_asgS, rs_aug, rs_augS, rs_exp, rs_ret, rs_retN, rs_ite, rs_for, rs_body, rs_whl, rs_brk, rs_cnt, rs_pas, rp_cons, rp_nil, seq_nx, seq_ret, seq_brk, seq_cnt, loop_nx, loop_ret, loop_brk, loop_cnt, wp_some, vp_some, vp_map, vp_gte, vp_gteP, gteP, o_ixT, o_ixP, o_ixK, i_lst, i_frz, i_dct, i_dctK, at0, at1, at2, at3, ix0, ix1, ix2, cast_pos, cast_ne, zero_cast, if_false, if_true, ite_false, ite_true, b_lenT, b_lenP, l_lst, l_frz, l_dct, b_abs, b_int, b_intB, b_tupT, b_tupP, b_lstT, b_lstP, b_srt, b_sum, b_any, b_all, b_max2, b_min2, b_lrg, o_add, o_sub, o_mul, o_fdv, o_mod, o_pow, o_cat, o_catS, o_catP, o_rep, n_int, bo_bl, in_int, c_lt, c_le, c_gt, c_ge, c_eq, c_ne, c_in, c_nin, e_ii, e_ss, e_bb, t_bl, t_int, t_tup, t_ptr, s_tup, s_ptr, m_app, m_pop, m_popAt, m_joinP, r_app, r_pop, r_popAt, r_join, a_add, a_sub, d_set, d_lst, d_dct, k_int, k_str, q_name, q_tup, q_nil, q_cons, p_z, p_s, g_z, g_s, f_nil, f_cons, z_n, z_b, z_i, z_s, z_t, cs_n, cs_b, cs_i, cs_s, cs_t, cn_n, cn_b, cn_i, cn_s, cn_t, isT, reduceCtorEq, decide_true, decide_false, Bool.or_true, Bool.or_false, Bool.true_or, Bool.false_or, Bool.not_true, Bool.not_false, true_implies, Bool.true_eq_false, Bool.false_eq_true, not_true_eq_false, not_false_eq_true, false_implies, and_true, true_and, decide_eq_true_eq, forall_const, Option.map_some, Option.bind_some, List.length_cons, List.length_nil, ho, lst_get h6m, h6o, h6c, dNats, oat _ hi', hix]
          refine ⟨by rw [sizeLine_eq]; decide, cur.set (ord.getD i 0) ⟨o, ms⟩, _, _, rfl, get_set_ne h6o (by omega), (get_set (get_lt h6c)).trans ?_, by rw [List.length_set, hcl], fun a s ha hs => ?_, fun s hs => ?_, hB6.set (by omega), (h5.k.trans kp6).set (.inl (by have := kp1.len; omega))⟩
          · rw [List.map_set]
            rfl
          · by_cases hai : a = i
            · subst hai
              rw [List.getElem?_set_self (by rw [hcl]; exact hw1)] at hs
              cases hs
              exact ⟨lp, hM.g⟩
            · have hne : ord.getD i 0 ≠ ord.getD a 0 := fun e => hai (by
                have h1 := (olt a (by omega)).2
                have h2 := (olt i hi').2
                rw [← e, ← h2] at h1
                exact (List.getElem?_inj (show a < ord.length by omega) ond).mp h1)
              rw [List.getElem?_set_ne hne] at hs
              exact hat a s (by omega) hs
          · rcases List.mem_or_eq_of_mem_set hs with hs | rfl
            · exact hw s hs
            · refine ⟨?_, hM.w⟩
              have := congrArg List.length hM.g
              rw [List.length_map] at this
              show ms.length ≤ 2
              rw [this, List.length_append]
              unfold nxt
              have : (if lp = true then [ord.getD i 0] else []).length ≤ 1 := by split <;> simp
              split
              · simp only [List.length_singleton]; omega
              · split
                · simp only [List.length_singleton]; omega
                · simp only [List.length_nil]; omega
  · rintro ρ S2 ⟨cur, x5, x6, rfl, hO2, hC, hcl, hat, hw, hB2, kp2⟩
    rw [List.length_map, List.length_range] at hat
    simp only [wv_var, wv_cst, wv_bin, wv_neg, wv_cmp, wv_chn, wv_not, wv_and, wv_or, wv_ite, wv_idx, wv_slc, wv_tup, wv_lst, wv_dsp0, wv_dsp, wd_nil, wd_cons, wv_call, wv_callK, wv_blt, wv_mth, wv_isi, vp_turn, vp_turn2, ws_nil, ws_cons, wp_no, wp_yes, wt_val, wt_not, wt_and, wt_or, wo_yes, wo_one, wi_seq, wi_rng1, wi_rng2, wi_enm, rs_asg, rs_asgS, rs_aug, rs_augS, rs_exp, rs_ret, rs_retN, rs_ite, rs_for, rs_body, rs_whl, rs_brk, rs_cnt, rs_pas, rp_cons, rp_nil, seq_nx, seq_ret, seq_brk, seq_cnt, loop_nx, loop_ret, loop_brk, loop_cnt, wp_some, vp_some, vp_map, vp_gte, vp_gteP, gteP, o_ixT, o_ixP, o_ixK, i_lst, i_frz, i_dct, i_dctK, at0, at1, at2, at3, ix0, ix1, ix2, cast_pos, cast_ne, zero_cast, if_false, if_true, ite_false, ite_true, b_lenT, b_lenP, l_lst, l_frz, l_dct, b_abs, b_int, b_intB, b_tupT, b_tupP, b_lstT, b_lstP, b_srt, b_sum, b_any, b_all, b_max2, b_min2, b_lrg, o_add, o_sub, o_mul, o_fdv, o_mod, o_pow, o_cat, o_catS, o_catP, o_rep, n_int, bo_bl, in_int, c_lt, c_le, c_gt, c_ge, c_eq, c_ne, c_in, c_nin, e_ii, e_ss, e_bb, t_bl, t_int, t_tup, t_ptr, s_tup, s_ptr, m_app, m_pop, m_popAt, m_joinP, r_app, r_pop, r_popAt, r_join, a_add, a_sub, d_set, d_lst, d_dct, k_int, k_str, q_name, q_tup, q_nil, q_cons, p_z, p_s, g_z, g_s, f_nil, f_cons, z_n, z_b, z_i, z_s, z_t, cs_n, cs_b, cs_i, cs_s, cs_t, cn_n, cn_b, cn_i, cn_s, cn_t, isT, reduceCtorEq, decide_true, decide_false, Bool.or_true, Bool.or_false, Bool.true_or, Bool.false_or, Bool.not_true, Bool.not_false, true_implies, Bool.true_eq_false, Bool.false_eq_true, not_true_eq_false, not_false_eq_true, false_implies, and_true, true_and, decide_eq_true_eq, forall_const, Option.map_some, Option.bind_some, List.length_cons, List.length_nil, lst_get hC]
    exact ⟨by rw [sizeLine_eq]; decide, by rw [sizeLine_eq]; decide, k, ord, cur, rfl, hO2, hk1, ⟨hcl, hp, hat, hw⟩, hB2, kp2⟩
  · refine ⟨List.replicate many ⟨true, []⟩, none, none, rfl, get_app (get_app hO), ?_, by simp, fun a s ha => absurd ha (Nat.not_lt_zero a), fun s hs => ?_, hB1.app.app, kp1.app.app⟩
    · rw [← hT2, List.map_replicate]
      have : S1.length + (0 + 1) = (S1 ++ [O.lst [D.tup [.str (ownS true), .tup []]]]).length := by simp
      rw [this]
      exact get_new
    · rw [(List.mem_replicate.mp hs).2]
      exact ⟨Nat.zero_le _, by simp⟩)
end K04

namespace K04
open PySem L2 Mi
variable {n : Nat} {S : Sto} {t : Nat} {ss : List Stg}
theorem add_mem {acc : List Nat} {x : Nat} (h : x ∈ acc) : addAll acc [x] = acc := by
  show (if x ∈ acc then acc else acc ++ [x]) = acc
  rw [if_pos h]
theorem add_app {acc a b : List Nat} : addAll acc (a ++ b) = addAll (addAll acc a) b := List.foldl_append
/-- what a standing of the walk leads to -/
structure Nx (ss : List Stg) (seq : List Nat) (p : Nat) (s : Nat) : Prop where
  h : ∃ g l, goals ss s = g ++ l ∧ (l = [] ∨ l = [s]) ∧ ((∃ x, seq[p + 1]? = some x ∧ g = [x]) ∨ (p + 1 = seq.length ∧ (g = [] ∨ ∃ x ∈ seq, g = [x])))
theorem nx_add {seq : List Nat} {p s : Nat} (hn : seq.Nodup) (hs : seq[p]? = some s) (h : Nx ss seq p s) : addAll (seq.take (p + 1)) (goals ss s) = seq.take (p + 2) := by
  obtain ⟨g, l, e, hl, hg⟩ := h.h
  have hp := (List.getElem?_eq_some_iff.mp hs).1
  have key : addAll (seq.take (p + 1)) g = seq.take (p + 2) := by
    rcases hg with ⟨x, hx, rfl⟩ | ⟨hp1, rfl | ⟨x, hx, rfl⟩⟩
    · have hlt := (List.getElem?_eq_some_iff.mp hx).1
      show (if x ∈ seq.take (p + 1) then seq.take (p + 1) else seq.take (p + 1) ++ [x]) = _
      rw [if_neg, List.take_add_one (i := p + 1), hx]
      · rfl
      · intro hm
        obtain ⟨j, hj⟩ := List.getElem?_of_mem hm
        have hjl := (List.getElem?_eq_some_iff.mp hj).1
        rw [List.length_take] at hjl
        rw [List.getElem?_take_of_lt (by omega), ← hx] at hj
        have := (List.getElem?_inj (show j < seq.length by omega) hn).mp hj
        omega
    · rw [List.take_of_length_le (by omega), List.take_of_length_le (by omega)]
      rfl
    · rw [List.take_of_length_le (by omega), List.take_of_length_le (by omega)]
      exact add_mem hx
  rw [e, add_app, key]
  rcases hl with rfl | rfl
  · rfl
  · refine add_mem ?_
    refine List.mem_of_getElem? (i := p) ?_
    rw [List.getElem?_take_of_lt (by omega)]
    exact hs
theorem reach_seq {seq : List Nat} (hn : seq.Nodup) (h : ∀ p s, seq[p]? = some s → Nx ss seq p s) : ∀ (k p : Nat), p < seq.length → seq.length ≤ k + p → reachF ss k p (seq.take (p + 1)) = seq
  | 0, p, hp, hk => by omega
  | k + 1, p, hp, hk => by
    have hs := List.getElem?_eq_getElem hp
    have e : (seq.take (p + 1))[p]? = some seq[p] := by rw [List.getElem?_take_of_lt (by omega)]; exact hs
    simp only [reachF, e]
    rw [nx_add hn hs (h p _ hs)]
    by_cases hp1 : p + 1 < seq.length
    · exact reach_seq hn h k (p + 1) hp1 (by omega)
    · rw [List.take_of_length_le (by omega)]
      cases k with
      | zero => rfl
      | succ k => simp only [reachF, List.getElem?_eq_none (Nat.le_of_not_lt hp1)]
def seqOf (back : Nat) (ord : List Nat) (at' : Nat) : List Nat := ord.drop at' ++ if back < at' then (ord.drop back).take (at' - back) else []
theorem seq_perm {back at' : Nat} {ord : List Nat} : (seqOf back ord at').Perm (ord.drop (min at' back)) := by
  unfold seqOf
  by_cases h : back < at'
  · rw [if_pos h, Nat.min_eq_right (by omega)]
    have e : ord.drop at' = (ord.drop back).drop (at' - back) := by rw [List.drop_drop]; congr 1; omega
    rw [e]
    refine List.perm_append_comm.trans ?_
    rw [List.take_append_drop]
  · rw [if_neg h, Nat.min_eq_left (by omega), List.append_nil]
theorem row_nx {many back at' : Nat} {ord : List Nat} (R : RowP many back ord ss) (hk : back ≤ many) (ha : at' < many) : ∀ p s, (seqOf back ord at')[p]? = some s → Nx ss (seqOf back ord at') p s := by
  intro p s hs
  have hol : ord.length = many := by rw [R.perm.length_eq, List.length_range]
  have dl : (ord.drop at').length = many - at' := by rw [List.length_drop, hol]
  have olt : ∀ a, a < many → ord[a]? = some (ord.getD a 0) ∧ ord.getD a 0 < many := fun a ha => by
    have h1 : ord[a]? = some ord[a] := List.getElem?_eq_getElem (by omega)
    have h2 : ord.getD a 0 = ord[a] := by simp [hol, ha]
    refine ⟨by rw [h1, h2], ?_⟩
    rw [h2]
    simpa using R.perm.mem_iff.mp (List.getElem_mem (by omega))
  -- the p-th of the walk
  have at1 : ∀ q, q < many - at' → (seqOf back ord at')[q]? = ord[at' + q]? := fun q hq => by
    unfold seqOf
    rw [List.getElem?_append_left (by omega), List.getElem?_drop]
  have at2 : ∀ q, many - at' ≤ q → q < many - at' + (at' - back) → back < at' → (seqOf back ord at')[q]? = ord[back + (q - (many - at'))]? := fun q hq hq2 hb => by
    unfold seqOf
    rw [List.getElem?_append_right (by omega), if_pos hb, dl, List.getElem?_take_of_lt (by omega), List.getElem?_drop]
  have len : (seqOf back ord at').length = if back < at' then many - at' + (at' - back) else many - at' := by
    unfold seqOf
    rw [List.length_append, dl]
    split
    · rw [List.length_take, List.length_drop, hol]
      omega
    · simp
  have hp := (List.getElem?_eq_some_iff.mp hs).1
  have gl : ∀ a, a < many → ∃ l, goals ss (ord.getD a 0) = nxt many back ord a ++ l ∧ (l = [] ∨ l = [ord.getD a 0]) := fun a ha => by
    have hlt := (olt a ha).2
    have hss := List.getElem?_eq_getElem (l := ss) (i := ord.getD a 0) (by rw [R.len]; exact hlt)
    obtain ⟨lp, e⟩ := (R.at' a _ ha hss).g
    have hg : goals ss (ord.getD a 0) = (ss[ord.getD a 0]'(by rw [R.len]; exact hlt)).moves.map (·.goal) := by
      unfold goals
      congr 2
      rw [List.getD_eq_getElem?_getD, hss]
      rfl
    refine ⟨_, hg.trans e, ?_⟩
    cases lp
    · exact .inl rfl
    · exact .inr rfl
  have mem : ∀ a, a < many → (at' ≤ a ∨ (back < at' ∧ back ≤ a)) → ord.getD a 0 ∈ seqOf back ord at' := fun a ha h => by
    rcases h with h | ⟨h1, h2⟩
    · refine List.mem_of_getElem? (i := a - at') ?_
      rw [at1 _ (by omega), show at' + (a - at') = a by omega]
      exact (olt a ha).1
    · by_cases h3 : at' ≤ a
      · refine List.mem_of_getElem? (i := a - at') ?_
        rw [at1 _ (by omega), show at' + (a - at') = a by omega]
        exact (olt a ha).1
      · refine List.mem_of_getElem? (i := many - at' + (a - back)) ?_
        rw [at2 _ (by omega) (by omega) h1, show back + (many - at' + (a - back) - (many - at')) = a by omega]
        exact (olt a ha).1
  by_cases h1 : p < many - at'
  · have e := at1 p h1
    rw [hs, (olt _ (by omega)).1] at e
    cases e
    obtain ⟨l, el, hl⟩ := gl (at' + p) (by omega)
    refine ⟨_, l, el, hl, ?_⟩
    unfold nxt
    by_cases h2 : at' + p + 1 < many
    · rw [if_pos h2]
      refine .inl ⟨_, ?_, rfl⟩
      rw [at1 _ (by omega), show at' + (p + 1) = at' + p + 1 by omega]
      exact (olt _ h2).1
    · rw [if_neg h2]
      by_cases hb : back < at'
      · rw [if_pos (by omega)]
        refine .inl ⟨_, ?_, rfl⟩
        rw [at2 _ (by omega) (by omega) hb, show back + (p + 1 - (many - at')) = back by omega]
        exact (olt _ (by omega)).1
      · rw [len, if_neg hb]
        refine .inr ⟨by omega, ?_⟩
        by_cases hbm : back < many
        · rw [if_pos hbm]
          exact .inr ⟨_, mem back hbm (.inl (by omega)), rfl⟩
        · rw [if_neg hbm]
          exact .inl rfl
  · have hb : back < at' := by
      rw [len] at hp
      split at hp
      · assumption
      · omega
    rw [len, if_pos hb] at hp
    have e := at2 p (by omega) hp hb
    rw [hs, (olt _ (by omega)).1] at e
    cases e
    obtain ⟨l, el, hl⟩ := gl (back + (p - (many - at'))) (by omega)
    refine ⟨_, l, el, hl, ?_⟩
    unfold nxt
    rw [if_pos (by omega)]
    by_cases h2 : p + 1 < many - at' + (at' - back)
    · refine .inl ⟨_, ?_, rfl⟩
      rw [at2 _ (by omega) h2 hb, show back + (p + 1 - (many - at')) = back + (p - (many - at')) + 1 by omega]
      exact (olt _ (by omega)).1
    · rw [len, if_pos hb]
      exact .inr ⟨by omega, .inr ⟨_, mem _ (by omega) (.inr ⟨hb, by omega⟩), rfl⟩⟩
theorem row_wb {many back : Nat} {ord : List Nat} (R : RowP many back ord ss) (hm : many ≤ 100) : WB ss := by
  refine ⟨by rw [R.len]; omega, fun s hs => ⟨by have := (R.wm s hs).len; omega, fun m hm' => ?_⟩⟩
  have h := (R.wm s hs).mv m hm'
  exact ⟨by rw [R.len]; exact h.1, by rw [h.2]; decide⟩
theorem row_reach {many back at' : Nat} {ord : List Nat} (R : RowP many back ord ss) (hk : back ≤ many) (ha : at' < many) : srt (reach ss (ord.getD at' 0)) = srt (ord.drop (min at' back)) := by
  have hol : ord.length = many := by rw [R.perm.length_eq, List.length_range]
  have ond : ord.Nodup := R.perm.symm.nodup List.nodup_range
  have hsp := seq_perm (back := back) (at' := at') (ord := ord)
  have hn : (seqOf back ord at').Nodup := hsp.symm.nodup (ond.sublist (List.drop_sublist _ _))
  have hl : 0 < (seqOf back ord at').length := by
    unfold seqOf
    rw [List.length_append, List.length_drop, hol]
    omega
  have hlen : (seqOf back ord at').length ≤ many := by
    rw [hsp.length_eq, List.length_drop, hol]
    omega
  have h1 : (seqOf back ord at').take 1 = [ord.getD at' 0] := by
    have h0 : (seqOf back ord at')[0]? = some (ord.getD at' 0) := by
      unfold seqOf
      rw [List.getElem?_append_left (by rw [List.length_drop, hol]; omega), List.getElem?_drop]
      simp [hol, ha]
    rw [show (1 : Nat) = 0 + 1 from rfl, List.take_add_one, h0]
    rfl
  have e : reach ss (ord.getD at' 0) = seqOf back ord at' := by
    unfold reach
    rw [← h1]
    exact reach_seq hn (row_nx R hk ha) (ss.length + 1) 0 hl (by rw [R.len]; omega)
  rw [e]
  unfold srt
  congr 2
  exact isort_eq ((isort_perm _).trans (hsp.map _)) (isort_sorted _)
end K04

namespace K04
open PySem L2 Mi
variable {n : Nat} {S : Sto} {t : Nat} {ss : List Stg}
theorem bag_c {ns : List Int} (hl : ns.length ≤ 63) : Wp (Mi.run Φ wid (n + 1) 8 [.ptr 0] [.frz (ns.map D.int)]) fun d S' => d = .ptr 4 ∧ Bg S' := wp_run rfl rfl ((bag_ok (s0 := 71011) (a := 40692) (c := 37) (by decide) (by decide) (by decide) hl).mono fun f ρ S' ⟨e, _, g, m, h⟩ => by subst e; exact ⟨rfl, _, _, _, h⟩)
theorem book_wb {many most : Nat} {size : Int} (h : BookP t many most size ss) (h1 : many ≤ 1000) (h2 : most ≤ 100) (h3 : t ≤ 10) : WB ss := by
  refine ⟨by rw [h.len]; omega, fun s hs => ⟨by have := (h.st s hs).len; omega, fun m hm => ?_⟩⟩
  have hh := (h.st s hs).mv m hm
  exact ⟨by rw [h.len]; exact hh.goal, by rw [hh.len]; exact h3⟩
def alone : List Stg := [⟨false, []⟩, ⟨true, [⟨[97], [1, 2], 1⟩]⟩]
theorem str_a : ("a" : Str) = ⟨([97] : List Nat).toArray⟩ := by decide +kernel
theorem str_out : ("outside" : Str) = ownS false := rfl
theorem alone_d : D.tup [.int 2, .tup [.tup [.str (ownS false), .tup []], .tup [.str (ownS true), .tup [.tup [.str ⟨([97] : List Nat).toArray⟩, .tup [.int 1, .int 2], .int 1]]]]] = dBook 2 alone := rfl
theorem alone_wb : WB alone := ⟨by decide, fun s hs => by
  rcases List.mem_cons.mp hs with rfl | hs
  · exact ⟨by decide, by simp⟩
  · rw [List.mem_singleton.mp hs]
    refine ⟨by decide, fun m hm => ?_⟩
    rw [List.mem_singleton.mp hm]
    exact ⟨by decide, by decide⟩⟩
theorem cut_drop {xs : List D} {m : Nat} (h : m ≤ xs.length) : cutD xs (some (m : Int)) none = xs.drop m := by
  unfold cutD
  rw [HT.sIx_none, show HT.sIx xs.length 0 (some (m : Int)) = min m xs.length from HT.sIx_nat xs.length 0 m, Nat.min_eq_left h]
  exact List.take_of_length_le (by rw [List.length_drop]; exact Nat.le_refl _)
theorem e0 : srt (reach alone 0) = .tup [.int 0] := rfl
theorem e1 : srt (reach alone 1) = .tup [.int 1] := rfl
theorem e2 : D.tup (dNats (rests alone alone.length)) = .tup [.int 0] := rfl
theorem e3 : D.tup (dNats (owned true alone alone.length)) = .tup [.int 1] := rfl
theorem tgt_row {a b : Ix} {ρ : Mi.Env} {x y : D} : tgt (.tup [.name a, .name b]) (.tup [x, y]) ρ = some (put (put ρ a (some x)) b (some y)) := rfl
theorem w_law {ns : List Int} (hl : ns.length ≤ 63) : Wp (Mi.run Φ wid (n + 6) 18 [.ptr 0] [.frz (ns.map D.int)]) fun d S' => d = .bl true := wp_run rfl rfl (by
  have b : bgn 11 [D.ptr 0] = [some (.ptr 0), none, none, none, none, none, none, none, none, none, none] := rfl
  simp only [b]
  simp only [b18]
  rw [rp_cons]
  simp only [wv_var, wv_cst, wv_bin, wv_neg, wv_cmp, wv_chn, wv_not, wv_and, wv_or, wv_ite, wv_idx, wv_slc, wv_tup, wv_lst, wv_dsp0, wv_dsp, wd_nil, wd_cons, wv_call, wv_callK, wv_blt, wv_mth, wv_isi, vp_turn, vp_turn2, ws_nil, ws_cons, wp_no, wp_yes, wt_val, wt_not, wt_and, wt_or, wo_yes, wo_one, wi_seq, wi_rng1, wi_rng2, wi_enm, rs_asg, rs_asgS, rs_aug, rs_augS, rs_exp, rs_ret, rs_retN, rs_ite, rs_for, rs_body, rs_whl, rs_brk, rs_cnt, rs_pas, rp_nil, seq_nx, seq_ret, seq_brk, seq_cnt, loop_nx, loop_ret, loop_brk, loop_cnt, wp_some, vp_some, vp_map, vp_gte, vp_gteP, gteP, o_ixT, o_ixP, o_ixK, i_lst, i_frz, i_dct, i_dctK, at0, at1, at2, at3, ix0, ix1, ix2, cast_pos, cast_ne, zero_cast, if_false, if_true, ite_false, ite_true, b_lenT, b_lenP, l_lst, l_frz, l_dct, b_abs, b_int, b_intB, b_tupT, b_tupP, b_lstT, b_lstP, b_srt, b_sum, b_any, b_all, b_max2, b_min2, b_lrg, o_add, o_sub, o_mul, o_fdv, o_mod, o_pow, o_cat, o_catS, o_catP, o_rep, n_int, bo_bl, in_int, c_lt, c_le, c_gt, c_ge, c_eq, c_ne, c_in, c_nin, e_ii, e_ss, e_bb, t_bl, t_int, t_tup, t_ptr, s_tup, s_ptr, m_app, m_pop, m_popAt, m_joinP, r_app, r_pop, r_popAt, r_join, a_add, a_sub, d_set, d_lst, d_dct, k_int, k_str, q_name, q_tup, q_nil, q_cons, p_z, p_s, g_z, g_s, f_nil, f_cons, z_n, z_b, z_i, z_s, z_t, cs_n, cs_b, cs_i, cs_s, cs_t, cn_n, cn_b, cn_i, cn_s, cn_t, isT, reduceCtorEq, decide_true, decide_false, Bool.or_true, Bool.or_false, Bool.true_or, Bool.false_or, Bool.not_true, Bool.not_false, true_implies, Bool.true_eq_false, Bool.false_eq_true, not_true_eq_false, not_false_eq_true, false_implies, and_true, true_and, decide_eq_true_eq, forall_const, Option.map_some, Option.bind_some, List.length_cons, List.length_nil]
  refine (bag_c (n := n + 4) hl).mono fun d S1 ⟨e, hB1⟩ => ?_
  subst e
  rw [rp_cons]
  simp only [wv_var, wv_cst, wv_bin, wv_neg, wv_cmp, wv_chn, wv_not, wv_and, wv_or, wv_ite, wv_idx, wv_slc, wv_tup, wv_lst, wv_dsp0, wv_dsp, wd_nil, wd_cons, wv_call, wv_callK, wv_blt, wv_mth, wv_isi, vp_turn, vp_turn2, ws_nil, ws_cons, wp_no, wp_yes, wt_val, wt_not, wt_and, wt_or, wo_yes, wo_one, wi_seq, wi_rng1, wi_rng2, wi_enm, rs_asg, rs_asgS, rs_aug, rs_augS, rs_exp, rs_ret, rs_retN, rs_ite, rs_for, rs_body, rs_whl, rs_brk, rs_cnt, rs_pas, rp_nil, seq_nx, seq_ret, seq_brk, seq_cnt, loop_nx, loop_ret, loop_brk, loop_cnt, wp_some, vp_some, vp_map, vp_gte, vp_gteP, gteP, o_ixT, o_ixP, o_ixK, i_lst, i_frz, i_dct, i_dctK, at0, at1, at2, at3, ix0, ix1, ix2, cast_pos, cast_ne, zero_cast, if_false, if_true, ite_false, ite_true, b_lenT, b_lenP, l_lst, l_frz, l_dct, b_abs, b_int, b_intB, b_tupT, b_tupP, b_lstT, b_lstP, b_srt, b_sum, b_any, b_all, b_max2, b_min2, b_lrg, o_add, o_sub, o_mul, o_fdv, o_mod, o_pow, o_cat, o_catS, o_catP, o_rep, n_int, bo_bl, in_int, c_lt, c_le, c_gt, c_ge, c_eq, c_ne, c_in, c_nin, e_ii, e_ss, e_bb, t_bl, t_int, t_tup, t_ptr, s_tup, s_ptr, m_app, m_pop, m_popAt, m_joinP, r_app, r_pop, r_popAt, r_join, a_add, a_sub, d_set, d_lst, d_dct, k_int, k_str, q_name, q_tup, q_nil, q_cons, p_z, p_s, g_z, g_s, f_nil, f_cons, z_n, z_b, z_i, z_s, z_t, cs_n, cs_b, cs_i, cs_s, cs_t, cn_n, cn_b, cn_i, cn_s, cn_t, isT, reduceCtorEq, decide_true, decide_false, Bool.or_true, Bool.or_false, Bool.true_or, Bool.false_or, Bool.not_true, Bool.not_false, true_implies, Bool.true_eq_false, Bool.false_eq_true, not_true_eq_false, not_false_eq_true, false_implies, and_true, true_and, decide_eq_true_eq, forall_const, Option.map_some, Option.bind_some, List.length_cons, List.length_nil, cntI]
  refine ⟨⟨by decide, by decide⟩, ?_⟩
  refine rp_for ((List.range 3).map fun k => D.int (0 + (k : Nat))) (fun i ρ S2 => ∃ x2 x8, ρ = [some (.ptr 0), some (.ptr 4), x2, none, none, none, none, none, x8, none, none] ∧ Bg S2) (fun _ _ _ _ _ => itm_rng) ?_ ?_ _ 0 _ _ ⟨_, _, rfl, hB1⟩ (Nat.zero_le _) (by simp)
  · rintro i d ρ S2 hi ⟨x2, x8, rfl, hB2⟩
    simp only [wv_var, wv_cst, wv_bin, wv_neg, wv_cmp, wv_chn, wv_not, wv_and, wv_or, wv_ite, wv_idx, wv_slc, wv_tup, wv_lst, wv_dsp0, wv_dsp, wd_nil, wd_cons, wv_call, wv_callK, wv_blt, wv_mth, wv_isi, vp_turn, vp_turn2, ws_nil, ws_cons, wp_no, wp_yes, wt_val, wt_not, wt_and, wt_or, wo_yes, wo_one, wi_seq, wi_rng1, wi_rng2, wi_enm, rs_asg, rs_asgS, rs_aug, rs_augS, rs_exp, rs_ret, rs_retN, rs_ite, rs_for, rs_body, rs_whl, rs_brk, rs_cnt, rs_pas, rp_cons, rp_nil, seq_nx, seq_ret, seq_brk, seq_cnt, loop_nx, loop_ret, loop_brk, loop_cnt, wp_some, vp_some, vp_map, vp_gte, vp_gteP, gteP, o_ixT, o_ixP, o_ixK, i_lst, i_frz, i_dct, i_dctK, at0, at1, at2, at3, ix0, ix1, ix2, cast_pos, cast_ne, zero_cast, if_false, if_true, ite_false, ite_true, b_lenT, b_lenP, l_lst, l_frz, l_dct, b_abs, b_int, b_intB, b_tupT, b_tupP, b_lstT, b_lstP, b_srt, b_sum, b_any, b_all, b_max2, b_min2, b_lrg, o_add, o_sub, o_mul, o_fdv, o_mod, o_pow, o_cat, o_catS, o_catP, o_rep, n_int, bo_bl, in_int, c_lt, c_le, c_gt, c_ge, c_eq, c_ne, c_in, c_nin, e_ii, e_ss, e_bb, t_bl, t_int, t_tup, t_ptr, s_tup, s_ptr, m_app, m_pop, m_popAt, m_joinP, r_app, r_pop, r_popAt, r_join, a_add, a_sub, d_set, d_lst, d_dct, k_int, k_str, q_name, q_tup, q_nil, q_cons, p_z, p_s, g_z, g_s, f_nil, f_cons, z_n, z_b, z_i, z_s, z_t, cs_n, cs_b, cs_i, cs_s, cs_t, cn_n, cn_b, cn_i, cn_s, cn_t, isT, reduceCtorEq, decide_true, decide_false, Bool.or_true, Bool.or_false, Bool.true_or, Bool.false_or, Bool.not_true, Bool.not_false, true_implies, Bool.true_eq_false, Bool.false_eq_true, not_true_eq_false, not_false_eq_true, false_implies, and_true, true_and, decide_eq_true_eq, forall_const, Option.map_some, Option.bind_some, List.length_cons, List.length_nil]
    refine (draw_c.b hB2 (by decide) (by decide)).mono fun d1 S3 ⟨r, e, p1, p2, hB3, kp3, l3⟩ => ?_
    subst e
    obtain ⟨k1, rfl⟩ := Int.eq_ofNat_of_zero_le p1
    simp only [wv_var, wv_cst, wv_bin, wv_neg, wv_cmp, wv_chn, wv_not, wv_and, wv_or, wv_ite, wv_idx, wv_slc, wv_tup, wv_lst, wv_dsp0, wv_dsp, wd_nil, wd_cons, wv_call, wv_callK, wv_blt, wv_mth, wv_isi, vp_turn, vp_turn2, ws_nil, ws_cons, wp_no, wp_yes, wt_val, wt_not, wt_and, wt_or, wo_yes, wo_one, wi_seq, wi_rng1, wi_rng2, wi_enm, rs_asg, rs_asgS, rs_aug, rs_augS, rs_exp, rs_ret, rs_retN, rs_ite, rs_for, rs_body, rs_whl, rs_brk, rs_cnt, rs_pas, rp_cons, rp_nil, seq_nx, seq_ret, seq_brk, seq_cnt, loop_nx, loop_ret, loop_brk, loop_cnt, wp_some, vp_some, vp_map, vp_gte, vp_gteP, gteP, o_ixT, o_ixP, o_ixK, i_lst, i_frz, i_dct, i_dctK, at0, at1, at2, at3, ix0, ix1, ix2, cast_pos, cast_ne, zero_cast, if_false, if_true, ite_false, ite_true, b_lenT, b_lenP, l_lst, l_frz, l_dct, b_abs, b_int, b_intB, b_tupT, b_tupP, b_lstT, b_lstP, b_srt, b_sum, b_any, b_all, b_max2, b_min2, b_lrg, o_add, o_sub, o_mul, o_fdv, o_mod, o_pow, o_cat, o_catS, o_catP, o_rep, n_int, bo_bl, in_int, c_lt, c_le, c_gt, c_ge, c_eq, c_ne, c_in, c_nin, e_ii, e_ss, e_bb, t_bl, t_int, t_tup, t_ptr, s_tup, s_ptr, m_app, m_pop, m_popAt, m_joinP, r_app, r_pop, r_popAt, r_join, a_add, a_sub, d_set, d_lst, d_dct, k_int, k_str, q_name, q_tup, q_nil, q_cons, p_z, p_s, g_z, g_s, f_nil, f_cons, z_n, z_b, z_i, z_s, z_t, cs_n, cs_b, cs_i, cs_s, cs_t, cn_n, cn_b, cn_i, cn_s, cn_t, isT, reduceCtorEq, decide_true, decide_false, Bool.or_true, Bool.or_false, Bool.true_or, Bool.false_or, Bool.not_true, Bool.not_false, true_implies, Bool.true_eq_false, Bool.false_eq_true, not_true_eq_false, not_false_eq_true, false_implies, and_true, true_and, decide_eq_true_eq, forall_const, Option.map_some, Option.bind_some, List.length_cons, List.length_nil]
    refine (draw_c.b hB3 (by decide) (by decide)).mono fun d1 S4 ⟨r, e, p3, p4, hB4, kp4, l4⟩ => ?_
    subst e
    obtain ⟨k2, rfl⟩ := Int.eq_ofNat_of_zero_le p3
    simp only [wv_var, wv_cst, wv_bin, wv_neg, wv_cmp, wv_chn, wv_not, wv_and, wv_or, wv_ite, wv_idx, wv_slc, wv_tup, wv_lst, wv_dsp0, wv_dsp, wd_nil, wd_cons, wv_call, wv_callK, wv_blt, wv_mth, wv_isi, vp_turn, vp_turn2, ws_nil, ws_cons, wp_no, wp_yes, wt_val, wt_not, wt_and, wt_or, wo_yes, wo_one, wi_seq, wi_rng1, wi_rng2, wi_enm, rs_asg, rs_asgS, rs_aug, rs_augS, rs_exp, rs_ret, rs_retN, rs_ite, rs_for, rs_body, rs_whl, rs_brk, rs_cnt, rs_pas, rp_cons, rp_nil, seq_nx, seq_ret, seq_brk, seq_cnt, loop_nx, loop_ret, loop_brk, loop_cnt, wp_some, vp_some, vp_map, vp_gte, vp_gteP, gteP, o_ixT, o_ixP, o_ixK, i_lst, i_frz, i_dct, i_dctK, at0, at1, at2, at3, ix0, ix1, ix2, cast_pos, cast_ne, zero_cast, if_false, if_true, ite_false, ite_true, b_lenT, b_lenP, l_lst, l_frz, l_dct, b_abs, b_int, b_intB, b_tupT, b_tupP, b_lstT, b_lstP, b_srt, b_sum, b_any, b_all, b_max2, b_min2, b_lrg, o_add, o_sub, o_mul, o_fdv, o_mod, o_pow, o_cat, o_catS, o_catP, o_rep, n_int, bo_bl, in_int, c_lt, c_le, c_gt, c_ge, c_eq, c_ne, c_in, c_nin, e_ii, e_ss, e_bb, t_bl, t_int, t_tup, t_ptr, s_tup, s_ptr, m_app, m_pop, m_popAt, m_joinP, r_app, r_pop, r_popAt, r_join, a_add, a_sub, d_set, d_lst, d_dct, k_int, k_str, q_name, q_tup, q_nil, q_cons, p_z, p_s, g_z, g_s, f_nil, f_cons, z_n, z_b, z_i, z_s, z_t, cs_n, cs_b, cs_i, cs_s, cs_t, cn_n, cn_b, cn_i, cn_s, cn_t, isT, reduceCtorEq, decide_true, decide_false, Bool.or_true, Bool.or_false, Bool.true_or, Bool.false_or, Bool.not_true, Bool.not_false, true_implies, Bool.true_eq_false, Bool.false_eq_true, not_true_eq_false, not_false_eq_true, false_implies, and_true, true_and, decide_eq_true_eq, forall_const, Option.map_some, Option.bind_some, List.length_cons, List.length_nil]
    rw [show (1 : Int) + ((k1 : Nat) : Int) = ((1 + k1 : Nat) : Int) by omega, show (1 : Int) + ((k2 : Nat) : Int) = ((1 + k2 : Nat) : Int) by omega]
    refine (book_c (n := n + 1) (1 + k1) (1 + k2) 4 3 S4 hB4 (by omega) (by omega) (by omega) (by decide) (by decide) (by decide)).mono fun d5 S5 ⟨ss, e, hbk, hB5, kp5⟩ => ?_
    subst e
    refine (w_parts (n := n) hB5 (book_wb hbk (by omega) (by omega) (by omega)) (by rw [hbk.len]; omega)).mono fun d6 S6 ⟨e, hB6, kp6⟩ => ?_
    subst e
    simp only [wv_var, wv_cst, wv_bin, wv_neg, wv_cmp, wv_chn, wv_not, wv_and, wv_or, wv_ite, wv_idx, wv_slc, wv_tup, wv_lst, wv_dsp0, wv_dsp, wd_nil, wd_cons, wv_call, wv_callK, wv_blt, wv_mth, wv_isi, vp_turn, vp_turn2, ws_nil, ws_cons, wp_no, wp_yes, wt_val, wt_not, wt_and, wt_or, wo_yes, wo_one, wi_seq, wi_rng1, wi_rng2, wi_enm, rs_asg, rs_asgS, rs_aug, rs_augS, rs_exp, rs_ret, rs_retN, rs_ite, rs_for, rs_body, rs_whl, rs_brk, rs_cnt, rs_pas, rp_cons, rp_nil, seq_nx, seq_ret, seq_brk, seq_cnt, loop_nx, loop_ret, loop_brk, loop_cnt, wp_some, vp_some, vp_map, vp_gte, vp_gteP, gteP, o_ixT, o_ixP, o_ixK, i_lst, i_frz, i_dct, i_dctK, at0, at1, at2, at3, ix0, ix1, ix2, cast_pos, cast_ne, zero_cast, if_false, if_true, ite_false, ite_true, b_lenT, b_lenP, l_lst, l_frz, l_dct, b_abs, b_int, b_intB, b_tupT, b_tupP, b_lstT, b_lstP, b_srt, b_sum, b_any, b_all, b_max2, b_min2, b_lrg, o_add, o_sub, o_mul, o_fdv, o_mod, o_pow, o_cat, o_catS, o_catP, o_rep, n_int, bo_bl, in_int, c_lt, c_le, c_gt, c_ge, c_eq, c_ne, c_in, c_nin, e_ii, e_ss, e_bb, t_bl, t_int, t_tup, t_ptr, s_tup, s_ptr, m_app, m_pop, m_popAt, m_joinP, r_app, r_pop, r_popAt, r_join, a_add, a_sub, d_set, d_lst, d_dct, k_int, k_str, q_name, q_tup, q_nil, q_cons, p_z, p_s, g_z, g_s, f_nil, f_cons, z_n, z_b, z_i, z_s, z_t, cs_n, cs_b, cs_i, cs_s, cs_t, cn_n, cn_b, cn_i, cn_s, cn_t, isT, reduceCtorEq, decide_true, decide_false, Bool.or_true, Bool.or_false, Bool.true_or, Bool.false_or, Bool.not_true, Bool.not_false, true_implies, Bool.true_eq_false, Bool.false_eq_true, not_true_eq_false, not_false_eq_true, false_implies, and_true, true_and, decide_eq_true_eq, forall_const, Option.map_some, Option.bind_some, List.length_cons, List.length_nil]
    exact ⟨_, _, rfl, hB6⟩
  · rintro ρ S2 ⟨x2, x8, rfl, hB2⟩
    simp only [wv_var, wv_cst, wv_bin, wv_neg, wv_cmp, wv_chn, wv_not, wv_and, wv_or, wv_ite, wv_idx, wv_slc, wv_tup, wv_lst, wv_dsp0, wv_dsp, wd_nil, wd_cons, wv_call, wv_callK, wv_blt, wv_mth, wv_isi, vp_turn, vp_turn2, ws_nil, ws_cons, wp_no, wp_yes, wt_val, wt_not, wt_and, wt_or, wo_yes, wo_one, wi_seq, wi_rng1, wi_rng2, wi_enm, rs_asg, rs_asgS, rs_aug, rs_augS, rs_exp, rs_ret, rs_retN, rs_ite, rs_for, rs_body, rs_whl, rs_brk, rs_cnt, rs_pas, rp_nil, seq_nx, seq_ret, seq_brk, seq_cnt, loop_nx, loop_ret, loop_brk, loop_cnt, wp_some, vp_some, vp_map, vp_gte, vp_gteP, gteP, o_ixT, o_ixP, o_ixK, i_lst, i_frz, i_dct, i_dctK, at0, at1, at2, at3, ix0, ix1, ix2, cast_pos, cast_ne, zero_cast, if_false, if_true, ite_false, ite_true, b_lenT, b_lenP, l_lst, l_frz, l_dct, b_abs, b_int, b_intB, b_tupT, b_tupP, b_lstT, b_lstP, b_srt, b_sum, b_any, b_all, b_max2, b_min2, b_lrg, o_add, o_sub, o_mul, o_fdv, o_mod, o_pow, o_cat, o_catS, o_catP, o_rep, n_int, bo_bl, in_int, c_lt, c_le, c_gt, c_ge, c_eq, c_ne, c_in, c_nin, e_ii, e_ss, e_bb, t_bl, t_int, t_tup, t_ptr, s_tup, s_ptr, m_app, m_pop, m_popAt, m_joinP, r_app, r_pop, r_popAt, r_join, a_add, a_sub, d_set, d_lst, d_dct, k_int, k_str, q_name, q_tup, q_nil, q_cons, p_z, p_s, g_z, g_s, f_nil, f_cons, z_n, z_b, z_i, z_s, z_t, cs_n, cs_b, cs_i, cs_s, cs_t, cn_n, cn_b, cn_i, cn_s, cn_t, isT, reduceCtorEq, decide_true, decide_false, Bool.or_true, Bool.or_false, Bool.true_or, Bool.false_or, Bool.not_true, Bool.not_false, true_implies, Bool.true_eq_false, Bool.false_eq_true, not_true_eq_false, not_false_eq_true, false_implies, and_true, true_and, decide_eq_true_eq, forall_const, Option.map_some, Option.bind_some, List.length_cons, List.length_nil]
    rw [rp_cons]
    simp only [wv_var, wv_cst, wv_bin, wv_neg, wv_cmp, wv_chn, wv_not, wv_and, wv_or, wv_ite, wv_idx, wv_slc, wv_tup, wv_lst, wv_dsp0, wv_dsp, wd_nil, wd_cons, wv_call, wv_callK, wv_blt, wv_mth, wv_isi, vp_turn, vp_turn2, ws_nil, ws_cons, wp_no, wp_yes, wt_val, wt_not, wt_and, wt_or, wo_yes, wo_one, wi_seq, wi_rng1, wi_rng2, wi_enm, rs_asg, rs_asgS, rs_aug, rs_augS, rs_exp, rs_ret, rs_retN, rs_ite, rs_for, rs_body, rs_whl, rs_brk, rs_cnt, rs_pas, rp_nil, seq_nx, seq_ret, seq_brk, seq_cnt, loop_nx, loop_ret, loop_brk, loop_cnt, wp_some, vp_some, vp_map, vp_gte, vp_gteP, gteP, o_ixT, o_ixP, o_ixK, i_lst, i_frz, i_dct, i_dctK, at0, at1, at2, at3, ix0, ix1, ix2, cast_pos, cast_ne, zero_cast, if_false, if_true, ite_false, ite_true, b_lenT, b_lenP, l_lst, l_frz, l_dct, b_abs, b_int, b_intB, b_tupT, b_tupP, b_lstT, b_lstP, b_srt, b_sum, b_any, b_all, b_max2, b_min2, b_lrg, o_add, o_sub, o_mul, o_fdv, o_mod, o_pow, o_cat, o_catS, o_catP, o_rep, n_int, bo_bl, in_int, c_lt, c_le, c_gt, c_ge, c_eq, c_ne, c_in, c_nin, e_ii, e_ss, e_bb, t_bl, t_int, t_tup, t_ptr, s_tup, s_ptr, m_app, m_pop, m_popAt, m_joinP, r_app, r_pop, r_popAt, r_join, a_add, a_sub, d_set, d_lst, d_dct, k_int, k_str, q_name, q_tup, q_nil, q_cons, p_z, p_s, g_z, g_s, f_nil, f_cons, z_n, z_b, z_i, z_s, z_t, cs_n, cs_b, cs_i, cs_s, cs_t, cn_n, cn_b, cn_i, cn_s, cn_t, isT, reduceCtorEq, decide_true, decide_false, Bool.or_true, Bool.or_false, Bool.true_or, Bool.false_or, Bool.not_true, Bool.not_false, true_implies, Bool.true_eq_false, Bool.false_eq_true, not_true_eq_false, not_false_eq_true, false_implies, and_true, true_and, decide_eq_true_eq, forall_const, Option.map_some, Option.bind_some, List.length_cons, List.length_nil]
    refine (draw_c.b hB2 (by decide) (by decide)).mono fun d1 S3 ⟨r, e, p1, p2, hB3, kp3, l3⟩ => ?_
    subst e
    obtain ⟨k1, rfl⟩ := Int.eq_ofNat_of_zero_le p1
    simp only [wv_var, wv_cst, wv_bin, wv_neg, wv_cmp, wv_chn, wv_not, wv_and, wv_or, wv_ite, wv_idx, wv_slc, wv_tup, wv_lst, wv_dsp0, wv_dsp, wd_nil, wd_cons, wv_call, wv_callK, wv_blt, wv_mth, wv_isi, vp_turn, vp_turn2, ws_nil, ws_cons, wp_no, wp_yes, wt_val, wt_not, wt_and, wt_or, wo_yes, wo_one, wi_seq, wi_rng1, wi_rng2, wi_enm, rs_asg, rs_asgS, rs_aug, rs_augS, rs_exp, rs_ret, rs_retN, rs_ite, rs_for, rs_body, rs_whl, rs_brk, rs_cnt, rs_pas, rp_nil, seq_nx, seq_ret, seq_brk, seq_cnt, loop_nx, loop_ret, loop_brk, loop_cnt, wp_some, vp_some, vp_map, vp_gte, vp_gteP, gteP, o_ixT, o_ixP, o_ixK, i_lst, i_frz, i_dct, i_dctK, at0, at1, at2, at3, ix0, ix1, ix2, cast_pos, cast_ne, zero_cast, if_false, if_true, ite_false, ite_true, b_lenT, b_lenP, l_lst, l_frz, l_dct, b_abs, b_int, b_intB, b_tupT, b_tupP, b_lstT, b_lstP, b_srt, b_sum, b_any, b_all, b_max2, b_min2, b_lrg, o_add, o_sub, o_mul, o_fdv, o_mod, o_pow, o_cat, o_catS, o_catP, o_rep, n_int, bo_bl, in_int, c_lt, c_le, c_gt, c_ge, c_eq, c_ne, c_in, c_nin, e_ii, e_ss, e_bb, t_bl, t_int, t_tup, t_ptr, s_tup, s_ptr, m_app, m_pop, m_popAt, m_joinP, r_app, r_pop, r_popAt, r_join, a_add, a_sub, d_set, d_lst, d_dct, k_int, k_str, q_name, q_tup, q_nil, q_cons, p_z, p_s, g_z, g_s, f_nil, f_cons, z_n, z_b, z_i, z_s, z_t, cs_n, cs_b, cs_i, cs_s, cs_t, cn_n, cn_b, cn_i, cn_s, cn_t, isT, reduceCtorEq, decide_true, decide_false, Bool.or_true, Bool.or_false, Bool.true_or, Bool.false_or, Bool.not_true, Bool.not_false, true_implies, Bool.true_eq_false, Bool.false_eq_true, not_true_eq_false, not_false_eq_true, false_implies, and_true, true_and, decide_eq_true_eq, forall_const, Option.map_some, Option.bind_some, List.length_cons, List.length_nil]
    rw [show (2 : Int) + ((k1 : Nat) : Int) = ((2 + k1 : Nat) : Int) by omega]
    generalize hmany : 2 + k1 = many
    rw [rp_cons]
    simp only [wv_var, wv_cst, wv_bin, wv_neg, wv_cmp, wv_chn, wv_not, wv_and, wv_or, wv_ite, wv_idx, wv_slc, wv_tup, wv_lst, wv_dsp0, wv_dsp, wd_nil, wd_cons, wv_call, wv_callK, wv_blt, wv_mth, wv_isi, vp_turn, vp_turn2, ws_nil, ws_cons, wp_no, wp_yes, wt_val, wt_not, wt_and, wt_or, wo_yes, wo_one, wi_seq, wi_rng1, wi_rng2, wi_enm, rs_asg, rs_asgS, rs_aug, rs_augS, rs_exp, rs_ret, rs_retN, rs_ite, rs_for, rs_body, rs_whl, rs_brk, rs_cnt, rs_pas, rp_nil, seq_nx, seq_ret, seq_brk, seq_cnt, loop_nx, loop_ret, loop_brk, loop_cnt, wp_some, vp_some, vp_map, vp_gte, vp_gteP, gteP, o_ixT, o_ixP, o_ixK, i_lst, i_frz, i_dct, i_dctK, at0, at1, at2, at3, ix0, ix1, ix2, cast_pos, cast_ne, zero_cast, if_false, if_true, ite_false, ite_true, b_lenT, b_lenP, l_lst, l_frz, l_dct, b_abs, b_int, b_intB, b_tupT, b_tupP, b_lstT, b_lstP, b_srt, b_sum, b_any, b_all, b_max2, b_min2, b_lrg, o_add, o_sub, o_mul, o_fdv, o_mod, o_pow, o_cat, o_catS, o_catP, o_rep, n_int, bo_bl, in_int, c_lt, c_le, c_gt, c_ge, c_eq, c_ne, c_in, c_nin, e_ii, e_ss, e_bb, t_bl, t_int, t_tup, t_ptr, s_tup, s_ptr, m_app, m_pop, m_popAt, m_joinP, r_app, r_pop, r_popAt, r_join, a_add, a_sub, d_set, d_lst, d_dct, k_int, k_str, q_name, q_tup, q_nil, q_cons, p_z, p_s, g_z, g_s, f_nil, f_cons, z_n, z_b, z_i, z_s, z_t, cs_n, cs_b, cs_i, cs_s, cs_t, cn_n, cn_b, cn_i, cn_s, cn_t, isT, reduceCtorEq, decide_true, decide_false, Bool.or_true, Bool.or_false, Bool.true_or, Bool.false_or, Bool.not_true, Bool.not_false, true_implies, Bool.true_eq_false, Bool.false_eq_true, not_true_eq_false, not_false_eq_true, false_implies, and_true, true_and, decide_eq_true_eq, forall_const, Option.map_some, Option.bind_some, List.length_cons, List.length_nil]
    refine (draw_c.b hB3 (by omega) (by omega)).mono fun d1 S4 ⟨r, e, p3, p4, hB4, kp4, l4⟩ => ?_
    subst e
    obtain ⟨back, rfl⟩ := Int.eq_ofNat_of_zero_le p3
    have hbk : back ≤ many := by omega
    rw [rp_cons]
    simp only [wv_var, wv_cst, wv_bin, wv_neg, wv_cmp, wv_chn, wv_not, wv_and, wv_or, wv_ite, wv_idx, wv_slc, wv_tup, wv_lst, wv_dsp0, wv_dsp, wd_nil, wd_cons, wv_call, wv_callK, wv_blt, wv_mth, wv_isi, vp_turn, vp_turn2, ws_nil, ws_cons, wp_no, wp_yes, wt_val, wt_not, wt_and, wt_or, wo_yes, wo_one, wi_seq, wi_rng1, wi_rng2, wi_enm, rs_asg, rs_asgS, rs_aug, rs_augS, rs_exp, rs_ret, rs_retN, rs_ite, rs_for, rs_body, rs_whl, rs_brk, rs_cnt, rs_pas, rp_nil, seq_nx, seq_ret, seq_brk, seq_cnt, loop_nx, loop_ret, loop_brk, loop_cnt, wp_some, vp_some, vp_map, vp_gte, vp_gteP, gteP, o_ixT, o_ixP, o_ixK, i_lst, i_frz, i_dct, i_dctK, at0, at1, at2, at3, ix0, ix1, ix2, cast_pos, cast_ne, zero_cast, if_false, if_true, ite_false, ite_true, b_lenT, b_lenP, l_lst, l_frz, l_dct, b_abs, b_int, b_intB, b_tupT, b_tupP, b_lstT, b_lstP, b_srt, b_sum, b_any, b_all, b_max2, b_min2, b_lrg, o_add, o_sub, o_mul, o_fdv, o_mod, o_pow, o_cat, o_catS, o_catP, o_rep, n_int, bo_bl, in_int, c_lt, c_le, c_gt, c_ge, c_eq, c_ne, c_in, c_nin, e_ii, e_ss, e_bb, t_bl, t_int, t_tup, t_ptr, s_tup, s_ptr, m_app, m_pop, m_popAt, m_joinP, r_app, r_pop, r_popAt, r_join, a_add, a_sub, d_set, d_lst, d_dct, k_int, k_str, q_name, q_tup, q_nil, q_cons, p_z, p_s, g_z, g_s, f_nil, f_cons, z_n, z_b, z_i, z_s, z_t, cs_n, cs_b, cs_i, cs_s, cs_t, cn_n, cn_b, cn_i, cn_s, cn_t, isT, reduceCtorEq, decide_true, decide_false, Bool.or_true, Bool.or_false, Bool.true_or, Bool.false_or, Bool.not_true, Bool.not_false, true_implies, Bool.true_eq_false, Bool.false_eq_true, not_true_eq_false, not_false_eq_true, false_implies, and_true, true_and, decide_eq_true_eq, forall_const, Option.map_some, Option.bind_some, List.length_cons, List.length_nil]
    refine (w_row (n := n) hB4 (by omega) hbk).mono fun d5 S5 ⟨ok, ord, ss, e, hO5, hok, R, hB5, kp5⟩ => ?_
    subst e
    have wb := row_wb R (by omega)
    have hol : ord.length = many := by rw [R.perm.length_eq, List.length_range]
    have hok5 : 5 ≤ ok := Nat.le_trans hB4.len hok
    simp only [wv_var, wv_cst, wv_bin, wv_neg, wv_cmp, wv_chn, wv_not, wv_and, wv_or, wv_ite, wv_idx, wv_slc, wv_tup, wv_lst, wv_dsp0, wv_dsp, wd_nil, wd_cons, wv_call, wv_callK, wv_blt, wv_mth, wv_isi, vp_turn, vp_turn2, ws_nil, ws_cons, wp_no, wp_yes, wt_val, wt_not, wt_and, wt_or, wo_yes, wo_one, wi_seq, wi_rng1, wi_rng2, wi_enm, rs_asg, rs_asgS, rs_aug, rs_augS, rs_exp, rs_ret, rs_retN, rs_ite, rs_for, rs_body, rs_whl, rs_brk, rs_cnt, rs_pas, rp_nil, seq_nx, seq_ret, seq_brk, seq_cnt, loop_nx, loop_ret, loop_brk, loop_cnt, wp_some, vp_some, vp_map, vp_gte, vp_gteP, gteP, o_ixT, o_ixP, o_ixK, i_lst, i_frz, i_dct, i_dctK, at0, at1, at2, at3, ix0, ix1, ix2, cast_pos, cast_ne, zero_cast, if_false, if_true, ite_false, ite_true, b_lenT, b_lenP, l_lst, l_frz, l_dct, b_abs, b_int, b_intB, b_tupT, b_tupP, b_lstT, b_lstP, b_srt, b_sum, b_any, b_all, b_max2, b_min2, b_lrg, o_add, o_sub, o_mul, o_fdv, o_mod, o_pow, o_cat, o_catS, o_catP, o_rep, n_int, bo_bl, in_int, c_lt, c_le, c_gt, c_ge, c_eq, c_ne, c_in, c_nin, e_ii, e_ss, e_bb, t_bl, t_int, t_tup, t_ptr, s_tup, s_ptr, m_app, m_pop, m_popAt, m_joinP, r_app, r_pop, r_popAt, r_join, a_add, a_sub, d_set, d_lst, d_dct, k_int, k_str, q_name, q_tup, q_nil, q_cons, p_z, p_s, g_z, g_s, f_nil, f_cons, z_n, z_b, z_i, z_s, z_t, cs_n, cs_b, cs_i, cs_s, cs_t, cn_n, cn_b, cn_i, cn_s, cn_t, isT, reduceCtorEq, decide_true, decide_false, Bool.or_true, Bool.or_false, Bool.true_or, Bool.false_or, Bool.not_true, Bool.not_false, true_implies, Bool.true_eq_false, Bool.false_eq_true, not_true_eq_false, not_false_eq_true, false_implies, and_true, true_and, decide_eq_true_eq, forall_const, Option.map_some, Option.bind_some, List.length_cons, List.length_nil, tgt_row]
    rw [rp_cons]
    simp only [wv_var, wv_cst, wv_bin, wv_neg, wv_cmp, wv_chn, wv_not, wv_and, wv_or, wv_ite, wv_idx, wv_slc, wv_tup, wv_lst, wv_dsp0, wv_dsp, wd_nil, wd_cons, wv_call, wv_callK, wv_blt, wv_mth, wv_isi, vp_turn, vp_turn2, ws_nil, ws_cons, wp_no, wp_yes, wt_val, wt_not, wt_and, wt_or, wo_yes, wo_one, wi_seq, wi_rng1, wi_rng2, wi_enm, rs_asg, rs_asgS, rs_aug, rs_augS, rs_exp, rs_ret, rs_retN, rs_ite, rs_for, rs_body, rs_whl, rs_brk, rs_cnt, rs_pas, rp_nil, seq_nx, seq_ret, seq_brk, seq_cnt, loop_nx, loop_ret, loop_brk, loop_cnt, wp_some, vp_some, vp_map, vp_gte, vp_gteP, gteP, o_ixT, o_ixP, o_ixK, i_lst, i_frz, i_dct, i_dctK, at0, at1, at2, at3, ix0, ix1, ix2, cast_pos, cast_ne, zero_cast, if_false, if_true, ite_false, ite_true, b_lenT, b_lenP, l_lst, l_frz, l_dct, b_abs, b_int, b_intB, b_tupT, b_tupP, b_lstT, b_lstP, b_srt, b_sum, b_any, b_all, b_max2, b_min2, b_lrg, o_add, o_sub, o_mul, o_fdv, o_mod, o_pow, o_cat, o_catS, o_catP, o_rep, n_int, bo_bl, in_int, c_lt, c_le, c_gt, c_ge, c_eq, c_ne, c_in, c_nin, e_ii, e_ss, e_bb, t_bl, t_int, t_tup, t_ptr, s_tup, s_ptr, m_app, m_pop, m_popAt, m_joinP, r_app, r_pop, r_popAt, r_join, a_add, a_sub, d_set, d_lst, d_dct, k_int, k_str, q_name, q_tup, q_nil, q_cons, p_z, p_s, g_z, g_s, f_nil, f_cons, z_n, z_b, z_i, z_s, z_t, cs_n, cs_b, cs_i, cs_s, cs_t, cn_n, cn_b, cn_i, cn_s, cn_t, isT, reduceCtorEq, decide_true, decide_false, Bool.or_true, Bool.or_false, Bool.true_or, Bool.false_or, Bool.not_true, Bool.not_false, true_implies, Bool.true_eq_false, Bool.false_eq_true, not_true_eq_false, not_false_eq_true, false_implies, and_true, true_and, decide_eq_true_eq, forall_const, Option.map_some, Option.bind_some, List.length_cons, List.length_nil, cntI]
    refine ⟨⟨by omega, by omega⟩, ?_⟩
    rw [Int.toNat_natCast]
    refine rp_for ((List.range many).map fun k => D.int (0 + (k : Nat))) (fun i ρ S6 => ∃ x5 x10, ρ = [some (.ptr 0), some (.ptr 4), x2, some (.int (many : Nat)), some (.int (back : Nat)), x5, none, none, some (dBook 1 ss), some (.ptr ok), x10] ∧ S6[ok]? = some (.lst (dNats ord)) ∧ Bg S6) (fun _ _ _ _ _ => itm_rng) ?_ ?_ _ 0 _ _ ⟨_, _, rfl, hO5, hB5⟩ (Nat.zero_le _) (by simp)
    · rintro i d ρ S6 hi ⟨x5, x10, rfl, hO6, hB6⟩
      have hi' : i < many := by
        have := (List.getElem?_eq_some_iff.mp hi).1
        simpa using this
      have hd : d = .int (i : Nat) := by
        rw [List.getElem?_map, List.getElem?_range hi'] at hi
        simpa using hi.symm
      subst hd
      have hmin : (if ((back : Nat) : Int) < ((i : Nat) : Int) then ((back : Nat) : Int) else ((i : Nat) : Int)) = ((min i back : Nat) : Int) := by
        split
        · rw [Nat.min_eq_right (by omega)]
        · rw [Nat.min_eq_left (by omega)]
      have hcut : cutD (dNats ord) (some ((min i back : Nat) : Int)) none = dNats (ord.drop (min i back)) := by
        rw [cut_drop (by unfold dNats; rw [List.length_map]; omega)]
        unfold dNats
        rw [List.map_drop]
      have hox : atI (dNats ord) ((i : Nat) : Int) = some (.int (ord.getD i 0 : Nat)) := by
        refine at_map (f := fun x => D.int (x : Nat)) ?_
        rw [List.getElem?_eq_getElem (by omega)]
        simp [hol, hi']
      rw [rp_cons]
      simp only [wv_var, wv_cst, wv_bin, wv_neg, wv_cmp, wv_chn, wv_not, wv_and, wv_or, wv_ite, wv_idx, wv_slc, wv_tup, wv_lst, wv_dsp0, wv_dsp, wd_nil, wd_cons, wv_call, wv_callK, wv_blt, wv_mth, wv_isi, vp_turn, vp_turn2, ws_nil, ws_cons, wp_no, wp_yes, wt_val, wt_not, wt_and, wt_or, wo_yes, wo_one, wi_seq, wi_rng1, wi_rng2, wi_enm, rs_asg, rs_asgS, rs_aug, rs_augS, rs_exp, rs_ret, rs_retN, rs_ite, rs_for, rs_body, rs_whl, rs_brk, rs_cnt, rs_pas, rp_nil, seq_nx, seq_ret, seq_brk, seq_cnt, loop_nx, loop_ret, loop_brk, loop_cnt, wp_some, vp_some, vp_map, vp_gte, vp_gteP, gteP, o_ixT, o_ixP, o_ixK, i_lst, i_frz, i_dct, i_dctK, at0, at1, at2, at3, ix0, ix1, ix2, cast_pos, cast_ne, zero_cast, if_false, if_true, ite_false, ite_true, b_lenT, b_lenP, l_lst, l_frz, l_dct, b_abs, b_int, b_intB, b_tupT, b_tupP, b_lstT, b_lstP, b_srt, b_sum, b_any, b_all, b_max2, b_min2, b_lrg, o_add, o_sub, o_mul, o_fdv, o_mod, o_pow, o_cat, o_catS, o_catP, o_rep, n_int, bo_bl, in_int, c_lt, c_le, c_gt, c_ge, c_eq, c_ne, c_in, c_nin, e_ii, e_ss, e_bb, t_bl, t_int, t_tup, t_ptr, s_tup, s_ptr, m_app, m_pop, m_popAt, m_joinP, r_app, r_pop, r_popAt, r_join, a_add, a_sub, d_set, d_lst, d_dct, k_int, k_str, q_name, q_tup, q_nil, q_cons, p_z, p_s, g_z, g_s, f_nil, f_cons, z_n, z_b, z_i, z_s, z_t, cs_n, cs_b, cs_i, cs_s, cs_t, cn_n, cn_b, cn_i, cn_s, cn_t, isT, reduceCtorEq, decide_true, decide_false, Bool.or_true, Bool.or_false, Bool.true_or, Bool.false_or, Bool.not_true, Bool.not_false, true_implies, Bool.true_eq_false, Bool.false_eq_true, not_true_eq_false, not_false_eq_true, false_implies, and_true, true_and, decide_eq_true_eq, forall_const, Option.map_some, Option.bind_some, List.length_cons, List.length_nil, lst_get hO6, hmin, hcut, lst_get get_end, ints_nats]
      rw [rp_cons]
      have hO7 := get_app (T := [O.lst (dNats (ord.drop (min i back)))]) hO6
      have hO8 := get_app (T := [O.lst ((isort ((ord.drop (min i back)).map fun x => ((x : Nat) : Int))).map D.int)]) hO7
      have hB8 : Bg (S6 ++ [O.lst (dNats (ord.drop (min i back)))] ++ [O.lst ((isort ((ord.drop (min i back)).map fun x => ((x : Nat) : Int))).map D.int)]) := hB6.app.app
      generalize S6 ++ [O.lst (dNats (ord.drop (min i back)))] ++ [O.lst ((isort ((ord.drop (min i back)).map fun x => ((x : Nat) : Int))).map D.int)] = S8 at hO8 hB8
      simp only [wv_var, wv_cst, wv_bin, wv_neg, wv_cmp, wv_chn, wv_not, wv_and, wv_or, wv_ite, wv_idx, wv_slc, wv_tup, wv_lst, wv_dsp0, wv_dsp, wd_nil, wd_cons, wv_call, wv_callK, wv_blt, wv_mth, wv_isi, vp_turn, vp_turn2, ws_nil, ws_cons, wp_no, wp_yes, wt_val, wt_not, wt_and, wt_or, wo_yes, wo_one, wi_seq, wi_rng1, wi_rng2, wi_enm, rs_asg, rs_asgS, rs_aug, rs_augS, rs_exp, rs_ret, rs_retN, rs_ite, rs_for, rs_body, rs_whl, rs_brk, rs_cnt, rs_pas, rp_nil, seq_nx, seq_ret, seq_brk, seq_cnt, loop_nx, loop_ret, loop_brk, loop_cnt, wp_some, vp_some, vp_map, vp_gte, vp_gteP, gteP, o_ixT, o_ixP, o_ixK, i_lst, i_frz, i_dct, i_dctK, at0, at1, at2, at3, ix0, ix1, ix2, cast_pos, cast_ne, zero_cast, if_false, if_true, ite_false, ite_true, b_lenT, b_lenP, l_lst, l_frz, l_dct, b_abs, b_int, b_intB, b_tupT, b_tupP, b_lstT, b_lstP, b_srt, b_sum, b_any, b_all, b_max2, b_min2, b_lrg, o_add, o_sub, o_mul, o_fdv, o_mod, o_pow, o_cat, o_catS, o_catP, o_rep, n_int, bo_bl, in_int, c_lt, c_le, c_gt, c_ge, c_eq, c_ne, c_in, c_nin, e_ii, e_ss, e_bb, t_bl, t_int, t_tup, t_ptr, s_tup, s_ptr, m_app, m_pop, m_popAt, m_joinP, r_app, r_pop, r_popAt, r_join, a_add, a_sub, d_set, d_lst, d_dct, k_int, k_str, q_name, q_tup, q_nil, q_cons, p_z, p_s, g_z, g_s, f_nil, f_cons, z_n, z_b, z_i, z_s, z_t, cs_n, cs_b, cs_i, cs_s, cs_t, cn_n, cn_b, cn_i, cn_s, cn_t, isT, reduceCtorEq, decide_true, decide_false, Bool.or_true, Bool.or_false, Bool.true_or, Bool.false_or, Bool.not_true, Bool.not_false, true_implies, Bool.true_eq_false, Bool.false_eq_true, not_true_eq_false, not_false_eq_true, false_implies, and_true, true_and, decide_eq_true_eq, forall_const, Option.map_some, Option.bind_some, List.length_cons, List.length_nil, hO8, hox]
      have hlt : ord.getD i 0 < ss.length := by
        rw [R.len]
        have h1 : ord.getD i 0 = ord[i] := by simp [hol, hi']
        rw [h1]
        simpa using R.perm.mem_iff.mp (List.getElem_mem (by omega))
      refine Wp.mono (Q := fun d S' => d = srt (reach ss (ord.getD i 0)) ∧ Kp 0 S8 S') (w_reached (n := n + 2) wb hlt) fun d S9 ⟨e, kp9⟩ => ?_
      subst e
      have hsn := same_srt (reach_len wb hlt)
      have hrr := row_reach R hbk hi'
      have hrr' : D.tup ((isort ((ord.drop (min i back)).map fun x => ((x : Nat) : Int))).map D.int) = srt (reach ss (ord.getD i 0)) := hrr.symm
      rw [hrr']
      refine (same_c _ S9 hsn.1 hsn.2).mono fun d S10 ⟨e1, kp10⟩ => ?_
      subst e1
      simp only [wv_var, wv_cst, wv_bin, wv_neg, wv_cmp, wv_chn, wv_not, wv_and, wv_or, wv_ite, wv_idx, wv_slc, wv_tup, wv_lst, wv_dsp0, wv_dsp, wd_nil, wd_cons, wv_call, wv_callK, wv_blt, wv_mth, wv_isi, vp_turn, vp_turn2, ws_nil, ws_cons, wp_no, wp_yes, wt_val, wt_not, wt_and, wt_or, wo_yes, wo_one, wi_seq, wi_rng1, wi_rng2, wi_enm, rs_asg, rs_asgS, rs_aug, rs_augS, rs_exp, rs_ret, rs_retN, rs_ite, rs_for, rs_body, rs_whl, rs_brk, rs_cnt, rs_pas, rp_cons, rp_nil, seq_nx, seq_ret, seq_brk, seq_cnt, loop_nx, loop_ret, loop_brk, loop_cnt, wp_some, vp_some, vp_map, vp_gte, vp_gteP, gteP, o_ixT, o_ixP, o_ixK, i_lst, i_frz, i_dct, i_dctK, at0, at1, at2, at3, ix0, ix1, ix2, cast_pos, cast_ne, zero_cast, if_false, if_true, ite_false, ite_true, b_lenT, b_lenP, l_lst, l_frz, l_dct, b_abs, b_int, b_intB, b_tupT, b_tupP, b_lstT, b_lstP, b_srt, b_sum, b_any, b_all, b_max2, b_min2, b_lrg, o_add, o_sub, o_mul, o_fdv, o_mod, o_pow, o_cat, o_catS, o_catP, o_rep, n_int, bo_bl, in_int, c_lt, c_le, c_gt, c_ge, c_eq, c_ne, c_in, c_nin, e_ii, e_ss, e_bb, t_bl, t_int, t_tup, t_ptr, s_tup, s_ptr, m_app, m_pop, m_popAt, m_joinP, r_app, r_pop, r_popAt, r_join, a_add, a_sub, d_set, d_lst, d_dct, k_int, k_str, q_name, q_tup, q_nil, q_cons, p_z, p_s, g_z, g_s, f_nil, f_cons, z_n, z_b, z_i, z_s, z_t, cs_n, cs_b, cs_i, cs_s, cs_t, cn_n, cn_b, cn_i, cn_s, cn_t, isT, reduceCtorEq, decide_true, decide_false, Bool.or_true, Bool.or_false, Bool.true_or, Bool.false_or, Bool.not_true, Bool.not_false, true_implies, Bool.true_eq_false, Bool.false_eq_true, not_true_eq_false, not_false_eq_true, false_implies, and_true, true_and, decide_eq_true_eq, forall_const, Option.map_some, Option.bind_some, List.length_cons, List.length_nil]
      exact ⟨_, _, rfl, (kp9.trans kp10).get hO8 (Nat.zero_le _), bg_kp (kp9.trans kp10) hB8⟩
    · rintro ρ S6 ⟨x5, x10, rfl, hO6, hB6⟩
      simp only [wv_var, wv_cst, wv_bin, wv_neg, wv_cmp, wv_chn, wv_not, wv_and, wv_or, wv_ite, wv_idx, wv_slc, wv_tup, wv_lst, wv_dsp0, wv_dsp, wd_nil, wd_cons, wv_call, wv_callK, wv_blt, wv_mth, wv_isi, vp_turn, vp_turn2, ws_nil, ws_cons, wp_no, wp_yes, wt_val, wt_not, wt_and, wt_or, wo_yes, wo_one, wi_seq, wi_rng1, wi_rng2, wi_enm, rs_asg, rs_asgS, rs_aug, rs_augS, rs_exp, rs_ret, rs_retN, rs_ite, rs_for, rs_body, rs_whl, rs_brk, rs_cnt, rs_pas, rp_nil, seq_nx, seq_ret, seq_brk, seq_cnt, loop_nx, loop_ret, loop_brk, loop_cnt, wp_some, vp_some, vp_map, vp_gte, vp_gteP, gteP, o_ixT, o_ixP, o_ixK, i_lst, i_frz, i_dct, i_dctK, at0, at1, at2, at3, ix0, ix1, ix2, cast_pos, cast_ne, zero_cast, if_false, if_true, ite_false, ite_true, b_lenT, b_lenP, l_lst, l_frz, l_dct, b_abs, b_int, b_intB, b_tupT, b_tupP, b_lstT, b_lstP, b_srt, b_sum, b_any, b_all, b_max2, b_min2, b_lrg, o_add, o_sub, o_mul, o_fdv, o_mod, o_pow, o_cat, o_catS, o_catP, o_rep, n_int, bo_bl, in_int, c_lt, c_le, c_gt, c_ge, c_eq, c_ne, c_in, c_nin, e_ii, e_ss, e_bb, t_bl, t_int, t_tup, t_ptr, s_tup, s_ptr, m_app, m_pop, m_popAt, m_joinP, r_app, r_pop, r_popAt, r_join, a_add, a_sub, d_set, d_lst, d_dct, k_int, k_str, q_name, q_tup, q_nil, q_cons, p_z, p_s, g_z, g_s, f_nil, f_cons, z_n, z_b, z_i, z_s, z_t, cs_n, cs_b, cs_i, cs_s, cs_t, cn_n, cn_b, cn_i, cn_s, cn_t, isT, reduceCtorEq, decide_true, decide_false, Bool.or_true, Bool.or_false, Bool.true_or, Bool.false_or, Bool.not_true, Bool.not_false, true_implies, Bool.true_eq_false, Bool.false_eq_true, not_true_eq_false, not_false_eq_true, false_implies, and_true, true_and, decide_eq_true_eq, forall_const, Option.map_some, Option.bind_some, List.length_cons, List.length_nil]
      rw [rp_cons]
      simp only [wv_var, wv_cst, wv_bin, wv_neg, wv_cmp, wv_chn, wv_not, wv_and, wv_or, wv_ite, wv_idx, wv_slc, wv_tup, wv_lst, wv_dsp0, wv_dsp, wd_nil, wd_cons, wv_call, wv_callK, wv_blt, wv_mth, wv_isi, vp_turn, vp_turn2, ws_nil, ws_cons, wp_no, wp_yes, wt_val, wt_not, wt_and, wt_or, wo_yes, wo_one, wi_seq, wi_rng1, wi_rng2, wi_enm, rs_asg, rs_asgS, rs_aug, rs_augS, rs_exp, rs_ret, rs_retN, rs_ite, rs_for, rs_body, rs_whl, rs_brk, rs_cnt, rs_pas, rp_nil, seq_nx, seq_ret, seq_brk, seq_cnt, loop_nx, loop_ret, loop_brk, loop_cnt, wp_some, vp_some, vp_map, vp_gte, vp_gteP, gteP, o_ixT, o_ixP, o_ixK, i_lst, i_frz, i_dct, i_dctK, at0, at1, at2, at3, ix0, ix1, ix2, cast_pos, cast_ne, zero_cast, if_false, if_true, ite_false, ite_true, b_lenT, b_lenP, l_lst, l_frz, l_dct, b_abs, b_int, b_intB, b_tupT, b_tupP, b_lstT, b_lstP, b_srt, b_sum, b_any, b_all, b_max2, b_min2, b_lrg, o_add, o_sub, o_mul, o_fdv, o_mod, o_pow, o_cat, o_catS, o_catP, o_rep, n_int, bo_bl, in_int, c_lt, c_le, c_gt, c_ge, c_eq, c_ne, c_in, c_nin, e_ii, e_ss, e_bb, t_bl, t_int, t_tup, t_ptr, s_tup, s_ptr, m_app, m_pop, m_popAt, m_joinP, r_app, r_pop, r_popAt, r_join, a_add, a_sub, d_set, d_lst, d_dct, k_int, k_str, q_name, q_tup, q_nil, q_cons, p_z, p_s, g_z, g_s, f_nil, f_cons, z_n, z_b, z_i, z_s, z_t, cs_n, cs_b, cs_i, cs_s, cs_t, cn_n, cn_b, cn_i, cn_s, cn_t, isT, reduceCtorEq, decide_true, decide_false, Bool.or_true, Bool.or_false, Bool.true_or, Bool.false_or, Bool.not_true, Bool.not_false, true_implies, Bool.true_eq_false, Bool.false_eq_true, not_true_eq_false, not_false_eq_true, false_implies, and_true, true_and, decide_eq_true_eq, forall_const, Option.map_some, Option.bind_some, List.length_cons, List.length_nil]
      refine (w_parts (n := n) hB6 wb (by rw [R.len]; omega)).mono fun d7 S7 ⟨e, hB7, kp7⟩ => ?_
      subst e
      simp only [wv_var, wv_cst, wv_bin, wv_neg, wv_cmp, wv_chn, wv_not, wv_and, wv_or, wv_ite, wv_idx, wv_slc, wv_tup, wv_lst, wv_dsp0, wv_dsp, wd_nil, wd_cons, wv_call, wv_callK, wv_blt, wv_mth, wv_isi, vp_turn, vp_turn2, ws_nil, ws_cons, wp_no, wp_yes, wt_val, wt_not, wt_and, wt_or, wo_yes, wo_one, wi_seq, wi_rng1, wi_rng2, wi_enm, rs_asg, rs_asgS, rs_aug, rs_augS, rs_exp, rs_ret, rs_retN, rs_ite, rs_for, rs_body, rs_whl, rs_brk, rs_cnt, rs_pas, rp_nil, seq_nx, seq_ret, seq_brk, seq_cnt, loop_nx, loop_ret, loop_brk, loop_cnt, wp_some, vp_some, vp_map, vp_gte, vp_gteP, gteP, o_ixT, o_ixP, o_ixK, i_lst, i_frz, i_dct, i_dctK, at0, at1, at2, at3, ix0, ix1, ix2, cast_pos, cast_ne, zero_cast, if_false, if_true, ite_false, ite_true, b_lenT, b_lenP, l_lst, l_frz, l_dct, b_abs, b_int, b_intB, b_tupT, b_tupP, b_lstT, b_lstP, b_srt, b_sum, b_any, b_all, b_max2, b_min2, b_lrg, o_add, o_sub, o_mul, o_fdv, o_mod, o_pow, o_cat, o_catS, o_catP, o_rep, n_int, bo_bl, in_int, c_lt, c_le, c_gt, c_ge, c_eq, c_ne, c_in, c_nin, e_ii, e_ss, e_bb, t_bl, t_int, t_tup, t_ptr, s_tup, s_ptr, m_app, m_pop, m_popAt, m_joinP, r_app, r_pop, r_popAt, r_join, a_add, a_sub, d_set, d_lst, d_dct, k_int, k_str, q_name, q_tup, q_nil, q_cons, p_z, p_s, g_z, g_s, f_nil, f_cons, z_n, z_b, z_i, z_s, z_t, cs_n, cs_b, cs_i, cs_s, cs_t, cn_n, cn_b, cn_i, cn_s, cn_t, isT, reduceCtorEq, decide_true, decide_false, Bool.or_true, Bool.or_false, Bool.true_or, Bool.false_or, Bool.not_true, Bool.not_false, true_implies, Bool.true_eq_false, Bool.false_eq_true, not_true_eq_false, not_false_eq_true, false_implies, and_true, true_and, decide_eq_true_eq, forall_const, Option.map_some, Option.bind_some, List.length_cons, List.length_nil]
      rw [rp_cons]
      simp only [wv_var, wv_cst, wv_bin, wv_neg, wv_cmp, wv_chn, wv_not, wv_and, wv_or, wv_ite, wv_idx, wv_slc, wv_tup, wv_lst, wv_dsp0, wv_dsp, wd_nil, wd_cons, wv_call, wv_callK, wv_blt, wv_mth, wv_isi, vp_turn, vp_turn2, ws_nil, ws_cons, wp_no, wp_yes, wt_val, wt_not, wt_and, wt_or, wo_yes, wo_one, wi_seq, wi_rng1, wi_rng2, wi_enm, rs_asg, rs_asgS, rs_aug, rs_augS, rs_exp, rs_ret, rs_retN, rs_ite, rs_for, rs_body, rs_whl, rs_brk, rs_cnt, rs_pas, rp_nil, seq_nx, seq_ret, seq_brk, seq_cnt, loop_nx, loop_ret, loop_brk, loop_cnt, wp_some, vp_some, vp_map, vp_gte, vp_gteP, gteP, o_ixT, o_ixP, o_ixK, i_lst, i_frz, i_dct, i_dctK, at0, at1, at2, at3, ix0, ix1, ix2, cast_pos, cast_ne, zero_cast, if_false, if_true, ite_false, ite_true, b_lenT, b_lenP, l_lst, l_frz, l_dct, b_abs, b_int, b_intB, b_tupT, b_tupP, b_lstT, b_lstP, b_srt, b_sum, b_any, b_all, b_max2, b_min2, b_lrg, o_add, o_sub, o_mul, o_fdv, o_mod, o_pow, o_cat, o_catS, o_catP, o_rep, n_int, bo_bl, in_int, c_lt, c_le, c_gt, c_ge, c_eq, c_ne, c_in, c_nin, e_ii, e_ss, e_bb, t_bl, t_int, t_tup, t_ptr, s_tup, s_ptr, m_app, m_pop, m_popAt, m_joinP, r_app, r_pop, r_popAt, r_join, a_add, a_sub, d_set, d_lst, d_dct, k_int, k_str, q_name, q_tup, q_nil, q_cons, p_z, p_s, g_z, g_s, f_nil, f_cons, z_n, z_b, z_i, z_s, z_t, cs_n, cs_b, cs_i, cs_s, cs_t, cn_n, cn_b, cn_i, cn_s, cn_t, isT, reduceCtorEq, decide_true, decide_false, Bool.or_true, Bool.or_false, Bool.true_or, Bool.false_or, Bool.not_true, Bool.not_false, true_implies, Bool.true_eq_false, Bool.false_eq_true, not_true_eq_false, not_false_eq_true, false_implies, and_true, true_and, decide_eq_true_eq, forall_const, Option.map_some, Option.bind_some, List.length_cons, List.length_nil, str_a, str_house, str_out]
      repeat refine ⟨by rw [sizeLine_eq]; decide, ?_⟩
      rw [alone_d, rp_cons]
      simp only [wv_var, wv_cst, wv_bin, wv_neg, wv_cmp, wv_chn, wv_not, wv_and, wv_or, wv_ite, wv_idx, wv_slc, wv_tup, wv_lst, wv_dsp0, wv_dsp, wd_nil, wd_cons, wv_call, wv_callK, wv_blt, wv_mth, wv_isi, vp_turn, vp_turn2, ws_nil, ws_cons, wp_no, wp_yes, wt_val, wt_not, wt_and, wt_or, wo_yes, wo_one, wi_seq, wi_rng1, wi_rng2, wi_enm, rs_asg, rs_asgS, rs_aug, rs_augS, rs_exp, rs_ret, rs_retN, rs_ite, rs_for, rs_body, rs_whl, rs_brk, rs_cnt, rs_pas, rp_nil, seq_nx, seq_ret, seq_brk, seq_cnt, loop_nx, loop_ret, loop_brk, loop_cnt, wp_some, vp_some, vp_map, vp_gte, vp_gteP, gteP, o_ixT, o_ixP, o_ixK, i_lst, i_frz, i_dct, i_dctK, at0, at1, at2, at3, ix0, ix1, ix2, cast_pos, cast_ne, zero_cast, if_false, if_true, ite_false, ite_true, b_lenT, b_lenP, l_lst, l_frz, l_dct, b_abs, b_int, b_intB, b_tupT, b_tupP, b_lstT, b_lstP, b_srt, b_sum, b_any, b_all, b_max2, b_min2, b_lrg, o_add, o_sub, o_mul, o_fdv, o_mod, o_pow, o_cat, o_catS, o_catP, o_rep, n_int, bo_bl, in_int, c_lt, c_le, c_gt, c_ge, c_eq, c_ne, c_in, c_nin, e_ii, e_ss, e_bb, t_bl, t_int, t_tup, t_ptr, s_tup, s_ptr, m_app, m_pop, m_popAt, m_joinP, r_app, r_pop, r_popAt, r_join, a_add, a_sub, d_set, d_lst, d_dct, k_int, k_str, q_name, q_tup, q_nil, q_cons, p_z, p_s, g_z, g_s, f_nil, f_cons, z_n, z_b, z_i, z_s, z_t, cs_n, cs_b, cs_i, cs_s, cs_t, cn_n, cn_b, cn_i, cn_s, cn_t, isT, reduceCtorEq, decide_true, decide_false, Bool.or_true, Bool.or_false, Bool.true_or, Bool.false_or, Bool.not_true, Bool.not_false, true_implies, Bool.true_eq_false, Bool.false_eq_true, not_true_eq_false, not_false_eq_true, false_implies, and_true, true_and, decide_eq_true_eq, forall_const, Option.map_some, Option.bind_some, List.length_cons, List.length_nil]
      refine Wp.mono (Q := fun d S' => d = .tup [.int 0] ∧ Kp 0 S7 S') (e0 ▸ w_reached (n := n + 2) (t := 2) (s := 0) alone_wb (by decide)) fun d S8 ⟨e, kp8⟩ => ?_
      subst e
      refine Wp.mono (Q := fun d S' => d = .tup [.int 1] ∧ Kp 0 S8 S') (e1 ▸ w_reached (n := n + 2) (t := 2) (s := 1) alone_wb (by decide)) fun d S9 ⟨e, kp9⟩ => ?_
      subst e
      refine Wp.mono (Q := fun d S' => d = .tup [.int 0] ∧ Kp 0 S9 S') (e2 ▸ w_rests (n := n + 3) (t := 2) (ss := alone) (by decide)) fun d S10 ⟨e, kp10⟩ => ?_
      subst e
      have hB10 := bg_kp ((kp8.trans kp9).trans kp10) hB7
      refine ⟨by rw [sizeLine_eq]; decide, ?_⟩
      rw [rp_cons]
      simp only [wv_var, wv_cst, wv_bin, wv_neg, wv_cmp, wv_chn, wv_not, wv_and, wv_or, wv_ite, wv_idx, wv_slc, wv_tup, wv_lst, wv_dsp0, wv_dsp, wd_nil, wd_cons, wv_call, wv_callK, wv_blt, wv_mth, wv_isi, vp_turn, vp_turn2, ws_nil, ws_cons, wp_no, wp_yes, wt_val, wt_not, wt_and, wt_or, wo_yes, wo_one, wi_seq, wi_rng1, wi_rng2, wi_enm, rs_asg, rs_asgS, rs_aug, rs_augS, rs_exp, rs_ret, rs_retN, rs_ite, rs_for, rs_body, rs_whl, rs_brk, rs_cnt, rs_pas, rp_nil, seq_nx, seq_ret, seq_brk, seq_cnt, loop_nx, loop_ret, loop_brk, loop_cnt, wp_some, vp_some, vp_map, vp_gte, vp_gteP, gteP, o_ixT, o_ixP, o_ixK, i_lst, i_frz, i_dct, i_dctK, at0, at1, at2, at3, ix0, ix1, ix2, cast_pos, cast_ne, zero_cast, if_false, if_true, ite_false, ite_true, b_lenT, b_lenP, l_lst, l_frz, l_dct, b_abs, b_int, b_intB, b_tupT, b_tupP, b_lstT, b_lstP, b_srt, b_sum, b_any, b_all, b_max2, b_min2, b_lrg, o_add, o_sub, o_mul, o_fdv, o_mod, o_pow, o_cat, o_catS, o_catP, o_rep, n_int, bo_bl, in_int, c_lt, c_le, c_gt, c_ge, c_eq, c_ne, c_in, c_nin, e_ii, e_ss, e_bb, t_bl, t_int, t_tup, t_ptr, s_tup, s_ptr, m_app, m_pop, m_popAt, m_joinP, r_app, r_pop, r_popAt, r_join, a_add, a_sub, d_set, d_lst, d_dct, k_int, k_str, q_name, q_tup, q_nil, q_cons, p_z, p_s, g_z, g_s, f_nil, f_cons, z_n, z_b, z_i, z_s, z_t, cs_n, cs_b, cs_i, cs_s, cs_t, cn_n, cn_b, cn_i, cn_s, cn_t, isT, reduceCtorEq, decide_true, decide_false, Bool.or_true, Bool.or_false, Bool.true_or, Bool.false_or, Bool.not_true, Bool.not_false, true_implies, Bool.true_eq_false, Bool.false_eq_true, not_true_eq_false, not_false_eq_true, false_implies, and_true, true_and, decide_eq_true_eq, forall_const, Option.map_some, Option.bind_some, List.length_cons, List.length_nil]
      refine Wp.mono (Q := fun d S' => d = .tup [.int 1] ∧ Kp 0 S10 S') (e3 ▸ w_standings (n := n + 4) (t := 2) (ss := alone) (o := true) (by decide)) fun d S11 ⟨e, kp11⟩ => ?_
      subst e
      simp only [wv_var, wv_cst, wv_bin, wv_neg, wv_cmp, wv_chn, wv_not, wv_and, wv_or, wv_ite, wv_idx, wv_slc, wv_tup, wv_lst, wv_dsp0, wv_dsp, wd_nil, wd_cons, wv_call, wv_callK, wv_blt, wv_mth, wv_isi, vp_turn, vp_turn2, ws_nil, ws_cons, wp_no, wp_yes, wt_val, wt_not, wt_and, wt_or, wo_yes, wo_one, wi_seq, wi_rng1, wi_rng2, wi_enm, rs_asg, rs_asgS, rs_aug, rs_augS, rs_exp, rs_ret, rs_retN, rs_ite, rs_for, rs_body, rs_whl, rs_brk, rs_cnt, rs_pas, rp_nil, seq_nx, seq_ret, seq_brk, seq_cnt, loop_nx, loop_ret, loop_brk, loop_cnt, wp_some, vp_some, vp_map, vp_gte, vp_gteP, gteP, o_ixT, o_ixP, o_ixK, i_lst, i_frz, i_dct, i_dctK, at0, at1, at2, at3, ix0, ix1, ix2, cast_pos, cast_ne, zero_cast, if_false, if_true, ite_false, ite_true, b_lenT, b_lenP, l_lst, l_frz, l_dct, b_abs, b_int, b_intB, b_tupT, b_tupP, b_lstT, b_lstP, b_srt, b_sum, b_any, b_all, b_max2, b_min2, b_lrg, o_add, o_sub, o_mul, o_fdv, o_mod, o_pow, o_cat, o_catS, o_catP, o_rep, n_int, bo_bl, in_int, c_lt, c_le, c_gt, c_ge, c_eq, c_ne, c_in, c_nin, e_ii, e_ss, e_bb, t_bl, t_int, t_tup, t_ptr, s_tup, s_ptr, m_app, m_pop, m_popAt, m_joinP, r_app, r_pop, r_popAt, r_join, a_add, a_sub, d_set, d_lst, d_dct, k_int, k_str, q_name, q_tup, q_nil, q_cons, p_z, p_s, g_z, g_s, f_nil, f_cons, z_n, z_b, z_i, z_s, z_t, cs_n, cs_b, cs_i, cs_s, cs_t, cn_n, cn_b, cn_i, cn_s, cn_t, isT, reduceCtorEq, decide_true, decide_false, Bool.or_true, Bool.or_false, Bool.true_or, Bool.false_or, Bool.not_true, Bool.not_false, true_implies, Bool.true_eq_false, Bool.false_eq_true, not_true_eq_false, not_false_eq_true, false_implies, and_true, true_and, decide_eq_true_eq, forall_const, Option.map_some, Option.bind_some, List.length_cons, List.length_nil, List.cons_append, List.nil_append]
      repeat refine ⟨by rw [sizeLine_eq]; decide, ?_⟩
      refine (same_c _ S11 (by decide) (by decide)).mono fun d S12 ⟨e, kp12⟩ => ?_
      subst e
      have hB12 := bg_kp (kp11.trans kp12) hB10
      have m6 : powOk 10 6 = true := by decide
      have e6 : (10 : Int) ^ (6 : Int).toNat = 1000000 := rfl
      simp only [wv_var, wv_cst, wv_bin, wv_neg, wv_cmp, wv_chn, wv_not, wv_and, wv_or, wv_ite, wv_idx, wv_slc, wv_tup, wv_lst, wv_dsp0, wv_dsp, wd_nil, wd_cons, wv_call, wv_callK, wv_blt, wv_mth, wv_isi, vp_turn, vp_turn2, ws_nil, ws_cons, wp_no, wp_yes, wt_val, wt_not, wt_and, wt_or, wo_yes, wo_one, wi_seq, wi_rng1, wi_rng2, wi_enm, rs_asg, rs_asgS, rs_aug, rs_augS, rs_exp, rs_ret, rs_retN, rs_ite, rs_for, rs_body, rs_whl, rs_brk, rs_cnt, rs_pas, rp_cons, rp_nil, seq_nx, seq_ret, seq_brk, seq_cnt, loop_nx, loop_ret, loop_brk, loop_cnt, wp_some, vp_some, vp_map, vp_gte, vp_gteP, gteP, o_ixT, o_ixP, o_ixK, i_lst, i_frz, i_dct, i_dctK, at0, at1, at2, at3, ix0, ix1, ix2, cast_pos, cast_ne, zero_cast, if_false, if_true, ite_false, ite_true, b_lenT, b_lenP, l_lst, l_frz, l_dct, b_abs, b_int, b_intB, b_tupT, b_tupP, b_lstT, b_lstP, b_srt, b_sum, b_any, b_all, b_max2, b_min2, b_lrg, o_add, o_sub, o_mul, o_fdv, o_mod, o_pow, o_cat, o_catS, o_catP, o_rep, n_int, bo_bl, in_int, c_lt, c_le, c_gt, c_ge, c_eq, c_ne, c_in, c_nin, e_ii, e_ss, e_bb, t_bl, t_int, t_tup, t_ptr, s_tup, s_ptr, m_app, m_pop, m_popAt, m_joinP, r_app, r_pop, r_popAt, r_join, a_add, a_sub, d_set, d_lst, d_dct, k_int, k_str, q_name, q_tup, q_nil, q_cons, p_z, p_s, g_z, g_s, f_nil, f_cons, z_n, z_b, z_i, z_s, z_t, cs_n, cs_b, cs_i, cs_s, cs_t, cn_n, cn_b, cn_i, cn_s, cn_t, isT, reduceCtorEq, decide_true, decide_false, Bool.or_true, Bool.or_false, Bool.true_or, Bool.false_or, Bool.not_true, Bool.not_false, true_implies, Bool.true_eq_false, Bool.false_eq_true, not_true_eq_false, not_false_eq_true, false_implies, and_true, true_and, decide_eq_true_eq, forall_const, Option.map_some, Option.bind_some, List.length_cons, List.length_nil, m6, e6]
      refine (draw_c.b hB12 (by decide) (by decide)).mono fun d1 S13 ⟨r, e, p5, p6, hB13, kp13, l13⟩ => ?_
      subst e
      simp only [wv_var, wv_cst, wv_bin, wv_neg, wv_cmp, wv_chn, wv_not, wv_and, wv_or, wv_ite, wv_idx, wv_slc, wv_tup, wv_lst, wv_dsp0, wv_dsp, wd_nil, wd_cons, wv_call, wv_callK, wv_blt, wv_mth, wv_isi, vp_turn, vp_turn2, ws_nil, ws_cons, wp_no, wp_yes, wt_val, wt_not, wt_and, wt_or, wo_yes, wo_one, wi_seq, wi_rng1, wi_rng2, wi_enm, rs_asg, rs_asgS, rs_aug, rs_augS, rs_exp, rs_ret, rs_retN, rs_ite, rs_for, rs_body, rs_whl, rs_brk, rs_cnt, rs_pas, rp_cons, rp_nil, seq_nx, seq_ret, seq_brk, seq_cnt, loop_nx, loop_ret, loop_brk, loop_cnt, wp_some, vp_some, vp_map, vp_gte, vp_gteP, gteP, o_ixT, o_ixP, o_ixK, i_lst, i_frz, i_dct, i_dctK, at0, at1, at2, at3, ix0, ix1, ix2, cast_pos, cast_ne, zero_cast, if_false, if_true, ite_false, ite_true, b_lenT, b_lenP, l_lst, l_frz, l_dct, b_abs, b_int, b_intB, b_tupT, b_tupP, b_lstT, b_lstP, b_srt, b_sum, b_any, b_all, b_max2, b_min2, b_lrg, o_add, o_sub, o_mul, o_fdv, o_mod, o_pow, o_cat, o_catS, o_catP, o_rep, n_int, bo_bl, in_int, c_lt, c_le, c_gt, c_ge, c_eq, c_ne, c_in, c_nin, e_ii, e_ss, e_bb, t_bl, t_int, t_tup, t_ptr, s_tup, s_ptr, m_app, m_pop, m_popAt, m_joinP, r_app, r_pop, r_popAt, r_join, a_add, a_sub, d_set, d_lst, d_dct, k_int, k_str, q_name, q_tup, q_nil, q_cons, p_z, p_s, g_z, g_s, f_nil, f_cons, z_n, z_b, z_i, z_s, z_t, cs_n, cs_b, cs_i, cs_s, cs_t, cn_n, cn_b, cn_i, cn_s, cn_t, isT, reduceCtorEq, decide_true, decide_false, Bool.or_true, Bool.or_false, Bool.true_or, Bool.false_or, Bool.not_true, Bool.not_false, true_implies, Bool.true_eq_false, Bool.false_eq_true, not_true_eq_false, not_false_eq_true, false_implies, and_true, true_and, decide_eq_true_eq, forall_const, Option.map_some, Option.bind_some, List.length_cons, List.length_nil]
      refine ⟨fun _ => trivial, fun _ => ?_⟩
      refine Wp.mono (book_c (n := n + 1) 4 24 12 1000000 S13 hB13 (by decide) (by decide) (by decide) (by decide) (by decide) (by decide)) fun d5 S14 ⟨ss2, e, hbk2, hB14, kp14⟩ => ?_
      subst e
      exact (w_parts (n := n) hB14 (book_wb hbk2 (by decide) (by decide) (by decide)) (by rw [hbk2.len]; decide)).mono fun d6 S15 ⟨e, _⟩ => e)
theorem law_true (ns : List Int) (h : ns.length ≤ 63) : ∃ S', Mi.run Φ wid dep 18 [.ptr 0] [.frz (ns.map D.int)] = some (.bl true, S') := by
  obtain ⟨d, S', e, h⟩ := w_law (n := 94) h
  subst h
  exact ⟨S', e⟩
end K04

open PySem PySem.W PyProof.Rows
set_option maxHeartbeats 0 in
theorem PySem.Challenge.cw_nonerunsdry_k04_parts_reached_holds : PySem.Challenge.rw_nonerunsdry_k04_parts_reached.Holds := by
  w_on; o_law; k_head; (case hw => w_witness2)
  k_fill
  refine L2.walk_of (l := PySem.Challenge.rw_nonerunsdry_k04_parts_reached) (n := 63) (k := K04.dep) (x := "script") (CX := fun _ => L2.CX0) (sp := fun w => Mi.spC _ (Mi.run K04.Φ K04.wid K04.dep) 18 1) rfl (by decide) rfl ⟨rfl, by decide, by decide⟩ (fun w h Y => PySem.W.kIn_of Y) ?F (fun _ _ a ns hl hO hS => Mi.law_sp hO hS (K04.law_true ns hl)) (fun _ _ _ _ _ h => h)
  case F =>
    intro w mg fa h KX G hmg
    refine' K04.all_mk KX G hmg ?a0 ?l0 ?k0 ?p0 ?a1 ?l1 ?k1 ?p1 ?a2 ?l2 ?k2 ?p2 ?a3 ?l3 ?k3 ?p3 ?a4 ?l4 ?k4 ?p4 ?a5 ?l5 ?k5 ?p5 ?a6 ?l6 ?k6 ?p6 ?a7 ?l7 ?k7 ?p7 ?a8 ?l8 ?k8 ?p8 ?a9 ?l9 ?k9 ?p9 ?a10 ?l10 ?k10 ?p10 ?a11 ?l11 ?k11 ?p11 ?a12 ?l12 ?k12 ?p12 ?a13 ?l13 ?k13 ?p13 ?a14 ?l14 ?k14 ?p14 ?a15 ?l15 ?k15 ?p15 ?a16 ?l16 ?k16 ?p16 ?a17 ?l17 ?k17 ?p17 ?a18 ?l18 ?k18 ?p18 ?z0 ?z1 ?z2 ?z3 ?z4 ?z5 ?z6 ?z7 ?z8 ?z9 ?z10 ?z11 ?z12 ?z13 ?z14 ?z15 ?z16 ?z17
    (case a0 => k_is); (case l0 => k_is); (case k0 => k_is); (case p0 => k_is); (case a1 => k_is); (case l1 => k_is); (case k1 => k_is); (case p1 => k_is); (case a2 => k_is); (case l2 => k_is); (case k2 => k_is); (case p2 => k_is); (case a3 => k_is); (case l3 => k_is); (case k3 => k_is); (case p3 => k_is); (case a4 => k_is); (case l4 => k_is); (case k4 => k_is); (case p4 => k_is); (case a5 => k_is); (case l5 => k_is); (case k5 => k_is); (case p5 => k_is); (case a6 => k_is); (case l6 => k_is); (case k6 => k_is); (case p6 => k_is); (case a7 => k_is); (case l7 => k_is); (case k7 => k_is); (case p7 => k_is); (case a8 => k_is); (case l8 => k_is); (case k8 => k_is); (case p8 => k_is); (case a9 => k_is); (case l9 => k_is); (case k9 => k_is); (case p9 => k_is); (case a10 => k_is); (case l10 => k_is); (case k10 => k_is); (case p10 => k_is); (case a11 => k_is); (case l11 => k_is); (case k11 => k_is); (case p11 => k_is); (case a12 => k_is); (case l12 => k_is); (case k12 => k_is); (case p12 => k_is); (case a13 => k_is); (case l13 => k_is); (case k13 => k_is); (case p13 => k_is); (case a14 => k_is); (case l14 => k_is); (case k14 => k_is); (case p14 => k_is); (case a15 => k_is); (case l15 => k_is); (case k15 => k_is); (case p15 => k_is); (case a16 => k_is); (case l16 => k_is); (case k16 => k_is); (case p16 => k_is); (case a17 => k_is); (case l17 => k_is); (case k17 => k_is); (case p17 => k_is); (case a18 => k_is); (case l18 => k_is); (case k18 => k_is); (case p18 => k_is); (case z0 => k_is); (case z1 => k_is); (case z2 => k_is); (case z3 => k_is); (case z4 => k_is); (case z5 => k_is); (case z6 => k_is); (case z7 => k_is); (case z8 => k_is); (case z9 => k_is); (case z10 => k_is); (case z11 => k_is); (case z12 => k_is); (case z13 => k_is); (case z14 => k_is); (case z15 => k_is); (case z16 => k_is); (case z17 => k_is)

