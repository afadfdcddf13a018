import PyProof.Rows.All
import Wide.All
import OpenK.AllK
import Wide.FinOn
import HandS.ForMost
import HandS.ForExc
import HandS.TryOnly
import HandS.TryMany
import HandS.Lambda
import HandS.EndTab
import HandS.EndOwn
import HandS.ExcIs
import HandS.TupLe
import HandS.TupAny
import HandS.TupMul
import HandS.IsInst
import HandS.Style
import HandS.WordsExc
import HandS.Zip
import PyProof.StrOps2
import PyProof.MinMaxWalk
import HandS.SetFor
import HandS.TupSets
import HandS.TupLen
import KE.KDictCopyH
import KE.KDictSum
import HandS.Strs
import PySem.Challenge.RW_dayphrase_k71_whole_work_there_and_back
set_option Elab.async false
set_option linter.all false
set_option maxRecDepth 100000
set_option maxHeartbeats 4000000
/-! Rf0: a small language of terms, its values (PyData), its evaluator. -/
namespace Rf
open PySem

abbrev D := PyData
abbrev Env := List (Option D)

inductive Res (α : Type) where
  | ok (a : α) | ex (c : Str) | bad
def Res.bind {α β : Type} : Res α → (α → Res β) → Res β
  | .ok a, f => f a
  | .ex c, _ => .ex c
  | .bad, _ => .bad
@[simp] theorem bind_ok {α β : Type} (a : α) (f : α → Res β) : (Res.ok a).bind f = f a := rfl
@[simp] theorem bind_ex {α β : Type} (c : Str) (f : α → Res β) : (Res.ex c : Res α).bind f = .ex c := rfl
@[simp] theorem bind_bad {α β : Type} (f : α → Res β) : (Res.bad : Res α).bind f = .bad := rfl

/-- a statement's end -/
inductive Out where
  | nx (ρ : Env) | ct (ρ : Env) | rt (d : D) | ex (c : Str) (ρ : Env) | bad
def Out.andThen : Out → (Env → Out) → Out
  | .nx ρ, f => f ρ
  | o, _ => o
@[simp] theorem then_nx (ρ : Env) (f : Env → Out) : (Out.nx ρ).andThen f = f ρ := rfl
@[simp] theorem then_ct (ρ : Env) (f : Env → Out) : (Out.ct ρ).andThen f = .ct ρ := rfl
@[simp] theorem then_rt (d : D) (f : Env → Out) : (Out.rt d).andThen f = .rt d := rfl
@[simp] theorem then_ex (c : Str) (ρ : Env) (f : Env → Out) : (Out.ex c ρ).andThen f = .ex c ρ := rfl
@[simp] theorem then_bad (f : Env → Out) : Out.bad.andThen f = .bad := rfl
/-- from a value on -/
def Res.out {α : Type} : Res α → Env → (α → Out) → Out
  | .ok a, _, f => f a
  | .ex c, ρ, _ => .ex c ρ
  | .bad, _, _ => .bad
@[simp] theorem out_ok {α : Type} (a : α) (ρ : Env) (f : α → Out) : (Res.ok a).out ρ f = f a := rfl
@[simp] theorem out_ex {α : Type} (c : Str) (ρ : Env) (f : α → Out) : (Res.ex c : Res α).out ρ f = .ex c ρ := rfl
@[simp] theorem out_bad {α : Type} (ρ : Env) (f : α → Out) : (Res.bad : Res α).out ρ f = .bad := rfl

inductive Op where
  | add | sub | mul | fdiv | mod | lt | le | gt | ge | eq | ne | isx | isnx | inx | ninx
  deriving DecidableEq
inductive Ty where
  | int | bool | str | tuple | list
  deriving DecidableEq
inductive Bi where
  | len | int | str | tuple | list | max2 | min2 | min1 | abs | sorted | set | all
  deriving DecidableEq
inductive Me where
  | count | index | split | join | replace | zfill | get | sset
  deriving DecidableEq

inductive Tm where
  | num (i : Int) | txt (s : Str) | tru | fls | non
  | var (i : Nat) | ovar (i : Nat) | glob (x : Str)
  | bin (o : Op) (a b : Tm) | neg (a : Tm) | nt (a : Tm) | andT (a b : Tm) | orT (a b : Tm)
  | chain (o1 o2 : Op) (a b c : Tm) | ite (c a b : Tm)
  | tup (as : Tm) | lst (as : Tm) | nil | cons (a r : Tm) | dic (ks vs : Tm)
  | idx (a i : Tm) | slc (a lo hi : Tm) | rev (a : Tm) | abst
  | call (f : Str) (as : Tm) | bi (b : Bi) (as : Tm) | isi (t : Ty) (a : Tm) | mth (m : Me) (a : Tm) (as : Tm)
  | comp (is : List Nat) (elt src cond : Tm) | told (b : Tm)
  | rng1 (a : Tm) | rng2 (a b : Tm) | zip (a b : Tm) | enm (a : Tm)
  | set (i : Nat) (e : Tm) | setT (is : List Nat) (e : Tm) | own (i : Nat) (e : Tm) | app (i : Nat) (e : Tm) | exd (i : Nat) (e : Tm) | put (i : Nat) (k v : Tm)
  | ifS (c t e : Tm) | whl (c b : Tm) | forS (is : List Nat) (src b : Tm) | ret (e : Tm) | rse (c : Str) | try1 (b : Tm) (cs : List Str) (s : Tm)
  | seq (a b : Tm) | skip | exprS (e : Tm) | cont | dnew (i : Nat)
  deriving DecidableEq

/-! ### operations on data -/
def lenOk (n : Nat) : Bool := decide (n ≤ 1000000)
def mulOk (i j : Int) : Bool := decide (i.natAbs < 18446744073709551616) || decide (j.natAbs < 18446744073709551616)
def divOk (j : Int) : Bool := decide (0 < j) && decide (j < 1073741824)
@[simp] def intsOf : List D → Option (List Int)
  | [] => some []
  | .int i :: r => (intsOf r).map (i :: ·)
  | _ => none
@[simp] def ltL : List Int → List Int → Bool
  | [], [] => false
  | [], _ :: _ => true
  | _ :: _, [] => false
  | x :: xs, y :: ys => decide (x < y) || (decide (x = y) && ltL xs ys)
@[simp] def boolR (b : Bool) : Res D := .ok (.bool b)
@[simp] def opAdd : D → D → Res D
  | .int i, .int j => .ok (.int (i + j))
  | .str x, .str y => if lenOk (x.length + y.length) then .ok (.str (x ++ y)) else .bad
  | .list x, .list y => if lenOk (x.length + y.length) then .ok (.list (x ++ y)) else .bad
  | .tuple x, .tuple y => if lenOk (x.length + y.length) then .ok (.tuple (x ++ y)) else .bad
  | _, _ => .bad
@[simp] def opSub : D → D → Res D
  | .int i, .int j => .ok (.int (i - j))
  | _, _ => .bad
def repL {α : Type} (x : List α) (n : Nat) : List α := (List.replicate n x).flatten
def repOk (n : Nat) (k : Int) : Bool := decide (n ≤ 1000) && (decide (-1000 ≤ k) && decide (k ≤ 1000))
@[simp] def opMul : D → D → Res D
  | .int i, .int j => if mulOk i j then .ok (.int (i * j)) else .bad
  | .tuple x, .int k => if repOk x.length k then .ok (.tuple (repL x k.toNat)) else .bad
  | .list x, .int k => if repOk x.length k then .ok (.list (repL x k.toNat)) else .bad
  | .str x, .int k => if repOk x.length k then .ok (.str ⟨(repL x.cps.toList k.toNat).toArray⟩) else .bad
  | _, _ => .bad
@[simp] def opDiv : D → D → Res D
  | .int i, .int j => if divOk j then .ok (.int (i / j)) else .bad
  | _, _ => .bad
@[simp] def opMod : D → D → Res D
  | .int i, .int j => if decide (0 < j) then .ok (.int (i % j)) else .bad
  | _, _ => .bad
@[simp] def opLt : D → D → Res D
  | .int i, .int j => boolR (decide (i < j))
  | .tuple x, .tuple y => match intsOf x, intsOf y with
    | some a, some b => boolR (ltL a b)
    | _, _ => .bad
  | _, _ => .bad
@[simp] def opLe : D → D → Res D
  | .int i, .int j => boolR (decide (i ≤ j))
  | .tuple x, .tuple y => match intsOf x, intsOf y with
    | some a, some b => boolR (!ltL b a)
    | _, _ => .bad
  | _, _ => .bad
@[simp] def notDict : D → Bool
  | .dict _ => false
  | _ => true
@[simp] def eqOk (a b : D) : Bool := notDict a && notDict b && decide (min a.depth b.depth ≤ 64)
@[simp] def opEq (a b : D) : Res D := if eqOk a b then boolR (PyData.eqv a b) else .bad
@[simp] def opNe (a b : D) : Res D := if eqOk a b then boolR (!PyData.eqv a b) else .bad
@[simp] def opIs : D → D → Res D
  | .none, .none => boolR true
  | _, .none => boolR false
  | .bool a, .bool b => boolR (decide (a = b))
  | _, _ => .bad
@[simp] def notR : Res D → Res D
  | .ok (.bool b) => boolR (!b)
  | .ex c => .ex c
  | _ => .bad
@[simp] def depthsOk (a : D) : Bool := notDict a && decide (a.depth ≤ 60)
@[simp] def opIn : D → D → Res D
  | a, .list xs => if depthsOk a then boolR (xs.any fun z => PyData.eqv z a) else .bad
  | a, .tuple xs => if depthsOk a then boolR (xs.any fun z => PyData.eqv z a) else .bad
  | _, _ => .bad
@[simp] def opF : Op → D → D → Res D
  | .add => opAdd | .sub => opSub | .mul => opMul | .fdiv => opDiv | .mod => opMod
  | .lt => opLt | .le => opLe | .gt => fun a b => opLt b a | .ge => fun a b => opLe b a
  | .eq => opEq | .ne => opNe | .isx => opIs | .isnx => fun a b => notR (opIs a b) | .inx => opIn | .ninx => fun a b => notR (opIn a b)
def getI {α : Type} (xs : List α) (i : Int) : Option α := L2.atI xs i
@[simp] def optR {α : Type} : Option α → Res α
  | some a => .ok a
  | none => .bad
/-- the script's list: read, never kept in another thing -/
def ro (ds : List D) : D := .dict [(.none, .list ds)]
/-- a dict of one's own, read as a set: its keys, each once -/
def dctD (ks : List (List Int)) : D := .dict [(.bool true, .list (ks.map fun k => .tuple (k.map .int)))]
@[simp] def idxF : D → D → Res D
  | .dict [(.none, .list x)], .int i => optR (getI x i)
  | .list x, .int i => optR (getI x i)
  | .tuple x, .int i => optR (getI x i)
  | .str x, .int i => if lenOk x.length then (match getI x.cps.toList i with | some c => .ok (.str ⟨#[c]⟩) | none => .bad) else .bad
  | _, _ => .bad
def cutL {α : Type} (xs : List α) (lo hi : Option Int) : List α := (xs.drop (HT.sIx xs.length 0 lo)).take (HT.sIx xs.length xs.length hi - HT.sIx xs.length 0 lo)
@[simp] def partR : D → Res (Option Int)
  | .int i => .ok (some i)
  | _ => .bad
@[simp] def slcF : D → Option Int → Option Int → Res D
  | .list x, l, h => .ok (.list (cutL x l h))
  | .tuple x, l, h => .ok (.tuple (cutL x l h))
  | .str x, l, h => if lenOk x.length then .ok (.str ⟨(cutL x.cps.toList l h).toArray⟩) else .bad
  | _, _, _ => .bad
@[simp] def revF : D → Res D
  | .dict [(.none, .list x)] => .ok (.list x.reverse)
  | .list x => .ok (.list x.reverse)
  | .tuple x => .ok (.tuple x.reverse)
  | _ => .bad
@[simp] def isiF : Ty → D → Bool
  | .int, .int _ => true
  | .int, .bool _ => true
  | .bool, .bool _ => true
  | .str, .str _ => true
  | .tuple, .tuple _ => true
  | .list, .list _ => true
  | _, _ => false
@[simp] def boolsOf : List D → Option (List Bool)
  | [] => some []
  | .bool b :: r => (boolsOf r).map (b :: ·)
  | _ => none
/-- tuples of three small numbers, each known by one number -/
def tupsOf : List D → Option (List (List Int))
  | [] => some []
  | .tuple x :: r => match intsOf x, tupsOf r with
    | some ns, some l => some (ns :: l)
    | _, _ => none
  | _ => none
def okT3 : List Int → Bool
  | [a, b, c] => decide (0 ≤ a) && decide (a < 4000) && (decide (0 ≤ b) && decide (b < 4000)) && (decide (0 ≤ c) && decide (c < 4000))
  | _ => false
def cd3 : List Int → Int
  | [a, b, c] => a * 16000000 + b * 4000 + c
  | _ => 0
def insT (x : List Int) : List (List Int) → List (List Int)
  | [] => [x]
  | y :: r => if cd3 x < cd3 y then x :: y :: r else if cd3 x = cd3 y then y :: r else y :: insT x r
def srtT (l : List (List Int)) : List (List Int) := l.foldr insT []
def tupD (ns : List Int) : D := .tuple (ns.map .int)
@[simp] def biF : Bi → List D → Res D
  | .len, [.dict [(.none, .list x)]] => .ok (.int x.length)
  | .len, [.list x] => .ok (.int x.length)
  | .len, [.tuple x] => .ok (.int x.length)
  | .len, [.str x] => if lenOk x.length then .ok (.int x.length) else .bad
  | .int, [.int i] => .ok (.int i)
  | .int, [.bool b] => .ok (.int (if b then 1 else 0))
  | .str, [.int i] => if decide (i.natAbs.log2 < 1920) then .ok (.str (Str.ofString (toString i))) else .bad
  | .max2, [.int i, .int j] => .ok (.int (if j > i then j else i))
  | .min2, [.int i, .int j] => .ok (.int (if j < i then j else i))
  | .max2, [.tuple x, .tuple y] => (match intsOf x, intsOf y with | some a, some b => .ok (.tuple (if ltL a b then y else x)) | _, _ => .bad)
  | .min2, [.tuple x, .tuple y] => (match intsOf x, intsOf y with | some a, some b => .ok (.tuple (if ltL b a then y else x)) | _, _ => .bad)
  | .abs, [.int i] => .ok (.int (if i < 0 then -i else i))
  | .tuple, [.list x] => .ok (.tuple x)
  | .tuple, [.tuple x] => .ok (.tuple x)
  | .list, [.list x] => .ok (.list x)
  | .list, [.tuple x] => .ok (.list x)
  | .all, [.list x] => (match boolsOf x with | some bs => .ok (.bool (bs.all id)) | none => .bad)
  | .len, [.dict [(.bool true, .list x)]] => if decide (x.length ≤ 60) then .ok (.int x.length) else .bad
  | .sorted, [.dict [(.bool true, .list x)]] => (match tupsOf x with | some l => if decide (l.length < 60) && l.all okT3 then .ok (.list ((srtT l).map tupD)) else .bad | none => .bad)
  | _, _ => .bad
/-- keys and things of a dict, one behind the other -/
def keyD : D → Option (Sum Int Str)
  | .int i => some (.inl i)
  | .str x => some (.inr x)
  | _ => none
def keysOk : List D → Bool
  | [] => true
  | k :: _ :: r => (keyD k).isSome && keysOk r
  | _ => false
def dgetL (k : Sum Int Str) : List D → Option D
  | x :: v :: r => (dgetL k r).or (if keyD x = some k then some v else none)
  | _ => none
/-- the members of a set of ints, sorted -/
def insU (x : Int) : List Int → List Int
  | [] => [x]
  | y :: r => if x < y then x :: y :: r else if x = y then y :: r else y :: insU x r
def srtU (l : List Int) : List Int := l.foldr insU []
def ssF : D → Res D
  | .tuple x => match intsOf x with
    | some ns => if decide (ns.length < 60) then .ok (.list ((srtU ns).map .int)) else .bad
    | none => match tupsOf x with
      | some l => if decide (l.length < 60) && l.all okT3 then .ok (.list ((srtT l).map tupD)) else .bad
      | none => .bad
  | .list x => match tupsOf x with
    | some l => if decide (l.length < 60) && l.all okT3 then .ok (.list ((srtT l).map tupD)) else .bad
    | none => .bad
  | _ => .bad
def preM : Me → List D → Bool
  | .get, kvs => keysOk kvs && decide (kvs.length ≤ 30)
  | .sset, _ => true
  | _, _ => false
def meF : Me → List D → List D → Res D
  | .get, kvs, [x, d] => match keyD x with
    | some k => .ok ((dgetL k kvs).getD d)
    | none => .bad
  | .sset, [d], [] => ssF d
  | _, _, _ => .bad
@[simp] def negF : D → Res D
  | .int i => .ok (.int (-i))
  | _ => .bad
@[simp] def appF : D → D → Res D
  | .list l, d => if lenOk (l.length + 1) && notDict d then .ok (.list (l ++ [d])) else .bad
  | _, _ => .bad
def putK3 (l : List (List Int)) (k : List Int) : List (List Int) := if k ∈ l then l else l ++ [k]
@[simp] def putF : D → D → Res D
  | .dict [(.bool true, .list x)], .tuple y => (match tupsOf x, intsOf y with | some l, some k => if decide (l.length < 60) then .ok (dctD (putK3 l k)) else .bad | _, _ => .bad)
  | _, _ => .bad
@[simp] def condR {α : Type} : D → Res α → Res α → Res α
  | .bool b, x, y => if b then x else y
  | _, _, _ => .bad
@[simp] def condO : D → Out → Out → Out
  | .bool b, x, y => if b then x else y
  | _, _, _ => .bad
@[simp] def kindOf (c : Str) : Int := if c = "TooFar" then 0 else if c = "NoDay" then 1 else if c = "NoSense" then 2 else -1
@[simp] def toldF : Res D → Res D
  | .ok d => if notDict d then .ok (.tuple [.str "told", d]) else .bad
  | .ex c => if c = "TooFar" ∨ c = "NoDay" ∨ c = "NoSense" then .ok (.tuple [.str "refused", .int (kindOf c)]) else .bad
  | .bad => .bad
@[simp] def knownX (c : Str) : Bool := decide (c = "TooFar") || decide (c = "NoDay") || decide (c = "NoSense")
@[simp] def subX (c k : Str) : Bool := decide (c = k) || decide (k = "DayError")

/-! ### names -/
@[simp] def getV (ρ : Env) (i : Nat) : Res D := match ρ[i]? with
  | some (some d) => .ok d
  | _ => .bad
@[simp] def setV (ρ : Env) (i : Nat) (d : D) : Env := ρ.set i (some d)
@[simp] def setVs : Env → List Nat → List D → Option Env
  | ρ, [], [] => some ρ
  | ρ, i :: is, d :: ds => setVs (setV ρ i d) is ds
  | _, _, _ => none
/-- one name takes the thing, several take its parts -/
@[simp] def bindP (ρ : Env) : List Nat → D → Option Env
  | [i], d => some (setV ρ i d)
  | is, .tuple ds => setVs ρ is ds
  | is, .list ds => setVs ρ is ds
  | _, _ => none
def wipeE (ρ : Env) : List Nat → Env
  | [] => ρ
  | i :: is => (wipeE ρ is).set i none
@[simp] def optO : Option Env → Out
  | some ρ => .nx ρ
  | none => .bad

/-! ### loops -/
@[simp] def loopO : Out → (Env → Out) → Out
  | .nx ρ, f => f ρ
  | .ct ρ, f => f ρ
  | o, _ => o
def whlN (c : Env → Res D) (body : Env → Out) : Nat → Env → Out
  | 0, _ => .bad
  | n + 1, ρ => (c ρ).out ρ fun x => condO x (loopO (body ρ) fun ρ2 => whlN c body n ρ2) (.nx ρ)
@[simp] def forL (g : D → Env → Option Env) (body : Env → Out) : List D → Env → Out
  | [], ρ => .nx ρ
  | d :: r, ρ => (optO (g d ρ)).andThen fun ρ1 => loopO (body ρ1) fun ρ2 => forL g body r ρ2
@[simp] def compL (f : D → Res (Option D)) : List D → Res (List D)
  | [] => .ok []
  | d :: r => match f d with
    | .ok (some y) => (compL f r).bind fun l => .ok (y :: l)
    | .ok none => compL f r
    | _ => .bad
def whileFuel : Nat := 4000000
def rangeL (lo : Int) : Nat → List D
  | 0 => []
  | n + 1 => .int lo :: rangeL (lo + 1) n
def smallI (i : Int) : Bool := decide (-4000000000000000000 ≤ i) && decide (i ≤ 4000000000000000000)
@[simp] def rngF : D → D → Res (List D)
  | .int i, .int j => if smallI i && smallI j then .ok (rangeL i (j - i).toNat) else .bad
  | _, _ => .bad
@[simp] def zipL : List D → List D → List D
  | x :: xs, y :: ys => .tuple [x, y] :: zipL xs ys
  | _, _ => []
@[simp] def enumL : Nat → List D → List D
  | _, [] => []
  | n, x :: xs => .tuple [.int n, x] :: enumL (n + 1) xs
@[simp] def itemsF : D → Res (List D)
  | .dict [(.none, .list x)] => .ok x
  | .list x => .ok x
  | .tuple x => .ok x
  | _ => .bad

@[simp] def lstF : D → Res (List D)
  | .dict [(.none, .list x)] => .ok x
  | .list x => .ok x
  | _ => .bad
@[simp] def zipF : D → D → Res (List D)
  | .list x, .list y => .ok (zipL x y)
  | .tuple x, .tuple y => .ok (zipL x y)
  | _, _ => .bad
/-! ### the evaluator: cf are the calls, G the module's constants -/
section
variable (cf : Str → List D → Res D) (G : Str → Option D)
mutual
@[simp] def ev : Tm → Env → Res D
  | .num i, _ => .ok (.int i)
  | .txt s, _ => .ok (.str s)
  | .tru, _ => .ok (.bool true)
  | .fls, _ => .ok (.bool false)
  | .non, _ => .ok .none
  | .var i, ρ => getV ρ i
  | .ovar i, ρ => getV ρ i
  | .glob x, _ => optR (G x)
  | .bin o a b, ρ => (ev a ρ).bind fun x => (ev b ρ).bind fun y => opF o x y
  | .neg a, ρ => (ev a ρ).bind negF
  | .nt a, ρ => notR (ev a ρ)
  | .andT a b, ρ => (ev a ρ).bind fun x => condR x (ev b ρ) (.ok (.bool false))
  | .orT a b, ρ => (ev a ρ).bind fun x => condR x (.ok (.bool true)) (ev b ρ)
  | .chain o1 o2 a b c, ρ => (ev a ρ).bind fun x => (ev b ρ).bind fun y => (opF o1 x y).bind fun t => condR t ((ev c ρ).bind fun z => opF o2 y z) (.ok (.bool false))
  | .ite c a b, ρ => (ev c ρ).bind fun x => condR x (ev a ρ) (ev b ρ)
  | .tup as, ρ => (evs as ρ).bind fun l => if lenOk l.length && l.all notDict then .ok (.tuple l) else .bad
  | .lst as, ρ => (evs as ρ).bind fun l => if lenOk l.length && l.all notDict then .ok (.list l) else .bad
  | .idx a i, ρ => (ev a ρ).bind fun x => (ev i ρ).bind fun y => idxF x y
  | .slc a lo hi, ρ => (ev a ρ).bind fun x => (evP lo ρ).bind fun l => (evP hi ρ).bind fun h => slcF x l h
  | .rev a, ρ => (ev a ρ).bind revF
  | .call f as, ρ => (evs as ρ).bind fun l => cf f l
  | .bi b as, ρ => (evs as ρ).bind fun l => biF b l
  | .isi t a, ρ => (ev a ρ).bind fun x => if notDict x then .ok (.bool (isiF t x)) else .bad
  | .mth m a as, ρ => (evs a ρ).bind fun x => if preM m x then (evs as ρ).bind fun l => meF m x l else .bad
  | .comp is elt src cond, ρ => (evI src ρ).bind fun items => if lenOk items.length then (compL (fun d => match bindP (wipeE ρ is) is d with
      | none => .bad
      | some ρ1 => (ev cond ρ1).bind fun t => condR t ((ev elt ρ1).bind fun y => if notDict y then .ok (some y) else .bad) (.ok none)) items).bind fun l => .ok (.list l) else .bad
  | .told b, ρ => toldF (ev b ρ)
  | _, _ => .bad
@[simp] def evs : Tm → Env → Res (List D)
  | .nil, _ => .ok []
  | .cons a r, ρ => (ev a ρ).bind fun x => (evs r ρ).bind fun l => .ok (x :: l)
  | _, _ => .bad
@[simp] def evP : Tm → Env → Res (Option Int)
  | .abst, _ => .ok none
  | .cons a .nil, ρ => (ev a ρ).bind partR
  | _, _ => .bad
/-- what a loop walks -/
@[simp] def evI : Tm → Env → Res (List D)
  | .rng1 a, ρ => (ev a ρ).bind fun x => rngF (.int 0) x
  | .rng2 a b, ρ => (ev a ρ).bind fun x => (ev b ρ).bind fun y => rngF x y
  | .zip a b, ρ => (ev a ρ).bind fun x => (ev b ρ).bind fun y => zipF x y
  | .enm a, ρ => (ev a ρ).bind fun x => (lstF x).bind fun l => .ok (enumL 0 l)
  | .cons a .nil, ρ => (ev a ρ).bind itemsF
  | _, _ => .bad
end
@[simp] def ownO : D → Out → Out
  | .list _, o => o
  | _, _ => .bad
@[simp] def exS : Tm → Env → Out
  | .set i e, ρ => (ev cf G e ρ).out ρ fun d => .nx (setV ρ i d)
  | .own i e, ρ => (ev cf G e ρ).out ρ fun d => ownO d (.nx (setV ρ i d))
  | .setT is e, ρ => (ev cf G e ρ).out ρ fun d => optO (bindP ρ is d)
  | .app i e, ρ => (getV ρ i).out ρ fun x => (ev cf G e ρ).out ρ fun d => (appF x d).out ρ fun y => .nx (setV ρ i y)
  | .dnew i, ρ => .nx (setV ρ i (dctD []))
  | .put i k v, ρ => (ev cf G v ρ).out ρ fun _ => (getV ρ i).out ρ fun x => (ev cf G k ρ).out ρ fun d => (putF x d).out ρ fun y => .nx (setV ρ i y)
  | .ifS c t e, ρ => (ev cf G c ρ).out ρ fun x => condO x (exS t ρ) (exS e ρ)
  | .whl c b, ρ => whlN (ev cf G c) (exS b) whileFuel ρ
  | .forS is src b, ρ => (evI cf G src ρ).out ρ fun items => forL (fun d ρ1 => bindP ρ1 is d) (exS b) items ρ
  | .ret e, ρ => (ev cf G e ρ).out ρ fun d => .rt d
  | .rse c, ρ => .ex c ρ
  | .try1 b cs s, ρ => match exS b ρ with
      | .ex c ρ1 => if knownX c then (if cs.any (subX c) then exS s ρ1 else .ex c ρ1) else .bad
      | o => o
  | .seq a b, ρ => (exS a ρ).andThen (exS b)
  | .skip, ρ => .nx ρ
  | .exprS e, ρ => (ev cf G e ρ).out ρ fun _ => .nx ρ
  | .cont, ρ => .ct ρ
  | _, _ => .bad
end

/-- a def -/
structure Fd where
  np : Nat
  nn : Nat
  body : Tm
def outR : Out → Res D
  | .rt d => .ok d
  | .nx _ => .ok .none
  | .ex c _ => .ex c
  | _ => .bad
@[simp] theorem outR_rt (d : D) : outR (.rt d) = .ok d := rfl
@[simp] theorem outR_nx (ρ : Env) : outR (.nx ρ) = .ok .none := rfl
@[simp] theorem outR_ex (c : Str) (ρ : Env) : outR (.ex c ρ) = .ex c := rfl
@[simp] theorem outR_bad : outR .bad = .bad := rfl
@[simp] def startE (n : Nat) (ds : List D) : Env := ds.map some ++ List.replicate (n - ds.length) none
def runF (cf : Str → List D → Res D) (G : Str → Option D) (f : Fd) (ds : List D) : Res D :=
  if ds.length = f.np then outR (exS cf G f.body (startE f.nn ds)) else .bad
/-- the program's calls, k deep -/
def run (P : Str → Option Fd) (G : Str → Option D) : Nat → Str → List D → Res D
  | 0, _, _ => .bad
  | k + 1, f, ds => match P f with
    | some fd => runF (run P G k) G fd ds
    | none => .bad
end Rf
/-! RfG: dicts whose keys are tuples of ints: made, stored in, measured, sorted. -/
namespace Rf
open PySem PySem.Spec PyProof.Rows L2
abbrev rowD (x : List Int × Addr × Value) : DictEntry := ⟨reduceHash (Builtin.Tuple.tupleHashOf (x.1.map hashInt)), .ref x.2.1, x.2.2⟩
/-- the dict at a: its keys and where they stand -/
def DT0 (h : Heap) (a : Addr) (L : List (Addr × List Int)) : Prop := (a == sysModules) = false ∧ ∃ (xs : List (List Int × Addr × Value)) (o : Obj) (es : Array DictEntry) (ep : Nat),
  h.get? a = some o ∧ o.ExactDict ∧ o.data = .dict es ep ∧ es.toList = xs.map rowD ∧ (xs.map (·.1)).Nodup ∧ xs.map (fun x => (x.2.1, x.1)) = L
def DTO (a : Addr) (L : List (Addr × List Int)) : HO := .ext fun h => DT0 h a L
theorem dto_ne {a : Addr} {L : List (Addr × List Int)} (ps : Array Value) : DTO a L ≠ .tbl ps := fun z => by unfold DTO at z; cases z
theorem dto_nt {a : Addr} {L : List (Addr × List Int)} (xs : List V) : DTO a L ≠ .tup xs := fun z => by unfold DTO at z; cases z
theorem dto_nl {a : Addr} {L : List (Addr × List Int)} (xs : List V) : DTO a L ≠ .lst xs := fun z => by unfold DTO at z; cases z
theorem dto_new {P : Program} {w : World} {H : Hp} {h : Heap} {a : Addr} {L : List (Addr × List Int)} (R : DT0 h a L) : ObjOk P w H h a (DTO a L) := by
  have ⟨hs, xs, o, es, ep, ho, r⟩ := R
  refine ⟨R, ⟨o, ho⟩, fun h1 h2 p k => ?_⟩
  have ⟨hs', xs', o', es', ep', ho', r'⟩ := (show DT0 h1 a L from p)
  exact ⟨hs', xs', o', es', ep', k o' ho', r'⟩
theorem DT0.full {P : Program} {w : World} {h : Heap} {a : Addr} {L : List (Addr × List Int)} (R : DT0 h a L) (hk : ∀ p ∈ L, IsT P w h p.2 p.1) :
    (a == sysModules) = false ∧ ∃ xs, h.DictOfH (tupleKind (intKind P w)) a xs ∧ xs.map (fun x => (x.2.1, x.1)) = L := by
  obtain ⟨hs, xs, o, es, ep, h1, h2, h3, h4, h5, h6⟩ := R
  refine ⟨hs, xs, ⟨o, es, ep, h1, h2, h3, h4, fun x hx => ?_, h5⟩, h6⟩
  exact hk (x.2.1, x.1) (by rw [← h6]; exact List.mem_map_of_mem hx)
theorem DT0.of {P : Program} {w : World} {h : Heap} {a : Addr} {xs : List (List Int × Addr × Value)} (hs : (a == sysModules) = false) (d : h.DictOfH (tupleKind (intKind P w)) a xs) : DT0 h a (xs.map fun x => (x.2.1, x.1)) := by
  obtain ⟨o, es, ep, h1, h2, h3, h4, h5, h6⟩ := d
  exact ⟨hs, xs, o, es, ep, h1, h2, h3, h4, h6, rfl⟩
theorem DT0.nodup {h : Heap} {a : Addr} {L : List (Addr × List Int)} (R : DT0 h a L) : (L.map (·.2)).Nodup := by
  obtain ⟨hs, xs, o, es, ep, h1, h2, h3, h4, h5, h6⟩ := R
  rw [← h6, List.map_map]
  exact h5
/-- it is no code object -/
theorem heap_of (o : Obj) (hf : o.isFreed = false) : ∀ n : Nat, ∃ h : Heap, h.objs.size = n ∧ ∀ b, b < n → h.get? b = some o := fun n => by
  induction n with
  | zero => exact ⟨{}, rfl, fun b hb => absurd hb (Nat.not_lt_zero _)⟩
  | succ n ih =>
    obtain ⟨h, h1, h2⟩ := ih
    refine ⟨h.push o, by rw [Heap.size_push, h1], fun b hb => ?_⟩
    by_cases e : b = n
    · rw [e, ← h1]
      exact Heap.get?_push_size _ hf
    · exact Heap.get?_push_of_some _ (h2 b (by omega))
theorem dto_nc {a c : Addr} {L : List (Addr × List Int)} {q : Str} : DTO a L ≠ LamX.CodeO c q := fun z => by
  unfold DTO LamX.CodeO at z
  injection z with z
  obtain ⟨h, h1, h2⟩ := heap_of { cls := .none, data := .fields #[.none, .str q 0] } rfl (max a c + 1)
  have e := congrFun z h
  have hc : ∃ (oc : Obj) (vs : Array Value) (t : Tok), h.get? c = some oc ∧ oc.data = .fields vs ∧ vs[1]? = some (.str q t) := ⟨_, _, 0, h2 c (by omega), rfl, rfl⟩
  rw [← e] at hc
  obtain ⟨_, xs, o, es, ep, ho, _, hd, _⟩ := (show DT0 h a L from hc)
  rw [h2 a (by omega)] at ho
  cases ho
  cases hd
/-- what is there behind a store -/
def putL (L : List (Addr × List Int)) (b : Addr) (k : List Int) : List (Addr × List Int) := if k ∈ L.map (·.2) then L else L ++ [(b, k)]
theorem atKey_mem {xs : List (List Int × Addr × Value)} {k : List Int} : (atKey xs k).isSome = decide (k ∈ xs.map (·.1)) := by
  unfold atKey
  rw [Option.isSome_map]
  by_cases h : k ∈ xs.map (·.1)
  · rw [decide_eq_true h, List.find?_isSome]
    obtain ⟨x, hx, e⟩ := List.mem_map.mp h
    exact ⟨x, hx, decide_eq_true e⟩
  · rw [decide_eq_false h]
    have : List.find? (fun x => decide (x.1 = k)) xs = none := List.find?_eq_none.mpr fun x hx z => h (by
      have e := of_decide_eq_true z
      rw [← e]
      exact List.mem_map_of_mem hx)
    rw [this]; rfl
theorem stored_putL {xs : List (List Int × Addr × Value)} {k : List Int} {b : Addr} {v : Value} : (storedH xs k b v).map (fun x => (x.2.1, x.1)) = putL (xs.map fun x => (x.2.1, x.1)) b k := by
  unfold storedH putL
  rw [atKey_mem, List.map_map]
  have e : (List.map ((fun x => x.2) ∘ fun x : List Int × Addr × Value => (x.2.1, x.1)) xs) = xs.map (·.1) := rfl
  rw [e]
  by_cases h : k ∈ xs.map (·.1)
  · rw [if_pos (decide_eq_true h), if_pos h, List.map_map]
    apply List.map_congr_left
    intro x _
    show ((putAt k v x).2.1, (putAt k v x).1) = _
    unfold putAt
    split <;> rfl
  · rw [if_neg (by simpa using h), if_neg h, List.map_append]
    rfl
section
variable {X : Cx}
def tDNewO : TE := fun _ H Q => ∀ p, H p = none → Q (.ref p) (upd H p (DTO p []))
theorem pe_dnewO {pos : Pos} : PE X (.Dict [] [] pos) tDNewO := ⟨fun pins s σ H Q I h =>
  wpAny_Dict_empty ⟨.ref s.heap.objs.size, _, I.laid (a := s.heap.objs.size) (o := DTO s.heap.objs.size []) (t' := s.toks) (fun _ _ q => Heap.get?_push_of_some _ q) (Nat.le_refl _)
    (dto_new ⟨beq_eq_false_iff_ne.mpr (Ne.symm (Nat.ne_of_lt I.big)), [], _, #[], 0, Heap.get?_push_size _ rfl, ⟨rfl, rfl, rfl⟩, rfl, rfl, List.nodup_nil, rfl⟩), rfl, h _ (I.hok.fresh (Nat.le_refl _))⟩⟩
/-- d[k] = v -/
def sDPutO (K : PySem.W.Frag) (td ty tv : TE) : TS := fun D σ H => tv σ H fun v H1 => td σ H1 fun x H2 => ty σ H2 fun y H3 => ∃ (a : Addr) (L : List (Addr × List Int)) (b : Addr) (k : List Int), x = .ref a ∧ y = .ref b ∧ H3 a = some (DTO a L) ∧
  (∀ p ∈ L, SqT K H3 p.1 (p.2.map V.int)) ∧ SqT K H3 b (k.map V.int) ∧ L.length ≤ 1000 ∧ D.nx σ (upd H3 a (DTO a (putL L b k)))
theorem ps_dputO {o i value : Expr} {td ty tv : TE} {pos pos' : Pos} (hu : X.A.units + 1 < cLine) (ho : PE X o td) (hi : PE X i ty) (hv : PE X value tv) (hs : swapsWith value (some (.Subscript o i pos')) pos.line X.env = pure false) :
    PS X (.Assign [.Subscript o i pos'] value pos) (sDPutO X.K td ty tv) := by
  refine ⟨fun pins s σ H D I h => ?_⟩
  refine wpAny_Assign_Subscript (thn (hv.run pins s σ H _ I h) fun r s1 ⟨v, H1, I1, rv, q1⟩ => thn (ho.run pins s1 σ H1 _ I1 q1) fun u s2 ⟨x, H2, I2, rx, q2⟩ => thn (hi.run pins s2 σ H2 _ I2 q2) fun iv s3 ⟨y, H3, I3, ry, a, L, b, k, ex, ey, hL, hk, hb, hl, q3⟩ => ?_) hs
  subst ex ey
  obtain rfl : u = Value.ref a := rx
  obtain rfl : iv = Value.ref b := ry
  obtain ⟨hsys, xs, dd, e⟩ := (show DT0 s3.heap a L from (I3.hok a _ hL).1).full fun p hp => I3.isT (hk p hp)
  have hz : xs.length ≤ sizeLine := by
    have q := congrArg List.length e
    rw [List.length_map] at q
    rw [q, sizeLine_eq]; omega
  refine wpAny_setItem_heap (hsz := hz) (tupleKind_room_in1 hu) (I3.isT hb) dd fun h' dd' sb => ?_
  have R := DT0.of hsys dd'
  rw [stored_putL, e] at R
  have ⟨_, _, q, _, _, hq, _⟩ := R
  exact ⟨σ, _, d_write I3 (by rw [hL]; exact True.intro) sb ⟨q, hq⟩ (dto_new R), q3⟩
/-- len(d) -/
def rLenO (K : PySem.W.Frag) : List V → Hp → VK → Prop := fun xs H Q => ∃ (a : Addr) (L : List (Addr × List Int)), xs = [.ref a] ∧ H a = some (DTO a L) ∧ (∀ p ∈ L, SqT K H p.1 (p.2.map V.int)) ∧ L.length ≤ 1000 ∧ Q (.int ((L.length : Nat) : Int)) H
theorem cr_lenO : CallR X (.builtin "len") (rLenO X.K) := by
  intro pins s σ H xs us Q I r h
  obtain ⟨a, L, rfl, hL, hk, hl, q⟩ := h
  obtain ⟨u, rfl, rx⟩ := vals1 r
  obtain rfl : u = .ref a := rx
  obtain ⟨hsys, xs, dd, e⟩ := (show DT0 s.heap a L from (I.hok a _ hL).1).full fun p hp => I.isT (hk p hp)
  have hz : L.length = xs.length := by rw [← e, List.length_map]
  refine call_len_dictH hsys dd (by rw [← hz]; omega) ?_
  rw [← hz]
  exact ⟨.int _, H, I.tok _, ⟨_, rfl⟩, q⟩
theorem perm_pull {α β : Type} (f : α → β) : ∀ {l1 l2 : List β}, l1.Perm l2 → ∀ L : List α, l2 = L.map f → ∃ L' : List α, l1 = L'.map f ∧ L'.Perm L := by
  intro l1 l2 h
  induction h with
  | nil =>
    intro L e
    cases L with
    | nil => exact ⟨[], rfl, .refl _⟩
    | cons _ _ => cases e
  | cons x _ ih =>
    intro L e
    cases L with
    | nil => cases e
    | cons y L =>
      rw [List.map_cons] at e
      injection e with e1 e2
      obtain ⟨L', a, b⟩ := ih L e2
      exact ⟨y :: L', by rw [List.map_cons, e1, a], b.cons _⟩
  | swap x y l =>
    intro L e
    cases L with
    | nil => cases e
    | cons a L =>
      cases L with
      | nil => cases e
      | cons b L =>
        rw [List.map_cons, List.map_cons] at e
        injection e with e1 e2
        injection e2 with e2 e3
        exact ⟨b :: a :: L, by rw [List.map_cons, List.map_cons, e1, e2, e3], .swap _ _ _⟩
  | trans _ _ i1 i2 =>
    intro L e
    obtain ⟨L1, a, b⟩ := i2 L e
    obtain ⟨L2, c, d⟩ := i1 L1 a
    exact ⟨L2, c, d.trans b⟩
/-- sorted(d) -/
def rSortedO (K : PySem.W.Frag) : List V → Hp → VK → Prop := fun vs H Q => ∃ (a : Addr) (L : List (Addr × List Int)) (d : Nat) (B : Int), vs = [V.ref a] ∧ H a = some (DTO a L) ∧ (∀ p ∈ L, SqT K H p.1 (p.2.map V.int)) ∧ L.length < 64 ∧ 1 ≤ d ∧
  (∀ p ∈ L, p.2.length = d ∧ TS.Bd B p.2) ∧
  ∀ (L' : List (Addr × List Int)) (p : Addr), L'.Perm L → (L'.map (·.2)).Nodup → L'.Pairwise (fun q r => TS.code B q.2 ≤ TS.code B r.2) → H p = none → Q (.ref p) (upd H p (.lst (L'.map fun q => V.ref q.1)))
theorem cr_sortedO (hc : X.calm = true) : CallR X (.builtin "sorted") (rSortedO X.K) := by
  intro pins s σ H vs us Q I r h
  obtain ⟨a, L, d, B, rfl, hL, hk, h64, hd, hB, q⟩ := h
  have R0 : DT0 s.heap a L := (I.hok a _ hL).1
  have nd := R0.nodup
  obtain ⟨hsys, xs, o, es, ep, h1, h2, h3, h4, h5, h6⟩ := R0
  rw [Vals.ref1 r]
  have hes : es.size = L.length := by rw [← Array.length_toList, h4, List.length_map, ← h6, List.length_map]
  have hraw : s.heap.DictRaw a es ep := ⟨o, h1, h2, h3⟩
  refine Calls.call_function_entry kind_sorted plain_sorted entry_sorted (args_sorted1 _) ?_
  unfold Builtin.«sorted»
  refine wpAny_bind (m := checkCount "sorted" 1 1 _) (wpAny_pure ?_)
  refine wpAny_bind (PySem.W.kdu_collect (A := X.A.in1) (PySem.KdlSrc.rawDict (es := es) (ep := ep) hsys) (I.ok.hd hc) hraw (by rw [hes, sizeLine_eq]; omega) fun h' tk acc hkp hacc => ?_)
  have hal : acc.toList = L.map fun p => Value.ref p.1 := by
    apply List.ext_getElem?
    intro j
    by_cases hj : j < acc.size
    · obtain ⟨hi, e⟩ := hacc.2 j acc[j] (Array.getElem?_eq_getElem hj)
      rw [Array.getElem?_toList, Array.getElem?_eq_getElem hj, e, List.getElem?_map, ← h6, List.getElem?_map]
      have e2 : es.toList[j]? = some es[j] := by rw [Array.getElem?_toList, Array.getElem?_eq_getElem hi]
      rw [h4, List.getElem?_map] at e2
      cases hx : xs[j]? with
      | none => rw [hx] at e2; cases e2
      | some x =>
        rw [hx] at e2
        have e3 : rowD x = es[j] := Option.some.inj e2
        rw [← e3]; rfl
    · rw [Array.getElem?_toList, Array.getElem?_eq_none (by omega), List.getElem?_eq_none]
      rw [List.length_map, ← hes, ← hacc.1]; omega
  generalize hvs : acc.toList = vs at hal
  have hvl : vs.length < 64 := by rw [hal, List.length_map]; exact h64
  have I1 : Inv X pins σ H { s with heap := h', toks := tk } := I.kept hkp
  refine wpAny_bind (wpAny_newList ?_ (by rw [sizeLine_eq]; omega))
  have hoL : (h'.push (seqObj "list" vs.toArray 0)).get? h'.objs.size = some (seqObj "list" vs.toArray 0) := Heap.get?_push_size _ rfl
  show wpAny _ _ _ _ _ { s with heap := h'.push (seqObj "list" vs.toArray 0), toks := tk }
  have tki : ∀ p ∈ L, TS.TupInts (h'.push (seqObj "list" vs.toArray 0)) (.ref p.1) p.2 := fun p hp => tupInts_of (P := X.prog) (w := X.w) (isT_keep (I.isT (hk p hp)) fun b u e => Heap.get?_push_of_some _ (hkp b u e))
  have x : TS.TupsOk (h'.push (seqObj "list" vs.toArray 0)) d B vs := fun v hv => by
    rw [hal] at hv
    obtain ⟨p, hp, e⟩ := List.mem_map.mp hv
    rw [← e]
    exact ⟨p.2, tki p hp, (hB p hp).1, (hB p hp).2⟩
  refine wpAny_bind (wpAny_holding (TS.call_sort_tups (s := { s with heap := h'.push (seqObj "list" vs.toArray 0), toks := tk }) hoL hvl hd x fun out a1 a2 => ?_))
  obtain ⟨c, hcp⟩ := sortedHeap_at (vs := vs) (out := out) hoL
  obtain ⟨L', e', pm⟩ := perm_pull (fun p : Addr × List Int => Value.ref p.1) a1 L hal
  have pw : L'.Pairwise (fun q r => TS.code B q.2 ≤ TS.code B r.2) := by
    rw [e'] at a2
    refine List.Pairwise.imp_of_mem (fun {q r} hq hr hle => ?_) (List.pairwise_map.mp a2)
    have f1 : TS.intsOf (h'.push (seqObj "list" vs.toArray 0)) (.ref q.1) = q.2 := (tki q (pm.mem_iff.mp hq)).ints
    have f2 : TS.intsOf (h'.push (seqObj "list" vs.toArray 0)) (.ref r.1) = r.2 := (tki r (pm.mem_iff.mp hr)).ints
    rw [← f1, ← f2]
    exact hle
  have hlen : (L'.map fun q => V.ref q.1).length ≤ sizeLine := by rw [List.length_map, pm.length_eq, sizeLine_eq]; omega
  have hn : H h'.objs.size = none := I1.hok.fresh (Nat.le_refl _)
  have hv : Vals (L'.map fun q => V.ref q.1) out.toList := by rw [e']; exact vals_of_refs L'
  refine wpAny_pure ⟨_, rfl, .ref h'.objs.size, upd H h'.objs.size (.lst (L'.map fun q => V.ref q.1)), I1.laid (t' := tk) (fun b u e => ?_) (Nat.le_refl _) ⟨hlen, out.toList, c, hv, by rw [Array.toArray_toList]; exact hcp⟩, rfl, q L' _ pm ((pm.map (·.2)).nodup_iff.mpr nd) pw hn⟩
  have hlt : b < h'.objs.size := Heap.lt_size e
  rw [sortedHeap_old (Nat.ne_of_lt hlt) (by rw [size_push']; exact Nat.lt_succ_of_lt hlt)]
  exact Heap.get?_push_of_some _ e
end
end Rf
/-! Rf1: data in the abstract heap; the operations answer as the evaluator says. -/
namespace Rf
open PySem PySem.Spec PyProof.Rows L2

/-! ### the relation -/
/-- a list of the module's own objects -/
def SqLK (K : PySem.W.Frag) (a : Addr) (xs : List V) : Prop :=
  ∃ (o : Obj) (its : Array Value) (n : Nat), K.lookup a = some o ∧ o.cls = .type "list" ∧ o.dict = none ∧ o.data = .seq its n ∧ its.size ≤ sizeLine ∧ Vals xs its.toList
/-- a tuple: tracked, or of the module's own objects -/
def TupAt (K : PySem.W.Frag) (H : Hp) (a : Addr) (xs : List V) : Prop := H a = some (.tup xs) ∨
  ∃ (o : Obj) (its : Array Value) (n : Nat), K.lookup a = some o ∧ o.cls = .type "tuple" ∧ o.data = .seq its n ∧ its.size ≤ sizeLine ∧ Vals xs its.toList
theorem TupAt.sq {K : PySem.W.Frag} {H : Hp} {a : Addr} {xs : List V} (h : TupAt K H a xs) : SqT K H a xs := h.elim (fun h => .inl (.inl h)) .inr
mutual
/-- the value v is the data d; no list at an address in O is met -/
inductive Dv (K : PySem.W.Frag) (H : Hp) (O : Addr → Prop) : V → PyData → Prop
  | non : Dv K H O .non .none
  | bl (b : Bool) : Dv K H O (.bl b) (.bool b)
  | int (i : Int) : Dv K H O (.int i) (.int i)
  | str (x : Str) (h : PyData.strOk x = true) : Dv K H O (.str x) (.str x)
  | lst {a : Addr} {xs : List V} {ds : List PyData} : ¬ O a → H a = some (.lst xs) → DvAll K H O xs ds → Dv K H O (.ref a) (.list ds)
  | tup {a : Addr} {xs : List V} {ds : List PyData} : TupAt K H a xs → DvAll K H O xs ds → Dv K H O (.ref a) (.tuple ds)
inductive DvAll (K : PySem.W.Frag) (H : Hp) (O : Addr → Prop) : List V → List PyData → Prop
  | nil : DvAll K H O [] []
  | cons {v : V} {vs : List V} {d : PyData} {ds : List PyData} : Dv K H O v d → DvAll K H O vs ds → DvAll K H O (v :: vs) (d :: ds)
end
/-- a list that is read alone: known to its object, or of the module's own -/
def RoAt (K : PySem.W.Frag) (H : Hp) (a : Addr) (xs : List V) : Prop := (∃ o, H a = some (.frz o (.lst xs))) ∨ SqLK K a xs
theorem RoAt.sq {K : PySem.W.Frag} {H : Hp} {a : Addr} {xs : List V} (h : RoAt K H a xs) : SqL K H a xs := h.elim (fun h => .inl (.inr h)) .inr
/-- .. or the script -/
inductive DvT (K : PySem.W.Frag) (H : Hp) (O : Addr → Prop) : V → PyData → Prop
  | of {v : V} {d : PyData} : Dv K H O v d → DvT K H O v d
  | ro {a : Addr} {xs : List V} {ds : List PyData} : Rd H a (.lst xs) → ¬ O a → DvAll K H O xs ds → DvT K H O (.ref a) (ro ds)
  | roK {a : Addr} {xs : List V} {ds : List PyData} : SqLK K a xs → DvAll K H O xs ds → DvT K H O (.ref a) (ro ds)
inductive DvTs (K : PySem.W.Frag) (H : Hp) (O : Addr → Prop) : List V → List PyData → Prop
  | nil : DvTs K H O [] []
  | cons {v : V} {vs : List V} {d : PyData} {ds : List PyData} : DvT K H O v d → DvTs K H O vs ds → DvTs K H O (v :: vs) (d :: ds)
/-- .. the list itself may stand at an address in O -/
inductive Dv1 (K : PySem.W.Frag) (H : Hp) (O : Addr → Prop) : V → PyData → Prop
  | of {v : V} {d : PyData} : DvT K H O v d → Dv1 K H O v d
  | own {a : Addr} {xs : List V} {ds : List PyData} : H a = some (.lst xs) → DvAll K H O xs ds → Dv1 K H O (.ref a) (.list ds)
  | dct {a : Addr} {L : List (Addr × List Int)} : H a = some (DTO a L) → (∀ q ∈ L, TupAt K H q.1 (q.2.map V.int)) → Dv1 K H O (.ref a) (dctD (L.map (·.2)))

/-- nothing but a table stands there -/
def Bare (H : Hp) (b : Addr) : Prop := ∀ o, H b = some o → ∃ ps, o = .tbl ps
theorem Bare.of {H : Hp} {b : Addr} (h : H b = none) : Bare H b := fun o e => by rw [h] at e; cases e
/-- what an owner's change leaves -/
def Evo (H : Hp) (O : Addr → Prop) (H' : Hp) (O' : Addr → Prop) : Prop :=
  (∀ b o, H b = some o → (∀ ps, o ≠ .tbl ps) → (O b → ∃ xs, o = .tup xs) → H' b = some o) ∧ ∀ b, O' b → O b ∨ Bare H b
theorem Evo.refl (H : Hp) (O : Addr → Prop) : Evo H O H O := ⟨fun _ _ h _ _ => h, fun _ h => .inl h⟩
theorem Evo.trans {H H1 H2 : Hp} {O O1 O2 : Addr → Prop} (a : Evo H O H1 O1) (b : Evo H1 O1 H2 O2) : Evo H O H2 O2 := by
  refine ⟨fun c o h n t => b.1 c o (a.1 c o h n t) n fun o1 => ?_, fun c h => ?_⟩
  · rcases a.2 c o1 with z | z
    · exact t z
    · obtain ⟨ps, e⟩ := z o h
      exact absurd e (n ps)
  · rcases b.2 c h with z | z
    · exact a.2 c z
    · by_cases hO : O c
      · exact .inl hO
      · refine .inr fun o q => ?_
        by_cases ht : ∃ ps, o = .tbl ps
        · exact ht
        · exact z o (a.1 c o q (fun ps e => ht ⟨ps, e⟩) fun w => absurd w hO)
theorem Evo.of_ext {H H' : Hp} (O : Addr → Prop) (h : LamX.ExtN H H') : Evo H O H' O := ⟨fun b o e n _ => h b o e n, fun _ z => .inl z⟩
theorem Evo.of_same {H H' : Hp} (O : Addr → Prop) (h : Same H H') : Evo H O H' O := ⟨fun b o e _ _ => h b o e, fun _ z => .inl z⟩

section
variable {K : PySem.W.Frag} {H H' : Hp} {O O' : Addr → Prop}
theorem Evo.at {a : Addr} {o : HO} (e : Evo H O H' O') (n : ¬ O a) (h : H a = some o) (nt : ∀ ps, o ≠ .tbl ps) : H' a = some o ∧ ¬ O' a := by
  refine ⟨e.1 a o h nt fun w => absurd w n, fun w => ?_⟩
  rcases e.2 a w with z | z
  · exact n z
  · obtain ⟨ps, r⟩ := z o h
    exact nt ps r
theorem TupAt.evo {a : Addr} {xs : List V} (e : Evo H O H' O') (h : TupAt K H a xs) : TupAt K H' a xs := by
  rcases h with h | h
  · exact .inl (e.1 a _ h (fun ps z => nomatch z) fun _ => ⟨xs, rfl⟩)
  · exact .inr h
mutual
theorem Dv.evo (e : Evo H O H' O') : ∀ {v : V} {d : PyData}, Dv K H O v d → Dv K H' O' v d
  | _, _, .non => .non
  | _, _, .bl b => .bl b
  | _, _, .int i => .int i
  | _, _, .str x h => .str x h
  | _, _, .lst n r a => let q := e.at n r (fun ps z => nomatch z); .lst q.2 q.1 (DvAll.evo e a)
  | _, _, .tup r a => .tup (r.evo e) (DvAll.evo e a)
theorem DvAll.evo (e : Evo H O H' O') : ∀ {vs : List V} {ds : List PyData}, DvAll K H O vs ds → DvAll K H' O' vs ds
  | _, _, .nil => .nil
  | _, _, .cons h t => .cons (Dv.evo e h) (DvAll.evo e t)
end
mutual
/-- fewer owners -/
theorem Dv.less (e : ∀ a, O' a → O a) : ∀ {v : V} {d : PyData}, Dv K H O v d → Dv K H O' v d
  | _, _, .non => .non
  | _, _, .bl b => .bl b
  | _, _, .int i => .int i
  | _, _, .str x h => .str x h
  | _, _, .lst n r a => .lst (fun z => n (e _ z)) r (DvAll.less e a)
  | _, _, .tup r a => .tup r (DvAll.less e a)
theorem DvAll.less (e : ∀ a, O' a → O a) : ∀ {vs : List V} {ds : List PyData}, DvAll K H O vs ds → DvAll K H O' vs ds
  | _, _, .nil => .nil
  | _, _, .cons h t => .cons (Dv.less e h) (DvAll.less e t)
end
/-! ### lists of data -/
theorem DvAll.length : ∀ {vs : List V} {ds : List PyData}, DvAll K H O vs ds → vs.length = ds.length
  | _, _, .nil => rfl
  | _, _, .cons _ t => congrArg (· + 1) (DvAll.length t)
theorem DvAll.append : ∀ {vs ws : List V} {ds es : List PyData}, DvAll K H O vs ds → DvAll K H O ws es → DvAll K H O (vs ++ ws) (ds ++ es)
  | _, _, _, _, .nil, q => q
  | _, _, _, _, .cons h t, q => .cons h (DvAll.append t q)
theorem DvAll.take : ∀ {vs : List V} {ds : List PyData} (n : Nat), DvAll K H O vs ds → DvAll K H O (vs.take n) (ds.take n)
  | _, _, 0, _ => .nil
  | _, _, _ + 1, .nil => .nil
  | _, _, n + 1, .cons h t => .cons h (DvAll.take n t)
theorem DvAll.drop : ∀ {vs : List V} {ds : List PyData} (n : Nat), DvAll K H O vs ds → DvAll K H O (vs.drop n) (ds.drop n)
  | _, _, 0, h => h
  | _, _, _ + 1, .nil => .nil
  | _, _, n + 1, .cons _ t => DvAll.drop n t
theorem DvAll.rev : ∀ {vs : List V} {ds : List PyData}, DvAll K H O vs ds → DvAll K H O vs.reverse ds.reverse
  | _, _, .nil => .nil
  | _, _, .cons h t => by
    rw [List.reverse_cons, List.reverse_cons]
    exact DvAll.append (DvAll.rev t) (.cons h .nil)
theorem DvAll.get : ∀ {vs : List V} {ds : List PyData} {i : Nat} {d : PyData}, DvAll K H O vs ds → ds[i]? = some d → ∃ v, vs[i]? = some v ∧ Dv K H O v d
  | _, _, _, _, .nil, e => by simp at e
  | _, _, 0, _, .cons h _, e => by simp at e; subst e; exact ⟨_, rfl, h⟩
  | _, _, i + 1, d, .cons _ t, e => by
    obtain ⟨v, h1, h2⟩ := DvAll.get (i := i) (d := d) t (by simpa using e)
    exact ⟨v, by simpa using h1, h2⟩
theorem DvAll.get' : ∀ {vs : List V} {ds : List PyData} {i : Nat} {v : V}, DvAll K H O vs ds → vs[i]? = some v → ∃ d, ds[i]? = some d ∧ Dv K H O v d
  | _, _, _, _, .nil, e => by simp at e
  | _, _, 0, _, .cons h _, e => by simp at e; subst e; exact ⟨_, rfl, h⟩
  | _, _, i + 1, v, .cons _ t, e => by
    obtain ⟨d, h1, h2⟩ := DvAll.get' (i := i) (v := v) t (by simpa using e)
    exact ⟨d, by simpa using h1, h2⟩
theorem DvAll.flat : ∀ {n : Nat} {vs : List V} {ds : List PyData}, DvAll K H O vs ds → DvAll K H O (repL vs n) (repL ds n)
  | 0, _, _, _ => .nil
  | n + 1, vs, ds, h => by
    unfold repL
    rw [List.replicate_succ, List.replicate_succ, List.flatten_cons, List.flatten_cons]
    exact h.append (DvAll.flat h)
theorem DvAll.ints : ∀ {vs : List V} {ds : List PyData} {ns : List Int}, DvAll K H O vs ds → intsOf ds = some ns → vs = ns.map V.int
  | _, _, ns, .nil, e => by
    have e' : ([] : List Int) = ns := Option.some.inj e
    subst e'; rfl
  | _, _, ns, .cons (d := d) (ds := ds) h t, e => by
    cases h with
    | int i =>
      cases q : intsOf ds with
      | none => rw [intsOf, q] at e; cases e
      | some ms =>
        rw [intsOf, q] at e
        have e' : i :: ms = ns := Option.some.inj e
        subst e'
        rw [DvAll.ints t q]; rfl
    | _ => cases e
theorem DvAll.bools : ∀ {vs : List V} {ds : List PyData} {bs : List Bool}, DvAll K H O vs ds → boolsOf ds = some bs → vs = bs.map V.bl
  | _, _, bs, .nil, e => by
    have e' : ([] : List Bool) = bs := Option.some.inj e
    subst e'; rfl
  | _, _, bs, .cons (d := d) (ds := ds) h t, e => by
    cases h with
    | bl b =>
      cases q : boolsOf ds with
      | none => rw [boolsOf, q] at e; cases e
      | some ms =>
        rw [boolsOf, q] at e
        have e' : b :: ms = bs := Option.some.inj e
        subst e'
        rw [DvAll.bools t q]; rfl
    | _ => cases e
/-! ### reading it -/
theorem Dv1.dv {v : V} {d : PyData} (h : Dv1 K H O v d) (n : notDict d = true) : Dv K H O v d ∨ ∃ a xs ds, v = .ref a ∧ d = .list ds ∧ H a = some (.lst xs) ∧ DvAll K H O xs ds := by
  cases h with
  | of h =>
    cases h with
    | of h => exact .inl h
    | ro _ _ _ => cases n
    | roK _ _ => cases n
  | own h a => exact .inr ⟨_, _, _, rfl, rfl, h, a⟩
  | dct h a => cases n
theorem DvT.dv {v : V} {d : PyData} (h : DvT K H O v d) (n : notDict d = true) : Dv K H O v d := by
  cases h with
  | of h => exact h
  | ro _ _ _ => cases n
  | roK _ _ => cases n
theorem DvTs.dv : ∀ {vs : List V} {ds : List PyData}, DvTs K H O vs ds → ds.all notDict = true → DvAll K H O vs ds
  | _, _, .nil, _ => .nil
  | _, _, .cons h t, n => by
    rw [List.all_cons, Bool.and_eq_true] at n
    exact .cons (h.dv n.1) (DvTs.dv t n.2)
theorem DvTs.length : ∀ {vs : List V} {ds : List PyData}, DvTs K H O vs ds → vs.length = ds.length
  | _, _, .nil => rfl
  | _, _, .cons _ t => congrArg (· + 1) (DvTs.length t)
theorem Dv1.int {v : V} {i : Int} (h : Dv1 K H O v (.int i)) : v = .int i := by
  rcases h.dv rfl with h | ⟨_, _, _, _, e, _⟩
  · cases h; rfl
  · cases e
theorem Dv1.bl {v : V} {b : Bool} (h : Dv1 K H O v (.bool b)) : v = .bl b := by
  rcases h.dv rfl with h | ⟨_, _, _, _, e, _⟩
  · cases h; rfl
  · cases e
theorem Dv1.non {v : V} (h : Dv1 K H O v .none) : v = .non := by
  rcases h.dv rfl with h | ⟨_, _, _, _, e, _⟩
  · cases h; rfl
  · cases e
theorem Dv1.str {v : V} {x : Str} (h : Dv1 K H O v (.str x)) : v = .str x ∧ PyData.strOk x = true := by
  rcases h.dv rfl with h | ⟨_, _, _, _, e, _⟩
  · cases h; exact ⟨rfl, by assumption⟩
  · cases e
theorem Dv1.list {v : V} {ds : List PyData} (h : Dv1 K H O v (.list ds)) : ∃ a xs, v = .ref a ∧ H a = some (.lst xs) ∧ DvAll K H O xs ds := by
  rcases h.dv rfl with h | ⟨_, _, _, e1, e, h1, h2⟩
  · cases h with
    | lst n r a => exact ⟨_, _, rfl, r, a⟩
  · cases e
    exact ⟨_, _, e1, h1, h2⟩
theorem Dv1.tuple {v : V} {ds : List PyData} (h : Dv1 K H O v (.tuple ds)) : ∃ a xs, v = .ref a ∧ TupAt K H a xs ∧ DvAll K H O xs ds := by
  rcases h.dv rfl with h | ⟨_, _, _, _, e, _⟩
  · cases h with | tup r a => exact ⟨_, _, rfl, r, a⟩
  · cases e
theorem Dv1.ro {v : V} {ds : List PyData} (h : Dv1 K H O v (.dict [(.none, .list ds)])) : ∃ a xs, v = .ref a ∧ SqL K H a xs ∧ DvAll K H O xs ds := by
  cases h with
  | of h =>
    cases h with
    | of h => cases h
    | ro e n a => exact ⟨_, _, rfl, .inl e, a⟩
    | roK r a => exact ⟨_, _, rfl, .inr r, a⟩
theorem dctD_inj {x : List PyData} {ks : List (List Int)} (h : dctD ks = .dict [(.bool true, .list x)]) : x = ks.map tupD := by
  unfold dctD at h
  injection h with h
  injection h with h _
  injection h with _ h
  injection h with h
  exact h.symm
theorem Dv1.dctO {v : V} {x : List PyData} (h : Dv1 K H O v (.dict [(.bool true, .list x)])) : ∃ (a : Addr) (L : List (Addr × List Int)), v = .ref a ∧ H a = some (DTO a L) ∧ x = (L.map (·.2)).map tupD ∧ ∀ q ∈ L, TupAt K H q.1 (q.2.map V.int) := by
  generalize e : PyData.dict [(.bool true, .list x)] = d at h
  cases h with
  | of h =>
    cases h with
    | of h => cases h <;> cases e
    | ro _ _ _ => unfold Rf.ro at e; injection e with e; injection e with e _; injection e with e _; cases e
    | roK _ _ => unfold Rf.ro at e; injection e with e; injection e with e _; injection e with e _; cases e
  | own h a => cases e
  | dct h a => exact ⟨_, _, rfl, h, dctD_inj e.symm, a⟩
mutual
theorem Dv.dp : ∀ {v : V} {d : PyData}, Dv K H O v d → Dp K H v d
  | _, _, .non => .non
  | _, _, .bl b => .bl b
  | _, _, .int i => .int i
  | _, _, .str x _ => .str x
  | _, _, .lst _ r a => .lst (.inl (.inl r)) (DvAll.dp a)
  | _, _, .tup r a => .tup r.sq (DvAll.dp a)
theorem DvAll.dp : ∀ {vs : List V} {ds : List PyData}, DvAll K H O vs ds → DpAll K H vs ds
  | _, _, .nil => .nil
  | _, _, .cons h t => .cons (Dv.dp h) (DvAll.dp t)
end
theorem Dv1.dp {v : V} {d : PyData} (h : Dv1 K H O v d) (n : notDict d = true) : Dp K H v d := by
  rcases h.dv n with h | ⟨_, _, _, rfl, rfl, h1, h2⟩
  · exact h.dp
  · exact .lst (.inl (.inl h1)) h2.dp
mutual
theorem Dv.lay : ∀ {v : V} {d : PyData}, Dv K H O v d → d.canLay0 = true
  | _, _, .non => rfl
  | _, _, .bl b => rfl
  | _, _, .int i => rfl
  | _, _, .str x h => h
  | _, _, .lst _ _ a => DvAll.lay a
  | _, _, .tup _ a => DvAll.lay a
theorem DvAll.lay : ∀ {vs : List V} {ds : List PyData}, DvAll K H O vs ds → PyData.canLayAll0 ds = true
  | _, _, .nil => rfl
  | _, _, .cons h t => by
    show (_ && _) = true
    rw [Dv.lay h, DvAll.lay t]; rfl
end
theorem Dv1.lay {v : V} {d : PyData} (h : Dv1 K H O v d) (n : notDict d = true) : d.canLay0 = true := by
  rcases h.dv n with h | ⟨_, _, _, rfl, rfl, h1, h2⟩
  · exact h.lay
  · exact h2.lay
theorem DvT.evo {v : V} {d : PyData} (e : Evo H O H' O') (h : DvT K H O v d) : DvT K H' O' v d := by
  cases h with
  | of h => exact .of (h.evo e)
  | ro r n a =>
    rcases r with r | ⟨o, r⟩
    · obtain ⟨h1, h2⟩ := e.at n r (fun ps z => nomatch z)
      exact .ro (.inl h1) h2 (a.evo e)
    · obtain ⟨h1, h2⟩ := e.at n r (fun ps z => nomatch z)
      exact .ro (.inr ⟨o, h1⟩) h2 (a.evo e)
  | roK r a => exact .roK r (a.evo e)
theorem DvTs.evo (e : Evo H O H' O') : ∀ {vs : List V} {ds : List PyData}, DvTs K H O vs ds → DvTs K H' O' vs ds
  | _, _, .nil => .nil
  | _, _, .cons h t => .cons (h.evo e) (DvTs.evo e t)
theorem DvT.less {v : V} {d : PyData} (e : ∀ a, O' a → O a) (h : DvT K H O v d) : DvT K H O' v d := by
  cases h with
  | of h => exact .of (h.less e)
  | ro r n a => exact .ro r (fun z => n (e _ z)) (a.less e)
  | roK r a => exact .roK r (a.less e)
theorem Dv1.evo {v : V} {d : PyData} (e : LamX.ExtN H H') (h : Dv1 K H O v d) : Dv1 K H' O v d := by
  cases h with
  | of h => exact .of (h.evo (Evo.of_ext O e))
  | own h a => exact .own (e _ _ h fun ps z => nomatch z) (a.evo (Evo.of_ext O e))
  | dct h a => exact .dct (e _ _ h dto_ne) fun q hq => (a q hq).evo (Evo.of_ext O e)
end
end Rf
/-! RfA: rules that the hand layer lacks: tuple * 0, tuple * 1, text * int, tuple[::-1]. -/
namespace Rf
open PySem PySem.Spec PyProof.Rows L2
theorem tuple_mul1 (l : Addr) (items : Array Value) (n : Nat) (dd : Option Addr) (sl : Array (Option Value)) (x : Int) (u : Tok) (c0 : (decide (x < -(2 ^ 63)) || decide (x ≥ 2 ^ 63)) = false) (c1 : (items.isEmpty || x == 1) = true) :
    Meets (Builtin.«tuple.__mul__» ⟨[.ref l, .int x u], []⟩) (fun _ R s => s.heap.get? l = some { cls := .type "tuple", dict := dd, data := .seq items n, slots := sl } ∧ R (.ok (.ret (Value.ref l))) s) :=
  .of_wp fun prog w A R s h => by
    obtain ⟨hp, g, d, tk, os⟩ := s
    obtain ⟨hl, h⟩ := h
    have f1 := AutoSeq1.idx_int
    wp_walk using AutoSeq1.wpAny_loadPart' hl
    repeat (first
      | (refine wpAny_ite_false (decide_eq_false (by rw [c0]; exact Bool.false_ne_true)) ?_; wp_walk using AutoSeq1.wpAny_loadPart' hl)
      | (refine wpAny_ite_true (decide_eq_true (by rw [c1])) ?_; wp_walk using AutoSeq1.wpAny_loadPart' hl))
    exact ⟨_, rfl, h⟩
theorem tuple_mul0 (l : Addr) (items : Array Value) (n : Nat) (dd : Option Addr) (sl : Array (Option Value)) (x : Int) (u : Tok) (c0 : (decide (x < -(2 ^ 63)) || decide (x ≥ 2 ^ 63)) = false) (c1 : (items.isEmpty || x == 1) = false) (c2 : (decide (x ≤ 0) || items.isEmpty) = true) :
    Meets (Builtin.«tuple.__mul__» ⟨[.ref l, .int x u], []⟩) (fun _ R s => s.heap.get? l = some { cls := .type "tuple", dict := dd, data := .seq items n, slots := sl } ∧
      R (.ok (.ret (Value.ref s.heap.objs.size))) { s with heap := s.heap.push { cls := Value.type "tuple", data := Data.seq #[] }, toks := s.toks }) :=
  .of_wp fun prog w A R s h => by
    obtain ⟨hp, g, d, tk, os⟩ := s
    obtain ⟨hl, h⟩ := h
    have f1 := AutoSeq1.idx_int
    wp_walk using AutoSeq1.wpAny_loadPart' hl
    repeat (first
      | (refine wpAny_ite_false (decide_eq_false (by rw [c0]; exact Bool.false_ne_true)) ?_; wp_walk using AutoSeq1.wpAny_loadPart' hl)
      | (refine wpAny_ite_false (decide_eq_false (by rw [c1]; exact Bool.false_ne_true)) ?_; wp_walk using AutoSeq1.wpAny_loadPart' hl)
      | (refine wpAny_ite_true (decide_eq_true (by rw [c2])) ?_; wp_walk using AutoSeq1.wpAny_loadPart' hl))
    exact ⟨_, rfl, h⟩
section
variable {X : Cx}
/-- tuple * k, k up to 1000 -/
theorem op_repT01 : OpR X (binaryOp .Mult) (fun x y H Q => ∃ l k xs, x = .ref l ∧ y = .int k ∧ SqT X.K H l xs ∧ -1000 ≤ k ∧ k ≤ 1000 ∧ xs.length ≤ 1000 ∧ ((xs = [] ∨ k = 1) → Q (.ref l) H) ∧ (xs ≠ [] → k ≠ 1 → ∀ p, H p = none → Q (.ref p) (upd H p (.tup (List.replicate k.toNat xs).flatten)))) := by
  intro pins s σ H x y v u Q I rx ry h
  obtain ⟨l, k, xs, rfl, rfl, hT, h1, h2, hz, q1, q2⟩ := h
  by_cases big : xs ≠ [] ∧ 2 ≤ k
  · exact op_repT pins s σ H _ _ v u Q I rx ry ⟨l, k, xs, rfl, rfl, hT, big.1, big.2, h2, hz, q2 big.1 (by omega)⟩
  cases rx
  obtain ⟨t, rfl⟩ := ry
  obtain ⟨its, r, ⟨⟨cls, dd, data, sl⟩, ho, hc, n, hd⟩, hs⟩ := I.tuple hT
  simp only at hc hd
  subst hc hd
  have hle : its.length = xs.length := r.length.symm
  have c0 : (decide (k < -(2 ^ 63)) || decide (k ≥ 2 ^ 63)) = false := by
    rw [decide_eq_false (by omega), decide_eq_false (by omega)] <;> rfl
  by_cases c : xs = [] ∨ k = 1
  · have c1 : (its.toArray.isEmpty || k == 1) = true := by
      rcases c with c | c
      · subst c
        have : its = [] := List.eq_nil_of_length_eq_zero (by simpa using hle)
        subst this; rfl
      · subst c; simp
    refine wpAny_binaryOp_repeat_ref (T := "tuple") (U := "int") (by decide) ⟨_, ho, rfl⟩ (fun s' => typeIs_int s' k t) noFill_tuple_mul F.fills_int_mul F.slot_int_rmul repeat_tuple F.slot_int_index.lookup
      (call_meets F.slot_int_rmul (typeIs_int s k t) F.entry_int_rmul (F.args_int_rmul_2 _ _) (int_rmul_tuple k t l its.toArray n dd sl)
        ⟨ho, rfl, ⟨_, ho, rfl⟩, call_meets F.slot_tuple_mul ⟨_, ho, rfl⟩ F.entry_tuple_mul (F.args_tuple_mul_2 _ _) (tuple_mul1 l its.toArray n dd sl k t c0 c1) ⟨ho, ?_⟩⟩)
    exact ⟨.ref l, H, I, rfl, q1 c⟩
  · have hx : xs ≠ [] := fun e => c (.inl e)
    have hk : k ≠ 1 := fun e => c (.inr e)
    have hk0 : k ≤ 0 := by
      by_cases z : 2 ≤ k
      · exact absurd ⟨hx, z⟩ big
      · omega
    have hn : its ≠ [] := fun e => hx (by
      rw [e] at hle
      exact List.eq_nil_of_length_eq_zero hle.symm)
    have hi : its.toArray.isEmpty = false := by
      cases its with
      | nil => exact absurd rfl hn
      | cons a b => rfl
    have c1 : (its.toArray.isEmpty || k == 1) = false := by
      rw [hi, Bool.false_or]
      exact beq_eq_false_iff_ne.mpr hk
    have c2 : (decide (k ≤ 0) || its.toArray.isEmpty) = true := by
      rw [decide_eq_true hk0]; rfl
    have e0 : (List.replicate k.toNat xs).flatten = [] := by
      have : k.toNat = 0 := by omega
      rw [this]; rfl
    refine wpAny_binaryOp_repeat_ref (T := "tuple") (U := "int") (by decide) ⟨_, ho, rfl⟩ (fun s' => typeIs_int s' k t) noFill_tuple_mul F.fills_int_mul F.slot_int_rmul repeat_tuple F.slot_int_index.lookup
      (call_meets F.slot_int_rmul (typeIs_int s k t) F.entry_int_rmul (F.args_int_rmul_2 _ _) (int_rmul_tuple k t l its.toArray n dd sl)
        ⟨ho, rfl, ⟨_, ho, rfl⟩, call_meets F.slot_tuple_mul ⟨_, ho, rfl⟩ F.entry_tuple_mul (F.args_tuple_mul_2 _ _) (tuple_mul0 l its.toArray n dd sl k t c0 c1 c2) ⟨ho, ?_⟩⟩)
    refine ⟨.ref s.heap.objs.size, _, I.laid (t' := s.toks) (o := .tup []) (fun b ob q => Heap.get?_push_of_some _ q) (Nat.le_refl _) ?_, rfl, by rw [← e0]; exact q2 hx hk _ (I.hok.fresh (Nat.le_refl _))⟩
    exact ⟨Nat.zero_le _, _, .nil, IsTup.new _ _⟩
/-- text * k -/
theorem op_repS : OpR X (binaryOp .Mult) (fun x y H Q => ∃ (a : Str) (k : Int), x = .str a ∧ y = .int k ∧ -1000 ≤ k ∧ k ≤ 1000 ∧ a.length ≤ 1000 ∧ Q (.str ⟨((List.replicate k.toNat a.cps.toList).flatten).toArray⟩) H) := by
  intro pins s σ H x y v u Q I rx ry h
  obtain ⟨a, k, rfl, rfl, h1, h2, hz, q⟩ := h
  obtain ⟨t, rfl⟩ := rx
  obtain ⟨t2, rfl⟩ := ry
  have hlen : a.length = a.cps.size := rfl
  have hsl : sizeLine = 16777216 := sizeLine_eq
  have go : ∀ m : Nat, ∀ acc : Array Nat, (List.replicate m a.cps).foldl (· ++ ·) acc = acc ++ ((List.replicate m a.cps.toList).flatten).toArray := fun m => by
    induction m with
    | zero => intro acc; simp
    | succ m ih =>
      intro acc
      rw [List.replicate_succ, List.foldl_cons, ih, List.replicate_succ, List.flatten_cons]
      apply Array.ext'
      simp
  have fl : ∀ m : Nat, ((List.replicate m a.cps.toList).flatten).length = m * a.length := fun m => by
    induction m with
    | zero => simp
    | succ m ih => rw [List.replicate_succ, List.flatten_cons, List.length_append, ih, hlen]; simp [Nat.succ_mul]; omega
  have big : k.toNat * a.length ≤ 1000000 := by
    have : k.toNat * a.length ≤ 1000 * 1000 := Nat.mul_le_mul (by omega) hz
    omega
  refine P.mul_str (n := k) (x := a) (by rw [decide_eq_false (by omega), decide_eq_false (by omega)] <;> rfl) (fun k1 k2 => ?_) (fun k1 k2 => ?_) ?_
  · have hk : 1 ≤ k := by omega
    have : (1000 : Int) ≤ (2 ^ 63 - 1) / k := by
      rw [Int.le_ediv_iff_mul_le (by omega)]
      omega
    omega
  · unfold Builtin.Str.tooLong
    rw [hsl]
    exact decide_eq_false (by rw [Nat.mul_comm]; omega)
  · by_cases c1 : k < 1
    · rw [if_pos c1]
      have e0 : k.toNat = 0 := by omega
      rw [e0] at q
      exact ⟨by decide, .str _, H, I.tok _, ⟨_, rfl⟩, q⟩
    · rw [if_neg c1]
      by_cases c2 : (k == 1 || a.length == 0) = true
      · rw [if_pos c2]
        have e : (⟨((List.replicate k.toNat a.cps.toList).flatten).toArray⟩ : Str) = a := by
          rw [Bool.or_eq_true] at c2
          rcases c2 with c2 | c2
          · have : k = 1 := by simpa using c2
            subst this
            simp
          · have c3 : a.cps.size = 0 := by simpa [hlen] using c2
            have c4 : a.cps = #[] := Array.eq_empty_of_size_eq_zero c3
            have : a = ⟨#[]⟩ := by cases a; simp at c4; rw [c4]
            rw [this]
            simp
        rw [e] at q
        exact ⟨.str _, H, I, ⟨_, rfl⟩, q⟩
      · rw [if_neg c2]
        have e := go k.toNat #[]
        rw [Array.empty_append] at e
        rw [e]
        refine ⟨?_, .str _, H, I.tok _, ⟨_, rfl⟩, q⟩
        show ((List.replicate k.toNat a.cps.toList).flatten).toArray.size ≤ sizeLine
        rw [List.size_toArray, fl, hsl]
        omega
end
end Rf
