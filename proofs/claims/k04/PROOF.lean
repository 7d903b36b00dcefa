import PyProof.Rows.All
import Wide.All
import Wide.FinOn
import HandS.ForExc
import HandS.Comp
import HandS.TupAny
import HandS.Dict
import HandS.Gcd
import HandS.Wide
import HandS.Deep
import HandS.ExcIs
import HandS.Text
import HandS.IsInst
import HandS.TupLe
import HandS.TupMul
import HandS.Style
import HandS.SortRule
import HandS.SortInts
import HandS.More
import HandS.HotCalls
import HandS.WordsExc
import HandS.HeadHook4
import HandS.Head2
import HandS.Head3
import HandS.HeadEnd
import PySem.Challenge.RW_steadybodies_k04_gaps_and_stretches
set_option Elab.async false
set_option linter.all false
set_option maxRecDepth 100000
set_option maxHeartbeats 8000001
/-! the small language: data, stores, trees, their evaluation -/
namespace SB
open PySem PySem.Spec PyProof.Rows L2

/-- data: deep and pure but for ref (a place of the store) -/
inductive D where
  | non | bl (b : Bool) | int (i : Int) | str (s : Str) | tup (xs : List D) | fzl (xs : List D) | ref (n : Nat) | exc (c : Nat) | kt (ks : List Key)
  deriving Inhabited
/-- what stands at a place -/
inductive O where
  | lst (xs : List D) | dic (kvs : List (Key × D)) | dit (kvs : List (List Key × D)) | ins (C : Nat) (fs : List (Str × D))
  deriving Inhabited
abbrev Sto := List O
abbrev En := List (Option D)

inductive Op where | add | sub | mul | fdiv | mod | pow
inductive Cm where | eq | ne | lt | le | gt | ge | is | ns
/-- built-ins of values -/
inductive Bi where | len | abs | int | tuple | any | all | max | min | gcd | str | ord | sum | isInt | isBool | isTuple | isStr
/-- built-ins of a fresh list -/
inductive Bl where | tuple | any | all | len | sum
/-- methods of built-in types that leave the store -/
inductive Sm where | index | str | split | join | intT | fst | tmul
mutual
inductive E where
  | var (i : Nat) | cst (d : D) | bin (o : Op) (a b : E) | neg (a : E) | no (a : E) | cmp (o : Cm) (a b : E) | chn (o p : Cm) (a b c : E)
  | isN (neg : Bool) (a : E) | mem (neg : Bool) (a b : E) | and (a b : E) | or (a b : E) | ite (c a b : E) | tup (es : Es) | ix (a i : E) | sl (a : E) (lo hi : Eo)
  | call (f : Nat) (es : Es) | bi (b : Bi) (es : Es) | new (l : L) | bil (b : Bl) (l : L) | isE (c : Nat) (a : E) | app (a e : E) | rev (a : E)
  | dnew (t : Bool) | dget1 (o k : E) | dget (o k x : E) | dpop (o k : E) | dpop2 (o k x : E) | dput1 (k v : E)
  | fld (f : Str) (o : E) | prop (f : Str) (o : E) | make (C : Nat) (es : Es) | meth (m : Str) (o : E) (es : Es) | hot (f : Nat) (a : E) | sm (m : Sm) (es : Es) | idx (o a : E) | ktp (es : Es)
inductive Es where | nil | cons (e : E) (es : Es)
inductive Eo where | none | some (e : E)
/-- expressions whose value is a new list -/
inductive L where
  | disp (es : Es) | comp (elt : E) (t : Tg) (it : Src) (c : Eo) (own : List Nat) | cat (a b : L) | catEL (e : E) (l : L) | catLE (l : L) (e : E) | copy (e : E) | cut (e : E) (lo hi : Eo) | rep (e : E) (n : E) | srt (e : E) | srtL (l : L)
inductive Src where | val (e : E) | lst (l : L) | rg1 (a : E) | rg2 (a b : E)
inductive Tg where | nm (i : Nat) | tp (ts : Tgs) | sub (o i : E) | fld (o : E) (f : Str)
inductive Tgs where | nil | cons (t : Tg) (ts : Tgs)
end
mutual
inductive St where
  | asg (t : Tg) (e : E) | par (i j : Nat) (a b : E) | ex (e : E) | ret (e : E) | retN | ite (c : E) (a b : Ss) | forr (t : Tg) (it : Src) (b : Ss) | whl (c : E) (b : Ss)
  | raise (c : Nat) | pass | brk | cont | tryE (b : Ss) (c : Nat) (n : Option Nat) (h : Ss) | del (o i : E)
inductive Ss where | nil | cons (s : St) (ss : Ss)
end

/-! ### outcomes -/
inductive R (α : Type) where | ok (a : α) (S : Sto) | err (c : Nat) (S : Sto) | bad
inductive Fl where | nx (ρ : En) (S : Sto) | rt (d : D) (S : Sto) | bk (ρ : En) (S : Sto) | ct (ρ : En) (S : Sto) | er (c : Nat) (ρ : En) (S : Sto) | bad
def R.bind {α β : Type} (r : R α) (f : α → Sto → R β) : R β := match r with | .ok a S => f a S | .err c S => .err c S | .bad => .bad
@[simp] theorem R.bind_ok {α β : Type} {a : α} {S : Sto} {f : α → Sto → R β} : (R.ok a S).bind f = f a S := rfl
@[simp] theorem R.bind_err {α β : Type} {c : Nat} {S : Sto} {f : α → Sto → R β} : (R.err c S).bind f = .err c S := rfl
@[simp] theorem R.bind_bad {α β : Type} {f : α → Sto → R β} : (R.bad).bind f = .bad := rfl
/-- the same, going on as a statement -/
def R.flow {α : Type} (r : R α) (ρ : En) (f : α → Sto → Fl) : Fl := match r with | .ok a S => f a S | .err c S => .er c ρ S | .bad => .bad
@[simp] theorem R.flow_ok {α : Type} {a : α} {S : Sto} {ρ : En} {f : α → Sto → Fl} : (R.ok a S).flow ρ f = f a S := rfl
@[simp] theorem R.flow_err {α : Type} {c : Nat} {S : Sto} {ρ : En} {f : α → Sto → Fl} : (R.err c S).flow ρ f = .er c ρ S := rfl
@[simp] theorem R.flow_bad {α : Type} {ρ : En} {f : α → Sto → Fl} : (R.bad (α := α)).flow ρ f = .bad := rfl

/-! ### data as the library's data -/
def optAll {α : Type} : List (Option α) → Option (List α)
  | [] => some []
  | none :: _ => none
  | some x :: xs => match optAll xs with | some ys => some (x :: ys) | none => none
def toP (S : Sto) : Nat → D → Option PyData
  | 0, _ => none
  | _ + 1, .non => some .none
  | _ + 1, .bl b => some (.bool b)
  | _ + 1, .int i => some (.int i)
  | _ + 1, .str x => if PyData.strOk x then some (.str x) else none
  | n + 1, .tup xs => (optAll (xs.map (toP S n))).map .tuple
  | n + 1, .fzl xs => (optAll (xs.map (toP S n))).map .list
  | n + 1, .ref k => match S[k]? with | some (.lst xs) => (optAll (xs.map (toP S n))).map .list | _ => none
  | _ + 1, .exc _ => none
  | _ + 1, .kt _ => none
end SB

namespace SB
open PySem PySem.Spec PyProof.Rows L2
open Classical

structure Cfg where
  call : Nat → List D → Sto → R D
  sub : Nat → Nat → Option Bool
  w : Nat
  /-- one level deeper: classes made, properties -/
  call1 : Nat → List D → Sto → R D
  init : Nat → Option Nat
  meth : Nat → Str → Option Nat
  prop : Nat → Str → Option Nat
  hot : Nat → Option E
  /-- a field's name that no class attribute bears -/
  fok : Nat → Str → Bool

def cutD (xs : List D) (lo hi : Option Int) : List D := (xs.drop (HT.sIx xs.length 0 lo)).take (HT.sIx xs.length xs.length hi - HT.sIx xs.length 0 lo)
def D.flat : D → Bool | .non | .bl _ | .int _ | .str _ => true | _ => false
def mulOk (i j : Int) : Prop := i.natAbs.log2 + j.natAbs.log2 < 1000000
noncomputable def bop (o : Op) (x y : D) (S : Sto) : R D := match o, x, y with
  | .add, .int i, .int j => .ok (.int (i + j)) S
  | .add, .str a, .str b => if a.length + b.length ≤ sizeLine then .ok (.str (a ++ b)) S else .bad
  | .add, .tup a, .tup b => if a.length + b.length ≤ sizeLine then .ok (.tup (a ++ b)) S else .bad
  | .add, .ref m, .ref n => match S[m]?, S[n]? with
    | some (.lst a), some (.lst b) => if a.length + b.length ≤ sizeLine then .ok (.ref S.length) (S ++ [.lst (a ++ b)]) else .bad
    | _, _ => .bad
  | .sub, .int i, .int j => .ok (.int (i - j)) S
  | .mul, .int i, .int j => if mulOk i j then .ok (.int (i * j)) S else .bad
  | .fdiv, .int i, .int j => if 0 < j ∧ j.natAbs.log2 < 9000 then .ok (.int (i / j)) S else .bad
  | .mod, .int i, .int j => if 0 < j then .ok (.int (i % j)) S else .bad
  | .mul, .tup xs, .int k => if xs ≠ [] ∧ 0 ≤ k ∧ k ≤ 1100 ∧ xs.length ≤ 1000 then .ok (.tup (List.replicate k.toNat xs).flatten) S else .bad
  | .pow, .int i, .int j => if 0 ≤ j ∧ j ≤ 1000000 ∧ i.natAbs < 2 ^ 64 then .ok (.int (i ^ j.toNat)) S else .bad
  | _, _, _ => .bad
/-- ints alone -/
def intsD : List D → Option (List Int)
  | [] => some []
  | .int i :: xs => (intsD xs).map (i :: ·)
  | _ :: _ => none
def lexD (xs ys : List D) (S : Sto) : R D := match intsD xs, intsD ys with | some a, some b => .ok (.bl (HT.lexLt a b)) S | _, _ => .bad
/-- depth of the data that == goes through -/
def dep : Nat := 60
noncomputable def cmpD (o : Cm) (x y : D) (S : Sto) : R D := match o, x, y with
  | .lt, .int i, .int j => .ok (.bl (decide (i < j))) S
  | .lt, .tup xs, .tup ys => lexD xs ys S
  | .gt, .tup xs, .tup ys => lexD ys xs S
  | .le, .int i, .int j => .ok (.bl (decide (i ≤ j))) S
  | .gt, .int i, .int j => .ok (.bl (decide (j < i))) S
  | .ge, .int i, .int j => .ok (.bl (decide (j ≤ i))) S
  | .eq, x, y => match toP S dep x, toP S dep y with | some d, some e => .ok (.bl (PyData.eqv d e)) S | _, _ => .bad
  | .ne, x, y => match toP S dep x, toP S dep y with | some d, some e => .ok (.bl (!PyData.eqv d e)) S | _, _ => .bad
  | .is, .bl a, .bl b => .ok (.bl (decide (a = b))) S
  | .ns, .bl a, .bl b => .ok (.bl (!decide (a = b))) S
  | _, _, _ => .bad
/-- one sign in a text; a flat thing in a tuple; data in a list -/
noncomputable def memS (neg : Bool) (x y : D) (S : Sto) : R D := match x, y with
  | .str c, .str z => match c.cps.toList with | [k] => .ok (.bl (if neg then !decide (k ∈ z.cps.toList) else decide (k ∈ z.cps.toList))) S | _ => .bad
  | x, .tup ys => match toP S dep x, toP S dep (.tup ys) with
    | some d, some (.tuple es) => .ok (.bl (if neg then !es.any (fun z => PyData.eqv z d) else es.any (fun z => PyData.eqv z d))) S
    | _, _ => .bad
  | x, .ref n => match toP S dep x, toP S dep (.ref n) with
    | some d, some (.list es) => .ok (.bl (if neg then !es.any (fun z => PyData.eqv z d) else es.any (fun z => PyData.eqv z d))) S
    | _, _ => .bad
  | _, _ => .bad
/-- the items of a list, a tuple -/
def itemsOf (S : Sto) : D → Option (List D)
  | .tup xs => some xs
  | .fzl xs => some xs
  | .ref n => match S[n]? with | some (.lst xs) => some xs | _ => none
  | _ => none
def listOf (S : Sto) : D → Option (List D)
  | .fzl xs => some xs
  | .ref n => match S[n]? with | some (.lst xs) => some xs | _ => none
  | _ => none
noncomputable def ixS (a i : D) (S : Sto) : R D := match i with
  | .int k => match a with
    | .str z => if z.length ≤ sizeLine then (match atI z.cps.toList k with | some c => .ok (.str ⟨#[c]⟩) S | none => .bad) else .bad
    | a => match itemsOf S a with | some xs => (match atI xs k with | some v => .ok v S | none => .bad) | none => .bad
  | _ => .bad
/-! dicts -/
def keyD : D → Option Key
  | .int i => some (.inl i)
  | .str x => some (.inr x)
  | _ => none
def keysD : List D → Option (List Key)
  | [] => some []
  | x :: xs => match keyD x, keysD xs with | some k, some ks => some (k :: ks) | _, _ => none
def strHead : List D → Bool | .str _ :: _ => true | _ => false
/-- a tuple that stands at a place of its own -/
def keyT : D → Option (List Key)
  | .tup xs => if strHead xs = true then keysD xs else none
  | .kt ks => some ks
  | _ => none
/-- a tuple that is made to be a key -/
def ktpD (xs : List D) (S : Sto) : R D := match keysD xs with | some ks => if ks.length ≤ 1000 then .ok (.kt ks) S else .bad | none => .bad
def isDic (S : Sto) : D → Bool
  | .ref n => match S[n]? with | some (.dic _) => true | some (.dit _) => true | _ => false
  | _ => false
section
variable {κ : Type} [DecidableEq κ]
def valD (kvs : List (κ × D)) (k : κ) : Option D := (kvs.find? fun kv => decide (kv.1 = k)).map (·.2)
def putD (kvs : List (κ × D)) (k : κ) (v : D) : List (κ × D) := if (kvs.any fun kv => decide (kv.1 = k)) = true then kvs.map fun kv => if kv.1 = k then (kv.1, v) else kv else kvs ++ [(k, v)]
def dropD (kvs : List (κ × D)) (k : κ) : List (κ × D) := kvs.filter fun kv => decide (kv.1 ≠ k)
end
/-- what a dict holds at a key -/
def getD (x y : D) (S : Sto) : Option (Option D) := match x with
  | .ref n => match S[n]? with
    | some (.dic kvs) => (keyD y).map (valD kvs)
    | some (.dit kvs) => (keyT y).map (valD kvs)
    | _ => none
  | _ => none
noncomputable def putO (x y d : D) (S : Sto) : Option Sto := match x with
  | .ref n => match S[n]? with
    | some (.dic kvs) => (match keyD y with | some k => if kvs.length < sizeLine then some (S.set n (.dic (putD kvs k d))) else none | none => none)
    | some (.dit kvs) => (match keyT y with | some k => if kvs.length < sizeLine then some (S.set n (.dit (putD kvs k d))) else none | none => none)
    | _ => none
  | _ => none
noncomputable def ixD (a i : D) (S : Sto) : R D := if isDic S a = true then (match getD a i S with | some (some v) => .ok v S | _ => .bad) else ixS a i S
noncomputable def memD (neg : Bool) (x y : D) (S : Sto) : R D := if isDic S y = true then (match getD y x S with | some o => .ok (.bl (if neg then !o.isSome else o.isSome)) S | none => .bad) else memS neg x y S
def dget1D (x y : D) (S : Sto) : R D := match getD x y S with | some o => .ok (o.getD .non) S | none => .bad
def dgetD (x y z : D) (S : Sto) : R D := match getD x y S with | some o => .ok (o.getD z) S | none => .bad
def dpopD (x y : D) (z : Option D) (S : Sto) : R D := match x with
  | .ref n => match S[n]?, keyD y with
    | some (.dic kvs), some k => (match valD kvs k, z with
      | some v, _ => .ok v (S.set n (.dic (dropD kvs k)))
      | none, some z => .ok z S
      | none, none => .bad)
    | _, _ => .bad
  | _ => .bad
def isDicU (x : D) (S : Sto) : R Unit := if isDic S x = true then .ok () S else .bad
def dnewD (t : Bool) (S : Sto) : R D := .ok (.ref S.length) (S ++ [if t = true then .dit [] else .dic []])
def dput1D (x y : D) (S : Sto) : R D := match keyD x with | some k => .ok (.ref S.length) (S ++ [.dic [(k, y)]]) | none => .bad
/-! sorting: ints; tuples that begin with an int, or two -/
def sKey : D → Option (Int × Option Int)
  | .tup (.int i :: .int j :: _) => some (i, some j)
  | .tup (.int i :: _) => some (i, none)
  | _ => none
def apart (p q : Int × Option Int) : Prop := p.1 ≠ q.1 ∨ ∃ a b, p.2 = some a ∧ q.2 = some b ∧ a ≠ b
def sVal (p : Int × Option Int) : Int × Int := (p.1, p.2.getD 0)
def sLt (p q : Int × Int) : Prop := p.1 < q.1 ∨ (p.1 = q.1 ∧ p.2 < q.2)
instance (p q : Int × Int) : Decidable (sLt p q) := by unfold sLt; infer_instance
def insK (x : (Int × Int) × D) : List ((Int × Int) × D) → List ((Int × Int) × D)
  | [] => [x]
  | y :: ys => if sLt y.1 x.1 then y :: insK x ys else x :: y :: ys
def sortK (l : List ((Int × Int) × D)) : List ((Int × Int) × D) := l.foldr insK []
def insI (x : Int) : List Int → List Int
  | [] => [x]
  | y :: ys => if y < x then y :: insI x ys else x :: y :: ys
def sortI (l : List Int) : List Int := l.foldr insI []
def keysK : List D → Option (List ((Int × Option Int) × D))
  | [] => some []
  | x :: xs => match sKey x, keysK xs with | some k, some r => some ((k, x) :: r) | _, _ => none
noncomputable def sortD (xs : List D) : Option (List D) := match intsD xs with
  | some ns => some ((sortI ns).map .int)
  | none => match keysK xs with
    | some l => if l.Pairwise (fun p q => apart p.1 q.1) then some ((sortK (l.map fun p => (sVal p.1, p.2))).map (·.2)) else none
    | none => none
def intKeys : List Key → Option (List Int)
  | [] => some []
  | .inl i :: r => (intKeys r).map (i :: ·)
  | _ :: _ => none
noncomputable def srtD (x : D) (S : Sto) : R (List D) := match x with
  | .ref n => (match S[n]? with
    | some (.lst xs) => (match sortD xs with | some ys => .ok ys S | none => .bad)
    | some (.dic kvs) => (match intKeys (kvs.map (·.1)) with | some ks => if ks.length < 64 then .ok ((sortI ks).map .int) S else .bad | none => .bad)
    | _ => .bad)
  | _ => .bad
noncomputable def srtLD (xs : List D) (S : Sto) : R (List D) := match sortD xs with | some ys => .ok ys S | none => .bad
/-! instances -/
def insAt (S : Sto) : D → Option (Nat × List (Str × D))
  | .ref n => match S[n]? with | some (.ins C fs) => some (C, fs) | _ => none
  | _ => none
def fldD (t : Nat → Str → Bool) (f : Str) (x : D) (S : Sto) : R D := match insAt S x with | some (C, fs) => if t C f = true then (match fs.lookup f with | some v => .ok v S | none => .bad) else .bad | none => .bad
def putFD (f : Str) (v : D) : List (Str × D) → List (Str × D)
  | [] => [(f, v)]
  | (g, x) :: r => if g = f then (g, v) :: r else (g, x) :: putFD f v r
noncomputable def setFD (t : Nat → Str → Bool) (x : D) (f : Str) (d : D) (ρ : En) (S : Sto) : R En := match x with
  | .ref n => match S[n]? with | some (.ins C fs) => if t C f = true ∧ fs.length < 1000 then .ok ρ (S.set n (.ins C (putFD f d fs))) else .bad | _ => .bad
  | _ => .bad
/-- the method of the object's class -/
def methD (t : Nat → Str → Option Nat) (m : Str) (x : D) (S : Sto) : R Nat := match insAt S x with
  | some (C, fs) => (match fs.lookup m, t C m with | none, some f => .ok f S | _, _ => .bad)
  | none => .bad
def smD (m : Sm) (xs : List D) (S : Sto) : R D := .bad
noncomputable def slD (a : D) (l h : Option Int) (S : Sto) : R D := match a with
  | .tup xs => .ok (.tup (cutD xs l h)) S
  | .str x => if x.length ≤ sizeLine then .ok (.str (L2.cutS x l h)) S else .bad
  | .ref n => (match S[n]? with | some (.lst xs) => .ok (.ref S.length) (S ++ [.lst (cutD xs l h)]) | _ => .bad)
  | _ => .bad
/-- x[::-1] -/
def revD (a : D) (S : Sto) : R D := match a with
  | .tup xs => .ok (.tup xs.reverse) S
  | .ref n => (match S[n]? with | some (.lst xs) => .ok (.ref S.length) (S ++ [.lst xs.reverse]) | _ => .bad)
  | _ => .bad
def cutL (S : Sto) (a : D) (l h : Option Int) : R (List D) := match a with
  | .ref n => (match S[n]? with | some (.lst xs) => .ok (cutD xs l h) S | _ => .bad)
  | .fzl xs => .ok (cutD xs l h) S
  | _ => .bad
def allB : List D → Option (List Bool)
  | [] => some []
  | .bl b :: xs => (allB xs).map (b :: ·)
  | _ :: _ => none
noncomputable def biD (b : Bi) (xs : List D) (S : Sto) : R D := match b, xs with
  | .len, [.str z] => if z.length ≤ sizeLine then .ok (.int z.length) S else .bad
  | .len, [.ref n] => match S[n]? with | some (.lst xs) => .ok (.int xs.length) S | some (.dic kvs) => .ok (.int kvs.length) S | _ => .bad
  | .len, [a] => match itemsOf S a with | some xs => .ok (.int xs.length) S | none => .bad
  | .abs, [.int i] => .ok (.int (if i < 0 then -i else i)) S
  | .int, [.int i] => .ok (.int i) S
  | .max, [.int i, .int j] => .ok (.int (if j > i then j else i)) S
  | .min, [.int i, .int j] => .ok (.int (if j < i then j else i)) S
  | .gcd, [.int i, .int j] => .ok (.int ((Nat.gcd i.natAbs j.natAbs : Nat) : Int)) S
  | .tuple, [.tup xs] => .ok (.tup xs) S
  | .tuple, [a] => match itemsOf S a with | some xs => .ok (.tup xs) S | none => .bad
  | .isInt, [a] => match a with | .int _ => .ok (.bl true) S | .bl _ => .ok (.bl true) S | .str _ | .non | .tup _ => .ok (.bl false) S | _ => .bad
  | .isBool, [a] => match a with | .bl _ => .ok (.bl true) S | .int _ | .str _ | .non | .tup _ => .ok (.bl false) S | _ => .bad
  | .isTuple, [a] => match a with | .tup _ => .ok (.bl true) S | .int _ | .bl _ | .str _ | .non => .ok (.bl false) S | _ => .bad
  | .isStr, [a] => match a with | .str _ => .ok (.bl true) S | .int _ | .bl _ | .non | .tup _ => .ok (.bl false) S | _ => .bad
  | .any, [a] => match (listOf S a).bind allB with | some bs => .ok (.bl (bs.any id)) S | none => .bad
  | .all, [a] => match (listOf S a).bind allB with | some bs => .ok (.bl (bs.all id)) S | none => .bad
  | _, _ => .bad
def blD (b : Bl) (xs : List D) (S : Sto) : R D := match b with
  | .tuple => .ok (.tup xs) S
  | .len => .ok (.int xs.length) S
  | .any => match allB xs with | some bs => .ok (.bl (bs.any id)) S | none => .bad
  | .all => match allB xs with | some bs => .ok (.bl (bs.all id)) S | none => .bad
  | .sum => match intsD xs with | some ns => .ok (.int ns.sum) S | none => .bad
def isNon : D → Bool | .non => true | _ => false
def toB (x : D) (S : Sto) : R Bool := match x with | .bl b => .ok b S | _ => .bad
def rangeD (a b : Int) : List D := (List.range (b - a).toNat).map fun i => .int (a + (i : Nat))
/-- what a comprehension's turn gives: an item kept or not -/
noncomputable def compL (ok : Sto → Prop) (f : D → Sto → R (Option D)) : List D → List D → Sto → R (List D)
  | [], acc, S => if ok S then .ok acc S else .bad
  | x :: xs, acc, S => if ok S then (match f x S with | .ok (some d) S' => compL ok f xs (acc ++ [d]) S' | .ok none S' => compL ok f xs acc S' | _ => .bad) else .bad
noncomputable def forL (ok : Sto → Prop) (f : D → En → Sto → Fl) : List D → En → Sto → Fl
  | [], ρ, S => if ok S then .nx ρ S else .bad
  | x :: xs, ρ, S => if ok S then (match f x ρ S with | .nx ρ' S' => forL ok f xs ρ' S' | .ct ρ' S' => forL ok f xs ρ' S' | .bk ρ' S' => .nx ρ' S' | r => r) else .bad
def whileN (c : En → Sto → R Bool) (f : En → Sto → Fl) : Nat → En → Sto → Fl
  | 0, _, _ => .bad
  | n + 1, ρ, S => match c ρ S with
    | .ok true S1 => (match f ρ S1 with | .nx ρ' S' => whileN c f n ρ' S' | .ct ρ' S' => whileN c f n ρ' S' | .bk ρ' S' => .nx ρ' S' | r => r)
    | .ok false S1 => .nx ρ S1
    | .err k S1 => .er k ρ S1
    | .bad => .bad
def wipeE (ρ : En) : List Nat → En
  | [] => ρ
  | v :: vs => (wipeE ρ vs).set v none
def smallI (i : Int) : Prop := -(2 ^ 62) ≤ i ∧ i < 2 ^ 62
def ro {α : Type} (o : Option α) (S : Sto) : R α := match o with | some x => .ok x S | none => .bad
@[simp] theorem ro_some {α : Type} (x : α) (S : Sto) : ro (some x) S = .ok x S := rfl
@[simp] theorem ro_none {α : Type} (S : Sto) : ro (none : Option α) S = .bad := rfl
def lstAt (S : Sto) (n : Nat) : Option (List D) := match S[n]? with | some (.lst xs) => some xs | _ => none

def negD (x : D) (S : Sto) : R D := match x with | .int i => .ok (.int (-i)) S | _ => .bad
def intO (x : D) (S : Sto) : R (Option Int) := match x with | .int i => .ok (some i) S | _ => .bad
def excD (sub : Nat → Nat → Option Bool) (k : Nat) (x : D) (S : Sto) : R D := match x with | .exc j => (match sub j k with | some b => .ok (.bl b) S | none => .bad) | _ => .bad
def chkL (x : D) (S : Sto) : R Unit := match x with | .ref n => (match lstAt S n with | some _ => .ok () S | none => .bad) | _ => .bad
noncomputable def appD (x y : D) (S : Sto) : R D := match x with
  | .ref n => (match lstAt S n with | some xs => if xs.length < sizeLine then .ok .non (S.set n (.lst (xs ++ [y]))) else .bad | none => .bad)
  | _ => .bad
noncomputable def catEL (x : D) (ys : List D) (S : Sto) : R (List D) := match x with
  | .ref n => (match lstAt S n with | some xs => if xs.length + ys.length ≤ sizeLine then .ok (xs ++ ys) S else .bad | none => .bad)
  | _ => .bad
noncomputable def catLE (xs : List D) (y : D) (S : Sto) : R (List D) := match y with
  | .ref n => (match lstAt S n with | some ys => if xs.length + ys.length ≤ sizeLine then .ok (xs ++ ys) S else .bad | none => .bad)
  | _ => .bad
/-- the first place of an equal one -/
def idxD (x y : D) (S : Sto) : R D := match toP S dep y, toP S dep x with
  | some d, some (.list es) => (match es.findIdx? (fun z => PyData.eqv z d) with | some j => .ok (.int (j : Nat)) S | none => .bad)
  | _, _ => .bad
def copyD (x : D) (S : Sto) : R (List D) := match itemsOf S x with | some xs => .ok xs S | none => .bad
noncomputable def repD (x k : D) (S : Sto) : R (List D) := match k with | .int k => if 0 ≤ k ∧ k < sizeLine then .ok (List.replicate k.toNat x) S else .bad | _ => .bad
def valI (x : D) (S : Sto) : R (List D × (Sto → Prop)) := match x with
  | .tup xs => .ok (xs, fun _ => True) S
  | .fzl xs => .ok (xs, fun _ => True) S
  | .ref n => (match lstAt S n with | some xs => .ok (xs, fun S2 => lstAt S2 n = some xs) S | none => .bad)
  | _ => .bad
noncomputable def rgI1 (x : D) (S : Sto) : R (List D × (Sto → Prop)) := match x with | .int j => if smallI j ∧ j < sizeLine then .ok (rangeD 0 j, fun _ => True) S else .bad | _ => .bad
noncomputable def rgI2 (x y : D) (S : Sto) : R (List D × (Sto → Prop)) := match x, y with
  | .int i, .int j => if smallI i ∧ smallI j ∧ j - i < sizeLine then .ok (rangeD i j, fun _ => True) S else .bad
  | _, _ => .bad
noncomputable def tupD (xs : List D) (S : Sto) : R D := if xs.length ≤ sizeLine then .ok (.tup xs) S else .bad
noncomputable def lstD (xs : List D) (S : Sto) : R (List D) := if xs.length ≤ sizeLine then .ok xs S else .bad
noncomputable def catD (xs ys : List D) (S : Sto) : R (List D) := if xs.length + ys.length ≤ sizeLine then .ok (xs ++ ys) S else .bad
def newD (xs : List D) (S : Sto) : R D := .ok (.ref S.length) (S ++ [.lst xs])
def isND (neg : Bool) (x : D) (S : Sto) : R D := .ok (.bl (if neg = true then !isNon x else isNon x)) S
/-- o[i] = d -/
def setS (x y d : D) (ρ : En) (S : Sto) : R En := match x, y with
  | .ref n, .int k => (match lstAt S n with | some xs => (match ixN xs.length k with | some j => .ok ρ (S.set n (.lst (xs.set j d))) | none => .bad) | none => .bad)
  | _, _ => .bad
noncomputable def setD (x y d : D) (ρ : En) (S : Sto) : R En := if isDic S x = true then (match putO x y d S with | some S2 => .ok ρ S2 | none => .bad) else setS x y d ρ S
noncomputable def delD (x y : D) (S : Sto) : R D := match x with
  | .ref n => match S[n]?, keyD y with
    | some (.dic kvs), some k => if (valD kvs k).isSome = true then .ok .non (S.set n (.dic (dropD kvs k))) else .bad
    | _, _ => .bad
  | _ => .bad

/-- what a def says of an error: texts chosen by its class -/
def evH (sub : Nat → Nat → Option Bool) : E → D → Option D
  | .cst (.str s), _ => some (.str s)
  | .ite (.isE k (.var 0)) (.cst (.str s)) (.cst (.str t)), .exc j => (sub j k).map fun b => if b = true then .str s else .str t
  | .bin .add a b, x => match evH sub a x, evH sub b x with | some (.str s), some (.str t) => if s.length + t.length ≤ 100000 then some (.str (s ++ t)) else none | _, _ => none
  | _, _ => none
def propD (c : Cfg) (f : Str) (x : D) (S : Sto) : R D := match insAt S x with
  | some (C, _) => (match c.prop C f with | some g => (match c.call1 g [x] S with | .ok d S2 => .ok d S2 | _ => .bad) | none => .bad)
  | none => .bad
def nonD (n : Nat) (d : D) (S : Sto) : R D := match d with | .non => .ok (.ref n) S | _ => .bad
def makeD (c : Cfg) (C : Nat) (xs : List D) (S : Sto) : R D := match c.init C with
  | some f => (c.call1 f (.ref S.length :: xs) (S ++ [.ins C []])).bind fun d S2 => nonD S.length d S2
  | none => .bad
def hotD (c : Cfg) (f : Nat) (x : D) (S : Sto) : R D := match x, c.hot f with | .exc _, some e => (match evH c.sub e x with | some d => .ok d S | none => .bad) | _, _ => .bad
section
variable (c : Cfg)
mutual
noncomputable def evE : E → En → Sto → R D
  | .var i, ρ, S => ro (ρ[i]?.join) S
  | .cst d, _, S => .ok d S
  | .bin o a b, ρ, S => (evE a ρ S).bind fun x S1 => (evE b ρ S1).bind fun y S2 => bop o x y S2
  | .neg a, ρ, S => (evE a ρ S).bind negD
  | .no a, ρ, S => ((evE a ρ S).bind toB).bind fun b S1 => .ok (.bl (!b)) S1
  | .cmp o a b, ρ, S => (evE a ρ S).bind fun x S1 => (evE b ρ S1).bind fun y S2 => cmpD o x y S2
  | .chn o p a b d, ρ, S => (evE a ρ S).bind fun x S1 => (evE b ρ S1).bind fun y S2 => ((cmpD o x y S2).bind toB).bind fun k S3 =>
      if k = true then (evE d ρ S3).bind fun z S4 => cmpD p y z S4 else .ok (.bl false) S3
  | .isN neg a, ρ, S => (evE a ρ S).bind (isND neg)
  | .mem neg a b, ρ, S => (evE a ρ S).bind fun x S1 => (evE b ρ S1).bind fun y S2 => memD neg x y S2
  | .and a b, ρ, S => ((evE a ρ S).bind toB).bind fun k S1 => if k = true then ((evE b ρ S1).bind toB).bind fun k S2 => .ok (.bl k) S2 else .ok (.bl false) S1
  | .or a b, ρ, S => ((evE a ρ S).bind toB).bind fun k S1 => if k = true then .ok (.bl true) S1 else ((evE b ρ S1).bind toB).bind fun k S2 => .ok (.bl k) S2
  | .ite t a b, ρ, S => ((evE t ρ S).bind toB).bind fun k S1 => if k = true then evE a ρ S1 else evE b ρ S1
  | .tup es, ρ, S => (evEs es ρ S).bind tupD
  | .ix a i, ρ, S => (evE a ρ S).bind fun x S1 => (evE i ρ S1).bind fun y S2 => ixD x y S2
  | .sl a lo hi, ρ, S => (evE a ρ S).bind fun x S1 => (evO lo ρ S1).bind fun l S2 => (evO hi ρ S2).bind fun h S3 => slD x l h S3
  | .call f es, ρ, S => (evEs es ρ S).bind fun xs S1 => c.call f xs S1
  | .bi b es, ρ, S => (evEs es ρ S).bind fun xs S1 => biD b xs S1
  | .new l, ρ, S => (evL l ρ S).bind newD
  | .bil b l, ρ, S => (evL l ρ S).bind fun xs S1 => blD b xs S1
  | .isE k a, ρ, S => (evE a ρ S).bind (excD c.sub k)
  | .rev a, ρ, S => (evE a ρ S).bind revD
  | .app a e, ρ, S => (evE a ρ S).bind fun x S1 => (chkL x S1).bind fun _ S1 => (evE e ρ S1).bind fun y S2 => appD x y S2
  | .dnew t, _, S => dnewD t S
  | .dget1 o k, ρ, S => (evE o ρ S).bind fun x S1 => (isDicU x S1).bind fun _ S1 => (evE k ρ S1).bind fun y S2 => dget1D x y S2
  | .dget o k z, ρ, S => (evE o ρ S).bind fun x S1 => (isDicU x S1).bind fun _ S1 => (evE k ρ S1).bind fun y S2 => (evE z ρ S2).bind fun w S3 => dgetD x y w S3
  | .dpop o k, ρ, S => (evE o ρ S).bind fun x S1 => (isDicU x S1).bind fun _ S1 => (evE k ρ S1).bind fun y S2 => dpopD x y none S2
  | .dpop2 o k z, ρ, S => (evE o ρ S).bind fun x S1 => (isDicU x S1).bind fun _ S1 => (evE k ρ S1).bind fun y S2 => (evE z ρ S2).bind fun w S3 => dpopD x y (some w) S3
  | .dput1 k v, ρ, S => (evE k ρ S).bind fun x S1 => (evE v ρ S1).bind fun y S2 => dput1D x y S2
  | .fld f o, ρ, S => (evE o ρ S).bind (fldD c.fok f)
  | .prop f o, ρ, S => (evE o ρ S).bind fun x S1 => propD c f x S1
  | .make C es, ρ, S => (evEs es ρ S).bind fun xs S1 => makeD c C xs S1
  | .meth m o es, ρ, S => (evE o ρ S).bind fun x S1 => (methD c.meth m x S1).bind fun f S1 => (evEs es ρ S1).bind fun xs S2 => c.call f (x :: xs) S2
  | .hot f a, ρ, S => (evE a ρ S).bind fun x S1 => hotD c f x S1
  | .sm m es, ρ, S => (evEs es ρ S).bind (smD m)
  | .ktp es, ρ, S => (evEs es ρ S).bind ktpD
  | .idx o a, ρ, S => (evE o ρ S).bind fun x S1 => (chkL x S1).bind fun _ S1 => (evE a ρ S1).bind fun y S2 => idxD x y S2
noncomputable def evEs : Es → En → Sto → R (List D)
  | .nil, _, S => .ok [] S
  | .cons e es, ρ, S => (evE e ρ S).bind fun x S1 => (evEs es ρ S1).bind fun xs S2 => .ok (x :: xs) S2
noncomputable def evO : Eo → En → Sto → R (Option Int)
  | .none, _, S => .ok none S
  | .some e, ρ, S => (evE e ρ S).bind intO
noncomputable def evC : Eo → En → Sto → R Bool
  | .none, _, S => .ok true S
  | .some e, ρ, S => (evE e ρ S).bind toB
noncomputable def evL : L → En → Sto → R (List D)
  | .disp es, ρ, S => (evEs es ρ S).bind lstD
  | .comp elt t it cnd own, ρ, S => (evIt it ρ S).bind fun p S1 => compL p.2 (fun x S2 => (evT t x (wipeE ρ own) S2).bind fun ρ2 S3 => (evC cnd ρ2 S3).bind fun k S4 =>
      if k = true then (evE elt ρ2 S4).bind fun d S5 => .ok (some d) S5 else .ok none S4) p.1 [] S1
  | .cat a b, ρ, S => (evL a ρ S).bind fun xs S1 => (evL b ρ S1).bind fun ys S2 => catD xs ys S2
  | .catEL e l, ρ, S => (evE e ρ S).bind fun x S1 => (evL l ρ S1).bind fun ys S2 => catEL x ys S2
  | .catLE l e, ρ, S => (evL l ρ S).bind fun xs S1 => (evE e ρ S1).bind fun y S2 => catLE xs y S2
  | .copy e, ρ, S => (evE e ρ S).bind copyD
  | .cut e lo hi, ρ, S => (evE e ρ S).bind fun x S1 => (evO lo ρ S1).bind fun l S2 => (evO hi ρ S2).bind fun h S3 => cutL S3 x l h
  | .rep e n, ρ, S => (evE e ρ S).bind fun x S1 => (evE n ρ S1).bind fun k S2 => repD x k S2
  | .srt e, ρ, S => (evE e ρ S).bind srtD
  | .srtL l, ρ, S => (evL l ρ S).bind srtLD
noncomputable def evIt : Src → En → Sto → R (List D × (Sto → Prop))
  | .val e, ρ, S => (evE e ρ S).bind valI
  | .lst l, ρ, S => (evL l ρ S).bind fun xs S1 => .ok (xs, fun _ => True) S1
  | .rg1 a, ρ, S => (evE a ρ S).bind rgI1
  | .rg2 a b, ρ, S => (evE a ρ S).bind fun x S1 => (evE b ρ S1).bind fun y S2 => rgI2 x y S2
noncomputable def evT : Tg → D → En → Sto → R En
  | .nm i, d, ρ, S => .ok (ρ.set i (some d)) S
  | .tp ts, d, ρ, S => match d with | .tup xs => evTs ts xs ρ S | _ => .bad
  | .sub o i, d, ρ, S => (evE o ρ S).bind fun x S1 => (evE i ρ S1).bind fun y S2 => setD x y d ρ S2
  | .fld o f, d, ρ, S => (evE o ρ S).bind fun x S1 => setFD c.fok x f d ρ S1
noncomputable def evTs : Tgs → List D → En → Sto → R En
  | .nil, xs, ρ, S => match xs with | [] => .ok ρ S | _ => .bad
  | .cons t ts, xs, ρ, S => match xs with | x :: xs => (evT t x ρ S).bind fun ρ1 S1 => evTs ts xs ρ1 S1 | _ => .bad
end
mutual
def D.noE : D → Prop
  | .tup xs => Ds.noE xs
  | .fzl xs => Ds.noE xs
  | .exc _ => False
  | _ => True
def Ds.noE : List D → Prop
  | [] => True
  | x :: xs => D.noE x ∧ Ds.noE xs
end
/-- no error comes out of a target -/
def R.calm {α : Type} (r : R α) (f : α → Sto → Fl) : Fl := match r with | .ok a S => f a S | _ => .bad
def seqF (r : Fl) (f : En → Sto → Fl) : Fl := match r with | .nx ρ S => f ρ S | r => r
@[simp] theorem seqF_nx {ρ : En} {S : Sto} {f : En → Sto → Fl} : seqF (.nx ρ S) f = f ρ S := rfl
@[simp] theorem seqF_rt {d : D} {S : Sto} {f : En → Sto → Fl} : seqF (.rt d S) f = .rt d S := rfl
@[simp] theorem seqF_bk {ρ : En} {S : Sto} {f : En → Sto → Fl} : seqF (.bk ρ S) f = .bk ρ S := rfl
@[simp] theorem seqF_ct {ρ : En} {S : Sto} {f : En → Sto → Fl} : seqF (.ct ρ S) f = .ct ρ S := rfl
@[simp] theorem seqF_er {k : Nat} {ρ : En} {S : Sto} {f : En → Sto → Fl} : seqF (.er k ρ S) f = .er k ρ S := rfl
@[simp] theorem seqF_bad {f : En → Sto → Fl} : seqF .bad f = .bad := rfl
def noEr (r : Fl) : Fl := match r with | .er _ _ _ => .bad | r => r
noncomputable def rtOnly (S1 : Sto) (r : Fl) : Fl := match r with | .rt d S2 => if D.noE d ∧ S2 = S1 then .rt d S2 else .bad | _ => .bad
def tryF (sub : Nat → Nat → Option Bool) (k : Nat) (r : Fl) (h : Nat → En → Sto → Fl) : Fl := match r with
  | .er j ρ S => (match sub j k with | some true => h j ρ S | some false => .er j ρ S | none => .bad)
  | r => r
mutual
noncomputable def evS : St → En → Sto → Fl
  | .asg t e, ρ, S => (evE c e ρ S).flow ρ fun d S1 => R.calm (evT c t d ρ S1) fun ρ2 S2 => .nx ρ2 S2
  | .par i j a b, ρ, S => (evE c a ρ S).flow ρ fun x S1 => (evE c b ρ S1).flow ρ fun y S2 => .nx ((ρ.set i (some x)).set j (some y)) S2
  | .ex e, ρ, S => (evE c e ρ S).flow ρ fun _ S1 => .nx ρ S1
  | .ret e, ρ, S => (evE c e ρ S).flow ρ fun d S1 => .rt d S1
  | .retN, _, S => .rt .non S
  | .ite t a b, ρ, S => ((evE c t ρ S).bind toB).flow ρ fun k S1 => if k = true then evSs a ρ S1 else evSs b ρ S1
  | .forr t it b, ρ, S => (evIt c it ρ S).flow ρ fun p S1 => forL p.2 (fun x ρ1 S2 => R.calm (evT c t x ρ1 S2) fun ρ2 S3 => evSs b ρ2 S3) p.1 ρ S1
  | .whl t b, ρ, S => whileN (fun ρ1 S1 => (evE c t ρ1 S1).bind toB) (fun ρ1 S1 => evSs b ρ1 S1) c.w ρ S
  | .raise k, ρ, S => .er k ρ S
  | .pass, ρ, S => .nx ρ S
  | .brk, ρ, S => .bk ρ S
  | .cont, ρ, S => .ct ρ S
  | .del o i, ρ, S => (evE c o ρ S).flow ρ fun x S1 => (evE c i ρ S1).flow ρ fun y S2 => (delD x y S2).flow ρ fun _ S3 => .nx ρ S3
  | .tryE b k n h, ρ, S => tryF c.sub k (evSs b ρ S) fun j ρ1 S1 => match n with
      | none => noEr (evSs h ρ1 S1)
      | some i => rtOnly S1 (evSs h (ρ1.set i (some (.exc j))) S1)
noncomputable def evSs : Ss → En → Sto → Fl
  | .nil, ρ, S => .nx ρ S
  | .cons s ss, ρ, S => seqF (evS s ρ S) fun ρ1 S1 => evSs ss ρ1 S1
end
end
/-! ### defs -/
structure Fn where
  ps : Nat
  slots : Nat
  body : Ss
mutual
def D.wf (n : Nat) : D → Prop
  | .tup xs => Ds.wf n xs
  | .fzl xs => Ds.wf n xs
  | .ref k => k < n
  | .exc _ => False
  | _ => True
def Ds.wf (n : Nat) : List D → Prop
  | [] => True
  | x :: xs => D.wf n x ∧ Ds.wf n xs
end
def O.wf (n : Nat) : O → Prop
  | .lst xs => Ds.wf n xs
  | .dic kvs => Ds.wf n (kvs.map (·.2))
  | .dit kvs => Ds.wf n (kvs.map (·.2))
  | .ins _ fs => Ds.wf n (fs.map (·.2))
/-- what is new and can't be reached is forgotten -/
noncomputable def tidy (n : Nat) (d : D) (S : Sto) : Sto := if D.wf n d ∧ (∀ o ∈ S.take n, O.wf n o) ∧ n ≤ S.length then S.take n else S
noncomputable def tidyR (n : Nat) : R D → R D
  | .ok d S => .ok d (tidy n d S)
  | .err c S => .err c (tidy n .non S)
  | .bad => .bad
structure Prg where
  fn : Nat → Option Fn
  sub : Nat → Nat → Option Bool
  w : Nat
  init : Nat → Option Nat := fun _ => none
  meth : Nat → Str → Option Nat := fun _ _ => none
  prop : Nat → Str → Option Nat := fun _ _ => none
  hot : Nat → Option E := fun _ => none
  fok : Nat → Str → Bool := fun _ _ => false
noncomputable def fin : Fl → R D
  | .nx _ S => .ok .non S
  | .rt d S => .ok d S
  | .er c _ S => .err c S
  | _ => .bad
mutual
noncomputable def evF (P : Prg) : Nat → Nat → List D → Sto → R D
  | 0, _, _, _ => .bad
  | k + 1, f, xs, S => match P.fn f with
    | none => .bad
    | some F => if xs.length = F.ps ∧ F.ps ≤ F.slots then tidyR S.length (fin (evSs ⟨evF P k, P.sub, P.w, evF1 P k, P.init, P.meth, P.prop, P.hot, P.fok⟩ F.body (xs.map some ++ List.replicate (F.slots - F.ps) none) S)) else .bad
noncomputable def evF1 (P : Prg) : Nat → Nat → List D → Sto → R D
  | 0, _, _, _ => .bad
  | k + 1, f, xs, S => evF P k f xs S
end
end SB

/-! what data stands for: values over an abstract heap -/
namespace SB
open PySem PySem.Spec PyProof.Rows L2
open Classical

/-- where the classes of errors and of the text stand; what a suite holds -/
structure Pl where
  K : PySem.W.Frag
  cl : Nat → Addr
  ex : Option (Addr × Nat)

/-- a list that nobody writes: the script -/
def SqF (K : PySem.W.Frag) (H : Hp) (a : Addr) (xs : List V) : Prop := (∃ o, H a = some (.frz o (.lst xs))) ∨
    ∃ (o : Obj) (its : Array Value) (n : Nat), K.lookup a = some o ∧ o.cls = .type "list" ∧ o.dict = none ∧ o.data = .seq its n ∧ its.size ≤ sizeLine ∧ Vals xs its.toList
theorem SqF.sq {K : PySem.W.Frag} {H : Hp} {a : Addr} {xs : List V} (h : SqF K H a xs) : SqL K H a xs := by
  rcases h with ⟨o, h⟩ | h
  · exact .inl (.inr ⟨o, h⟩)
  · exact .inr h
/-- a tuple; one that begins with a text stands at a place of its own -/
def TupAt (K : PySem.W.Frag) (H : Hp) (b : Bool) (a : Addr) (vs : List V) : Prop := SqT K H a vs ∧ (b = true → H a = some (.tup vs))
theorem TupAt.new {K : PySem.W.Frag} {H : Hp} {b : Bool} {p : Addr} {vs : List V} : TupAt K (upd H p (.tup vs)) b p vs := ⟨.inl (.inl upd_same), fun _ => upd_same⟩
section
variable (G : Pl) (H : Hp) (μ : List Addr)
mutual
def Rep : D → V → Prop
  | .non, v => v = .non
  | .bl b, v => v = .bl b
  | .int i, v => v = .int i
  | .str x, v => v = .str x
  | .tup xs, v => ∃ a vs, v = .ref a ∧ TupAt G.K H (strHead xs) a vs ∧ RepL xs vs ∧ xs.length ≤ sizeLine
  | .fzl xs, v => ∃ a vs, v = .ref a ∧ SqF G.K H a vs ∧ RepL xs vs ∧ xs.length ≤ sizeLine
  | .ref n, v => ∃ a, v = .ref a ∧ μ[n]? = some a
  | .exc c, v => ∃ a, v = .ref a ∧ G.ex = some (a, c)
  | .kt ks, v => ∃ a, v = .ref a ∧ H a = some (.tup (ks.map kV))
def RepL : List D → List V → Prop
  | [], vs => vs = []
  | x :: xs, vs => ∃ w ws, vs = w :: ws ∧ Rep x w ∧ RepL xs ws
end
def RepO (a : Addr) : O → Prop
  | .lst xs => ∃ vs, H a = some (.lst vs) ∧ RepL G H μ xs vs ∧ xs.length ≤ sizeLine
  | .dic kvs => ∃ ws, H a = some (.dK ws) ∧ ws.map (·.1) = kvs.map (·.1) ∧ RepL G H μ (kvs.map (·.2)) (ws.map (·.2)) ∧ kvs.length ≤ sizeLine
  | .dit kvs => ∃ ws, H a = some (.dT ws) ∧ ws.map (·.1) = kvs.map (·.1) ∧ RepL G H μ (kvs.map (·.2)) (ws.map (·.2)) ∧ kvs.length ≤ sizeLine
  | .ins C fs => ∃ dx ws, H a = some (.ins (G.cl C) dx ws) ∧ ws.map (·.1) = fs.map (·.1) ∧ RepL G H μ (fs.map (·.2)) (ws.map (·.2)) ∧ fs.length ≤ 1000
structure RelS (S : Sto) : Prop where
  len : μ.length = S.length
  nd : μ.Nodup
  obj : ∀ (i : Nat) (o : O) (a : Addr), S[i]? = some o → μ[i]? = some a → RepO G H μ a o
def RelE (ρ : En) (σ : L2.St) : Prop := ρ.length = σ.length ∧ ∀ (i : Nat) (d : D), ρ[i]? = some (some d) → ∃ v, σ[i]? = some (some v) ∧ Rep G H μ d v
end
/-- what data leans on is kept -/
structure Up (H : Hp) (μ : List Addr) (H' : Hp) (μ' : List Addr) : Prop where
  pre : μ <+: μ'
  tup : ∀ a vs, H a = some (.tup vs) → H' a = some (.tup vs)
  frz : ∀ a o u, H a = some (.frz o u) → H' a = some (.frz o u)
/-- what comes later -/
structure Later (H : Hp) (μ : List Addr) (H' : Hp) (μ' : List Addr) : Prop where
  pre : μ <+: μ'
  tup : ∀ a vs, H a = some (.tup vs) → H' a = some (.tup vs)
  frz : ∀ a o u, H a = some (.frz o u) → H' a = some (.frz o u)
  frame : ∀ a o, H a = some o → a ∉ μ → H' a = some o
  fresh : ∀ a, a ∈ μ' → a ∉ μ → H a = none
theorem Later.up {H H' : Hp} {μ μ' : List Addr} (l : Later H μ H' μ') : Up H μ H' μ' := ⟨l.pre, l.tup, l.frz⟩
theorem Later.refl {H : Hp} {μ : List Addr} : Later H μ H μ := ⟨List.prefix_refl _, fun _ _ h => h, fun _ _ _ h => h, fun _ _ h _ => h, fun _ h n => (n h).elim⟩
theorem Later.trans {H H1 H2 : Hp} {μ μ1 μ2 : List Addr} (a : Later H μ H1 μ1) (b : Later H1 μ1 H2 μ2) : Later H μ H2 μ2 where
  pre := a.pre.trans b.pre
  tup := fun x vs h => b.tup x vs (a.tup x vs h)
  frz := fun x o u h => b.frz x o u (a.frz x o u h)
  frame := fun x o h n => by
    refine b.frame x o (a.frame x o h n) fun m => ?_
    have := a.fresh x m n
    rw [this] at h; cases h
  fresh := fun x h n => by
    by_cases m : x ∈ μ1
    · exact a.fresh x m n
    · have := b.fresh x h m
      cases e : H x with
      | none => rfl
      | some o =>
        rw [a.frame x o e n] at this
        cases this
theorem Up.at {H H' : Hp} {μ μ' : List Addr} (l : Up H μ H' μ') {n : Nat} {a : Addr} (h : μ[n]? = some a) : μ'[n]? = some a := by
  obtain ⟨t, rfl⟩ := l.pre
  rw [List.getElem?_append_left (List.getElem?_eq_some_iff.mp h).1]
  exact h
section
variable {G : Pl} {H H' : Hp} {μ μ' : List Addr} {S S' : Sto} {a : Addr}
theorem Up.sqT {vs : List V} (l : Up H μ H' μ') (h : SqT G.K H a vs) : SqT G.K H' a vs := by
  rcases h with (h | ⟨o, h⟩) | h
  · exact .inl (.inl (l.tup _ _ h))
  · exact .inl (.inr ⟨o, l.frz _ _ _ h⟩)
  · exact .inr h
theorem Up.tupAt {vs : List V} {b : Bool} (l : Up H μ H' μ') (h : TupAt G.K H b a vs) : TupAt G.K H' b a vs := ⟨l.sqT h.1, fun e => l.tup _ _ (h.2 e)⟩
theorem Up.sqF {vs : List V} (l : Up H μ H' μ') (h : SqF G.K H a vs) : SqF G.K H' a vs := by
  rcases h with ⟨o, h⟩ | h
  · exact .inl ⟨o, l.frz _ _ _ h⟩
  · exact .inr h
mutual
theorem Rep.up (l : Up H μ H' μ') : ∀ (d : D) (v : V), Rep G H μ d v → Rep G H' μ' d v
  | .non, _, h => h
  | .bl _, _, h => h
  | .int _, _, h => h
  | .str _, _, h => h
  | .tup xs, v, ⟨a, vs, e, s, r, z⟩ => ⟨a, vs, e, l.tupAt s, RepL.up l xs vs r, z⟩
  | .fzl xs, v, ⟨a, vs, e, s, r, z⟩ => ⟨a, vs, e, l.sqF s, RepL.up l xs vs r, z⟩
  | .ref n, v, ⟨a, e, h⟩ => ⟨a, e, l.at h⟩
  | .exc c, v, h => h
  | .kt ks, v, ⟨a, e, h⟩ => ⟨a, e, l.tup _ _ h⟩
theorem RepL.up (l : Up H μ H' μ') : ∀ (xs : List D) (vs : List V), RepL G H μ xs vs → RepL G H' μ' xs vs
  | [], _, h => h
  | x :: xs, vs, ⟨w, ws, e, r, t⟩ => ⟨w, ws, e, Rep.up l x w r, RepL.up l xs ws t⟩
end
theorem Rep.later (l : Later H μ H' μ') (d : D) (v : V) (h : Rep G H μ d v) : Rep G H' μ' d v := Rep.up l.up d v h
theorem RepL.later (l : Later H μ H' μ') (xs : List D) (vs : List V) (h : RepL G H μ xs vs) : RepL G H' μ' xs vs := RepL.up l.up xs vs h
theorem RelE.later {ρ : En} {σ : L2.St} (l : Later H μ H' μ') (h : RelE G H μ ρ σ) : RelE G H' μ' ρ σ :=
  ⟨h.1, fun i d e => let ⟨v, e', r⟩ := h.2 i d e; ⟨v, e', r.later l⟩⟩
theorem RepL.len : ∀ {xs : List D} {vs : List V}, RepL G H μ xs vs → xs.length = vs.length
  | [], vs, h => by cases (show vs = [] from h); rfl
  | x :: xs, vs, ⟨w, ws, e, _, t⟩ => by subst e; simp [RepL.len t]
theorem RepL.get : ∀ {xs : List D} {vs : List V} {i : Nat} {d : D}, RepL G H μ xs vs → xs[i]? = some d → ∃ v, vs[i]? = some v ∧ Rep G H μ d v
  | [], vs, i, d, _, e => by simp at e
  | x :: xs, vs, 0, d, ⟨w, ws, e, r, t⟩, e2 => by
    simp at e2; subst e2; subst e
    exact ⟨w, rfl, r⟩
  | x :: xs, vs, i + 1, d, ⟨w, ws, e, r, t⟩, e2 => by
    subst e
    simpa using RepL.get (i := i) (d := d) t (by simpa using e2)
theorem RepL.app : ∀ {xs ys : List D} {vs ws : List V}, RepL G H μ xs vs → RepL G H μ ys ws → RepL G H μ (xs ++ ys) (vs ++ ws)
  | [], ys, vs, ws, h, h2 => by cases (show vs = [] from h); exact h2
  | x :: xs, ys, vs, ws, ⟨w, us, e, r, t⟩, h2 => by subst e; exact ⟨w, us ++ ws, rfl, r, RepL.app t h2⟩
theorem RepL.take : ∀ {xs : List D} {vs : List V} (n : Nat), RepL G H μ xs vs → RepL G H μ (xs.take n) (vs.take n)
  | [], vs, n, h => by cases (show vs = [] from h); cases n <;> rfl
  | x :: xs, vs, 0, _ => rfl
  | x :: xs, vs, n + 1, ⟨w, us, e, r, t⟩ => by subst e; exact ⟨w, us.take n, rfl, r, RepL.take n t⟩
theorem RepL.drop : ∀ {xs : List D} {vs : List V} (n : Nat), RepL G H μ xs vs → RepL G H μ (xs.drop n) (vs.drop n)
  | [], vs, n, h => by cases (show vs = [] from h); cases n <;> rfl
  | x :: xs, vs, 0, h => h
  | x :: xs, vs, n + 1, ⟨w, us, e, r, t⟩ => by subst e; exact RepL.drop n t
theorem RepL.set {d : D} {v : V} (r : Rep G H μ d v) : ∀ {xs : List D} {vs : List V} (n : Nat), RepL G H μ xs vs → RepL G H μ (xs.set n d) (vs.set n v)
  | [], vs, n, h => by cases (show vs = [] from h); rfl
  | x :: xs, vs, 0, ⟨w, us, e, q, t⟩ => by subst e; exact ⟨v, us, rfl, r, t⟩
  | x :: xs, vs, n + 1, ⟨w, us, e, q, t⟩ => by subst e; exact ⟨w, us.set n v, rfl, q, RepL.set r n t⟩
theorem RepL.one {d : D} {v : V} (r : Rep G H μ d v) : RepL G H μ [d] [v] := ⟨v, [], rfl, r, rfl⟩
theorem RepL.rep {d : D} {v : V} (r : Rep G H μ d v) : ∀ n : Nat, RepL G H μ (List.replicate n d) (List.replicate n v)
  | 0 => rfl
  | n + 1 => ⟨v, _, List.replicate_succ, r, RepL.rep r n⟩
theorem RepO.up (l : Up H μ H' μ') (k : H' a = H a) : ∀ {o : O}, RepO G H μ a o → RepO G H' μ' a o
  | .lst xs, ⟨vs, h, r, z⟩ => ⟨vs, k.trans h, RepL.up l _ _ r, z⟩
  | .dic kvs, ⟨ws, h, e, r, z⟩ => ⟨ws, k.trans h, e, RepL.up l _ _ r, z⟩
  | .dit kvs, ⟨ws, h, e, r, z⟩ => ⟨ws, k.trans h, e, RepL.up l _ _ r, z⟩
  | .ins C fs, ⟨dx, ws, h, e, r, z⟩ => ⟨dx, ws, k.trans h, e, RepL.up l _ _ r, z⟩
theorem RepO.later (l : Later H μ H' μ') (k : H' a = H a) {o : O} (h : RepO G H μ a o) : RepO G H' μ' a o := h.up l.up k
theorem RepO.some {o : O} (h : RepO G H μ a o) : ∃ u, H a = some u ∧ (∀ vs, u ≠ .tup vs) ∧ ∀ ob w, u ≠ .frz ob w := by
  cases o with
  | lst xs => obtain ⟨vs, h, _⟩ := h; exact ⟨_, h, fun _ z => (by cases z), fun _ _ z => (by cases z)⟩
  | dic xs => obtain ⟨vs, h, _⟩ := h; exact ⟨_, h, fun _ z => (by cases z), fun _ _ z => (by cases z)⟩
  | dit xs => obtain ⟨vs, h, _⟩ := h; exact ⟨_, h, fun _ z => (by cases z), fun _ _ z => (by cases z)⟩
  | ins C xs => obtain ⟨_, vs, h, _⟩ := h; exact ⟨_, h, fun _ z => (by cases z), fun _ _ z => (by cases z)⟩
theorem RelS.at (r : RelS G H μ S) {i : Nat} {o : O} (h : S[i]? = some o) : ∃ a, μ[i]? = some a ∧ RepO G H μ a o := by
  have hl : i < μ.length := by rw [r.len]; exact (List.getElem?_eq_some_iff.mp h).1
  exact ⟨μ[i], List.getElem?_eq_getElem hl, r.obj i o _ h (List.getElem?_eq_getElem hl)⟩
theorem RelS.of_mem (r : RelS G H μ S) (h : a ∈ μ) : ∃ (i : Nat) (o : O), S[i]? = some o ∧ μ[i]? = some a ∧ RepO G H μ a o := by
  obtain ⟨i, hi, e⟩ := List.getElem_of_mem h
  have hl : i < S.length := by rw [← r.len]; exact hi
  have h1 : μ[i]? = some a := by rw [List.getElem?_eq_getElem hi, e]
  exact ⟨i, S[i], List.getElem?_eq_getElem hl, h1, r.obj i _ a (List.getElem?_eq_getElem hl) h1⟩
theorem RelS.not_none (r : RelS G H μ S) (h : H a = none) : a ∉ μ := fun m => by
  obtain ⟨i, o, _, _, q⟩ := r.of_mem m
  obtain ⟨u, e, _⟩ := q.some
  rw [h] at e; cases e
/-- a new tuple (or any untold object) -/
theorem Later.new {o : HO} {p : Addr} (h : H p = none) : Later H μ (upd H p o) μ :=
  ⟨List.prefix_refl _, fun a vs e => by rw [upd_ne (ne_of_none e h)]; exact e, fun a vs u e => by rw [upd_ne (ne_of_none e h)]; exact e, fun a u e _ => by rw [upd_ne (ne_of_none e h)]; exact e, fun _ h n => (n h).elim⟩
theorem RelS.new {o : HO} {p : Addr} (r : RelS G H μ S) (h : H p = none) : RelS G (upd H p o) μ S :=
  ⟨r.len, r.nd, fun i u a e1 e2 => by
    have q := r.obj i u a e1 e2
    refine q.later (Later.new h) (upd_ne fun z => ?_)
    subst z
    obtain ⟨w, e, _⟩ := q.some
    rw [h] at e; cases e⟩
/-- a new place -/
theorem Later.place {o : HO} {p : Addr} (h : H p = none) : Later H μ (upd H p o) (μ ++ [p]) :=
  ⟨List.prefix_append _ _, (Later.new (μ := μ) (o := o) h).tup, (Later.new (μ := μ) (o := o) h).frz, (Later.new (μ := μ) (o := o) h).frame, fun a m n => by
    rcases List.mem_append.mp m with m | m
    · exact (n m).elim
    · cases List.mem_singleton.mp m; exact h⟩
theorem get_snoc {α : Type} {l : List α} {x y : α} {i : Nat} (h : (l ++ [x])[i]? = some y) : l[i]? = some y ∨ (i = l.length ∧ y = x) := by
  by_cases hi : i < l.length
  · rw [List.getElem?_append_left hi] at h; exact .inl h
  · rw [List.getElem?_append_right (by omega)] at h
    have : i - l.length = 0 := by
      cases e : i - l.length with
      | zero => rfl
      | succ n => rw [e] at h; simp at h
    rw [this] at h
    simp at h
    exact .inr ⟨by omega, h.symm⟩
theorem RelS.grow {o : O} {p : Addr} (r : RelS G H μ S) (hn : p ∉ μ) (q : RepO G H (μ ++ [p]) p o) : RelS G H (μ ++ [p]) (S ++ [o]) where
  len := by simp [r.len]
  nd := by
    refine List.nodup_append.mpr ⟨r.nd, by simp, ?_⟩
    intro a ha b hb e
    cases List.mem_singleton.mp hb
    exact hn (e ▸ ha)
  obj := fun i u a e1 e2 => by
    rcases get_snoc e2 with e2 | ⟨rfl, rfl⟩
    · rcases get_snoc e1 with e1 | ⟨rfl, rfl⟩
      · exact (r.obj i u a e1 e2).up ⟨List.prefix_append _ _, fun _ _ h => h, fun _ _ _ h => h⟩ rfl
      · have := (List.getElem?_eq_some_iff.mp e2).1
        rw [r.len] at this
        exact absurd this (Nat.lt_irrefl _)
    · rw [r.len] at e1
      rcases get_snoc e1 with e1 | ⟨_, rfl⟩
      · have := (List.getElem?_eq_some_iff.mp e1).1
        exact absurd this (Nat.lt_irrefl _)
      · exact q
/-- a place is written -/
theorem Later.write {o : HO} {n : Nat} (r : RelS G H μ S) (h : μ[n]? = some a) : Later H μ (upd H a o) μ := by
  have m : a ∈ μ := List.mem_of_getElem? h
  obtain ⟨i, u, _, _, q⟩ := r.of_mem m
  obtain ⟨w, e, n1, n2⟩ := q.some
  refine ⟨List.prefix_refl _, fun b vs z => ?_, fun b ob u z => ?_, fun b u z nb => ?_, fun _ h n => (n h).elim⟩
  · rw [upd_ne (ne_of z e fun k => n1 _ k.symm)]; exact z
  · rw [upd_ne (ne_of z e fun k => n2 _ _ k.symm)]; exact z
  · rw [upd_ne (show b ≠ a from fun k => nb (by rw [k]; exact m))]; exact z
theorem RelS.write {o : HO} {u : O} {n : Nat} (r : RelS G H μ S) (h : μ[n]? = some a) (q : RepO G (upd H a o) μ a u) : RelS G (upd H a o) μ (S.set n u) where
  len := by simp [r.len]
  nd := r.nd
  obj := fun i v b e1 e2 => by
    by_cases hi : i = n
    · subst hi
      rw [h] at e2; cases e2
      have hl : i < S.length := by
        rw [← r.len]; exact (List.getElem?_eq_some_iff.mp h).1
      rw [List.getElem?_set_self hl] at e1
      cases e1
      exact q
    · rw [List.getElem?_set_ne (Ne.symm hi)] at e1
      refine (r.obj i v b e1 e2).later (Later.write r h) (upd_ne fun z => hi ?_)
      subst z
      have h1 := List.getElem?_eq_some_iff.mp e2
      have h2 := List.getElem?_eq_some_iff.mp h
      exact (List.getElem_inj r.nd).mp (h1.2.trans h2.2.symm)
end
end SB

/-! judgements: a piece of syntax and the outcome it has -/
namespace SB
open PySem PySem.Spec PyProof.Rows L2
open Classical

def Run {α β : Type} (G : Pl) (W : WX) (σ : L2.St) (H : Hp) (μ : List Addr) (r : R α) (Rp : Hp → List Addr → α → β → Prop) (Q : β → Hp → Prop) : Prop := match r with
  | .ok a S' => ∀ b H' μ', Later H μ H' μ' → RelS G H' μ' S' → Rp H' μ' a b → Q b H'
  | .err c S' => ∀ H' μ', Later H μ H' μ' → RelS G H' μ' S' → W (.ref (G.cl c)) none σ H'
  | .bad => False
section
variable {G : Pl} {W : WX} {σ : L2.St} {H H' : Hp} {μ μ' : List Addr} {α β γ δ : Type} {Rp : Hp → List Addr → α → β → Prop} {Rq : Hp → List Addr → γ → δ → Prop} {Q : β → Hp → Prop} {Q' : δ → Hp → Prop} {S : Sto}
theorem Run.later {r : R α} (l : Later H μ H' μ') (h : Run G W σ H μ r Rp Q) : Run G W σ H' μ' r Rp Q := by
  cases r with
  | ok a S' => exact fun b H2 μ2 l2 => h b H2 μ2 (l.trans l2)
  | err c S' => exact fun H2 μ2 l2 => h H2 μ2 (l.trans l2)
  | bad => exact h
theorem Run.step {r : R γ} {f : γ → Sto → R α} (h : Run G W σ H μ (r.bind f) Rp Q)
    (k : ∀ a S' b H' μ', Later H μ H' μ' → RelS G H' μ' S' → Rq H' μ' a b → Run G W σ H' μ' (f a S') Rp Q → Q' b H') : Run G W σ H μ r Rq Q' := by
  cases r with
  | ok a S' => exact fun b H2 μ2 l s q => k a S' b H2 μ2 l s q (Run.later l h)
  | err c S' => exact h
  | bad => exact h
/-- the rest's run as it is ahead -/
theorem Run.stepL {r : R γ} {f : γ → Sto → R α} (h : Run G W σ H μ (r.bind f) Rp Q)
    (k : ∀ a S' b H' μ', Later H μ H' μ' → RelS G H' μ' S' → Rq H' μ' a b → Run G W σ H μ (f a S') Rp Q → Q' b H') : Run G W σ H μ r Rq Q' := by
  cases r with
  | ok a S' => exact fun b H2 μ2 l s q => k a S' b H2 μ2 l s q h
  | err c S' => exact h
  | bad => exact h
theorem Run.now {a : α} {b : β} (h : Run G W σ H μ (.ok a S) Rp Q) (s : RelS G H μ S) (r : Rp H μ a b) : Q b H := h b H μ .refl s r
/-- the heap has one object more, not a place -/
theorem Run.new {a : α} {b : β} {p : Addr} {o : HO} (h : Run G W σ H μ (.ok a S) Rp Q) (s : RelS G H μ S) (n : H p = none) (r : Rp (upd H p o) μ a b) : Q b (upd H p o) :=
  h b _ μ (Later.new n) (s.new n) r
end
abbrev RepT : Hp → List Addr → Bool → Bool → Prop := fun _ _ a b => a = b
abbrev RepE (G : Pl) : Hp → List Addr → D → V → Prop := Rep G
abbrev RepA (G : Pl) : Hp → List Addr → List D → List V → Prop := RepL G
abbrev RepQ {α : Type} : Hp → List Addr → α → α → Prop := fun _ _ a b => a = b
def dE (G : Pl) (W : WX) (ev : En → Sto → R D) : TE := fun σ H Q => ∃ ρ S μ, RelE G H μ ρ σ ∧ RelS G H μ S ∧ Run G W σ H μ (ev ρ S) (Rep G) Q
def dT (G : Pl) (W : WX) (ev : En → Sto → R Bool) : TT := fun σ H Q => ∃ ρ S μ, RelE G H μ ρ σ ∧ RelS G H μ S ∧ Run G W σ H μ (ev ρ S) RepT Q
def dA (G : Pl) (W : WX) (ev : En → Sto → R (List D)) : TA := fun σ H Q => ∃ ρ S μ, RelE G H μ ρ σ ∧ RelS G H μ S ∧ Run G W σ H μ (ev ρ S) (RepL G) Q
def dO (G : Pl) (W : WX) (ev : En → Sto → R (Option Int)) : TO := fun σ H Q => ∃ ρ S μ, RelE G H μ ρ σ ∧ RelS G H μ S ∧ Run G W σ H μ (ev ρ S) RepQ Q
/-- a list just made, at no place -/
def RepN (G : Pl) (H0 : Hp) : Hp → List Addr → List D → V → Prop := fun H μ xs v => ∃ a vs, v = .ref a ∧ H0 a = none ∧ H a = some (.lst vs) ∧ a ∉ μ ∧ RepL G H μ xs vs ∧ xs.length ≤ sizeLine
def dL (G : Pl) (W : WX) (ev : En → Sto → R (List D)) : TE := fun σ H Q => ∃ ρ S μ, RelE G H μ ρ σ ∧ RelS G H μ S ∧ Run G W σ H μ (ev ρ S) (RepN G H) Q

theorem _root_.L2.PE.weak {X : Cx} {e : PySem.Expr} {t u : TE} (h : PE X e t) (k : ∀ σ H Q, u σ H Q → t σ H Q) : PE X e u := ⟨fun pins s σ H Q I q => h.run pins s σ H Q I (k σ H Q q)⟩
theorem _root_.L2.PT.weak {X : Cx} {e : PySem.Expr} {t u : TT} (h : PT X e t) (k : ∀ σ H Q, u σ H Q → t σ H Q) : PT X e u := ⟨fun pins s σ H Q I q => h.run pins s σ H Q I (k σ H Q q)⟩
theorem _root_.L2.PW.weak {X : Cx} {e : PySem.Expr} {t u : TT} (h : PW X e t) (k : ∀ σ H Q, u σ H Q → t σ H Q) : PW X e u := ⟨fun w pins s σ H Q I q => h.run w pins s σ H Q I (k σ H Q q)⟩
theorem _root_.L2.PA.weak {X : Cx} {e : List PySem.Expr} {t u : TA} (h : PA X e t) (k : ∀ σ H Q, u σ H Q → t σ H Q) : PA X e u := ⟨fun pos pins s σ H Q I q => h.run pos pins s σ H Q I (k σ H Q q)⟩
theorem _root_.L2.PO.weak {X : Cx} {e : Option PySem.Expr} {t u : TO} (h : PO X e t) (k : ∀ σ H Q, u σ H Q → t σ H Q) : PO X e u := ⟨fun pins s σ H Q I q => h.run pins s σ H Q I (k σ H Q q)⟩

section
variable {X : Cx} {G : Pl} {W : WX} {a b c e : PySem.Expr} {es : List PySem.Expr} {pos : Pos} {eva evb evc : En → Sto → R D} {evs : En → Sto → R (List D)}

/-! ### names, constants -/
theorem sE_var {i : Nat} {x : Str} (h : PE X (.Name x pos) (tVar i)) : PE X (.Name x pos) (dE G W fun ρ S => ro (ρ[i]?.join) S) := by
  refine h.weak fun σ H Q ⟨ρ, S, μ, hE, hS, r⟩ => ?_
  dsimp only at r
  cases e : ρ[i]?.join with
  | none => rw [e] at r; exact False.elim r
  | some d =>
    rw [e] at r
    have e1 : ρ[i]? = some (some d) := by
      cases q : ρ[i]? with
      | none => rw [q] at e; cases e
      | some o => rw [q] at e; cases o with
        | none => cases e
        | some d' => cases e; rfl
    obtain ⟨v, e2, q⟩ := hE.2 i d e1
    exact ⟨v, e2, Run.now r hS q⟩
theorem sE_cst {d : D} {v : V} {e : PySem.Expr} (h : PE X e (tC v)) (q : ∀ H μ, Rep G H μ d v) : PE X e (dE G W fun _ S => .ok d S) := by
  refine h.weak fun σ H Q ⟨ρ, S, μ, hE, hS, r⟩ => Run.now r hS (q H μ)

/-! ### two places -/
/-- a rule of values for an outcome of data -/
def OpD (X : Cx) (G : Pl) (f : Value → Value → Sem Value) (ev : D → D → Sto → R D) : Prop :=
  ∃ r : R2, OpR X f r ∧ ∀ (W : WX) (σ : L2.St) (x y : D) (v w : V) (H : Hp) (μ : List Addr) (S : Sto) (Q : VK), RelS G H μ S → Rep G H μ x v → Rep G H μ y w → Run G W σ H μ (ev x y S) (Rep G) Q → r v w H Q
theorem two {ev : D → D → Sto → R D} {r : R2} {σ : L2.St} {H : Hp} {Q : VK}
    (hr : ∀ (W : WX) (σ : L2.St) (x y : D) (v w : V) (H : Hp) (μ : List Addr) (S : Sto) (Q : VK), RelS G H μ S → Rep G H μ x v → Rep G H μ y w → Run G W σ H μ (ev x y S) (Rep G) Q → r v w H Q)
    (h : dE G W (fun ρ S => (eva ρ S).bind fun x S1 => (evb ρ S1).bind fun y S2 => ev x y S2) σ H Q) : tOp r (dE G W eva) (dE G W evb) σ H Q := by
  obtain ⟨ρ, S, μ, hE, hS, h⟩ := h
  refine ⟨ρ, S, μ, hE, hS, h.step fun x S1 v H1 μ1 l1 s1 q1 h1 => ?_⟩
  refine ⟨ρ, S1, μ1, hE.later l1, s1, h1.step fun y S2 w H2 μ2 l2 s2 q2 h2 => ?_⟩
  exact hr W σ x y v w H2 μ2 S2 Q s2 (q1.later l2) q2 h2
theorem sE_bin {o : Operator} {ev : D → D → Sto → R D} (ho : OpD X G (binaryOp o) ev) (ha : PE X a (dE G W eva)) (hb : PE X b (dE G W evb)) :
    PE X (.BinOp a o b pos) (dE G W fun ρ S => (eva ρ S).bind fun x S1 => (evb ρ S1).bind fun y S2 => ev x y S2) := by
  obtain ⟨r, h1, h2⟩ := ho
  exact (pe_op h1 ha hb).weak fun σ H Q h => two h2 h
theorem sE_cmp {o : CmpOp} {ev : D → D → Sto → R D} (ho : OpD X G (compareOp o) ev) (ha : PE X a (dE G W eva)) (hb : PE X b (dE G W evb)) (hm : behindInMarks o b = false) :
    PE X (.Compare a [o] [b] pos) (dE G W fun ρ S => (eva ρ S).bind fun x S1 => (evb ρ S1).bind fun y S2 => ev x y S2) := by
  obtain ⟨r, h1, h2⟩ := ho
  exact (pe_cmpR h1 ha hb hm).weak fun σ H Q h => two h2 h
/-- what is a truth value -/
theorem toB_run {β : Type} {Rp : Hp → List Addr → Bool → β → Prop} {σ : L2.St} {H : Hp} {μ : List Addr} {x : D} {v : V} {S : Sto} {Q : β → Hp → Prop} (q : Rep G H μ x v) (h : Run G W σ H μ (toB x S) Rp Q) :
    ∃ k, x = .bl k ∧ v = .bl k ∧ Run G W σ H μ (.ok k S) Rp Q := by
  cases x with
  | bl k => exact ⟨k, rfl, q, h⟩
  | _ => exact False.elim h
theorem sT_cmp {o : CmpOp} {ev : D → D → Sto → R D} (ho : OpD X G (compareOp o) ev) (ha : PE X a (dE G W eva)) (hb : PE X b (dE G W evb)) (hm : behindInMarks o b = false) :
    PT X (.Compare a [o] [b] pos) (dT G W fun ρ S => ((eva ρ S).bind fun x S1 => (evb ρ S1).bind fun y S2 => ev x y S2).bind toB) := by
  obtain ⟨r, h1, h2⟩ := ho
  refine (pt_cmpR h1 ha hb hm).weak fun σ H Q ⟨ρ, S, μ, hE, hS, h⟩ => ?_
  refine two h2 ⟨ρ, S, μ, hE, hS, h.step fun x S1 v H1 μ1 l1 s1 q1 h1 => ?_⟩
  obtain ⟨k, e1, e2, h3⟩ := toB_run q1 h1
  exact ⟨k, e2, Run.now h3 s1 rfl⟩
/-- an expression as a test -/
theorem sT_val (he : ∀ whole, isTrue e X.env whole = (do let v ← whole; standAt e.pos; holding [v] (truthy v))) (ha : PE X e (dE G W eva)) : PT X e (dT G W fun ρ S => (eva ρ S).bind toB) := by
  refine (pt_val ha he).weak fun σ H Q ⟨ρ, S, μ, hE, hS, h⟩ => ?_
  refine ⟨ρ, S, μ, hE, hS, h.step fun x S1 v H1 μ1 l1 s1 q1 h1 => ?_⟩
  obtain ⟨k, e1, e2, h3⟩ := toB_run q1 h1
  exact ⟨k, e2, Run.now h3 s1 rfl⟩
theorem sE_un {o : UnaryOp} {r : V → Hp → VK → Prop} {ev : D → Sto → R D} (ho : UnR X (unaryOp o) r) (ha : PE X a (dE G W eva))
    (hr : ∀ (σ : L2.St) (x : D) (v : V) (H : Hp) (μ : List Addr) (S : Sto) (Q : VK), RelS G H μ S → Rep G H μ x v → Run G W σ H μ (ev x S) (Rep G) Q → r v H Q) :
    PE X (.UnaryOp o a pos) (dE G W fun ρ S => (eva ρ S).bind ev) := by
  refine (pe_un ho ha).weak fun σ H Q ⟨ρ, S, μ, hE, hS, h⟩ => ?_
  exact ⟨ρ, S, μ, hE, hS, h.step fun x S1 v H1 μ1 l1 s1 q1 h1 => hr σ x v H1 μ1 S1 Q s1 q1 h1⟩
theorem sE_neg (ha : PE X a (dE G W eva)) : PE X (.UnaryOp .USub a pos) (dE G W fun ρ S => (eva ρ S).bind negD) := by
  refine sE_un un_neg ha fun σ x v H μ S Q s q h => ?_
  cases x with
  | int i => exact ⟨i, q, Run.now h s rfl⟩
  | _ => exact False.elim h
/-! ### chains -/
theorem chain_read {o p : CmpOp} {ev ev' : D → D → Sto → R D} {r r' : R2} {σ : L2.St} {H : Hp} {Q : VK}
    (h2 : ∀ (W : WX) (σ : L2.St) (x y : D) (v w : V) (H : Hp) (μ : List Addr) (S : Sto) (Q : VK), RelS G H μ S → Rep G H μ x v → Rep G H μ y w → Run G W σ H μ (ev x y S) (Rep G) Q → r v w H Q)
    (h2' : ∀ (W : WX) (σ : L2.St) (x y : D) (v w : V) (H : Hp) (μ : List Addr) (S : Sto) (Q : VK), RelS G H μ S → Rep G H μ x v → Rep G H μ y w → Run G W σ H μ (ev' x y S) (Rep G) Q → r' v w H Q)
    (h : dE G W (fun ρ S => (eva ρ S).bind fun x S1 => (evb ρ S1).bind fun y S2 => ((ev x y S2).bind toB).bind fun k S3 => if k = true then (evc ρ S3).bind fun z S4 => ev' y z S4 else .ok (.bl false) S3) σ H Q) :
    tChain r r' (dE G W eva) (dE G W evb) (dE G W evc) σ H Q := by
  obtain ⟨ρ, S, μ, hE, hS, h⟩ := h
  refine ⟨ρ, S, μ, hE, hS, h.step fun x S1 v H1 μ1 l1 s1 q1 h1 => ?_⟩
  refine ⟨ρ, S1, μ1, hE.later l1, s1, h1.step fun y S2 w H2 μ2 l2 s2 q2 h3 => ?_⟩
  have h4 : Run G W σ H2 μ2 ((ev x y S2).bind fun z S3 => (toB z S3).bind fun k S3 => if k = true then (evc ρ S3).bind fun z S4 => ev' y z S4 else .ok (.bl false) S3) (Rep G) Q := by
    cases e : ev x y S2 <;> rw [e] at h3 <;> exact h3
  refine h2 W σ x y v w H2 μ2 S2 _ s2 (q1.later l2) q2 (h4.step fun z S3 u H3 μ3 l3 s3 q3 h5 => ?_)
  cases z with
  | bl k =>
    refine ⟨k, q3, ?_⟩
    cases k with
    | true =>
      refine ⟨ρ, S3, μ3, hE.later ((l1.trans l2).trans l3), s3, Run.step (show Run G W σ H3 μ3 ((evc ρ S3).bind fun z S4 => ev' y z S4) (Rep G) Q from h5) fun z S4 u4 H4 μ4 l4 s4 q4 h6 => ?_⟩
      exact h2' W σ y z w u4 H4 μ4 S4 Q s4 (q2.later (l3.trans l4)) q4 h6
    | false => exact Run.now (show Run G W σ H3 μ3 (.ok (.bl false) S3) (Rep G) Q from h5) s3 rfl
  | _ => exact False.elim h5
theorem sE_chn {o p : CmpOp} {ev ev' : D → D → Sto → R D} (ho : OpD X G (compareOp o) ev) (ho' : OpD X G (compareOp p) ev') (ha : PE X a (dE G W eva)) (hb : PE X b (dE G W evb)) (hc : PE X c (dE G W evc)) (hm : lastMarks [o, p] [b, c] = false) :
    PE X (.Compare a [o, p] [b, c] pos) (dE G W (fun ρ S => (eva ρ S).bind fun x S1 => (evb ρ S1).bind fun y S2 => ((ev x y S2).bind toB).bind fun k S3 => if k = true then (evc ρ S3).bind fun z S4 => ev' y z S4 else .ok (.bl false) S3)) := by
  obtain ⟨r, h1, h2⟩ := ho
  obtain ⟨r', h1', h2'⟩ := ho'
  exact (pe_chain h1 h1' ha hb hc hm).weak fun σ H Q h => chain_read (o := o) (p := p) h2 h2' h
/-- a value's run is a test's -/
theorem dE_test {ev : En → Sto → R D} {σ : L2.St} {H : Hp} {Q : Bool → Hp → Prop} (h : dT G W (fun ρ S => (ev ρ S).bind toB) σ H Q) : dE G W ev σ H fun v H1 => ∃ k, v = .bl k ∧ Q k H1 := by
  obtain ⟨ρ, S, μ, hE, hS, h⟩ := h
  refine ⟨ρ, S, μ, hE, hS, h.step fun x S1 v H1 μ1 l1 s1 q1 h1 => ?_⟩
  obtain ⟨k, e1, e2, h3⟩ := toB_run q1 h1
  exact ⟨k, e2, Run.now h3 s1 rfl⟩
theorem sT_chn {o p : CmpOp} {ev ev' : D → D → Sto → R D} (ho : OpD X G (compareOp o) ev) (ho' : OpD X G (compareOp p) ev') (ha : PE X a (dE G W eva)) (hb : PE X b (dE G W evb)) (hc : PE X c (dE G W evc)) (hm : lastMarks [o, p] [b, c] = false) :
    PT X (.Compare a [o, p] [b, c] pos) (dT G W (fun ρ S => ((eva ρ S).bind fun x S1 => (evb ρ S1).bind fun y S2 => ((ev x y S2).bind toB).bind fun k S3 => if k = true then (evc ρ S3).bind fun z S4 => ev' y z S4 else .ok (.bl false) S3).bind toB)) := by
  obtain ⟨r, h1, h2⟩ := ho
  obtain ⟨r', h1', h2'⟩ := ho'
  exact (pt_chain h1 h1' ha hb hc hm).weak fun σ H Q h => chain_read (o := o) (p := p) h2 h2' (dE_test h)
/-! ### is None -/
theorem isNon_rep {H : Hp} {μ : List Addr} {x : D} {v : V} (q : Rep G H μ x v) : isNon x = decide (v = .non) := by
  cases x with
  | non => cases (show v = .non from q); rfl
  | bl b => cases (show v = .bl b from q); rfl
  | int b => cases (show v = .int b from q); rfl
  | str b => cases (show v = .str b from q); rfl
  | tup b => obtain ⟨_, _, rfl, _⟩ := q; rfl
  | fzl b => obtain ⟨_, _, rfl, _⟩ := q; rfl
  | ref b => obtain ⟨_, rfl, _⟩ := q; rfl
  | exc b => obtain ⟨_, rfl, _⟩ := q; rfl
  | kt b => obtain ⟨_, rfl, _⟩ := q; rfl
abbrev vIsN (neg : Bool) (eva : En → Sto → R D) : En → Sto → R D := fun ρ S => (eva ρ S).bind (isND neg)
theorem isN_read {neg : Bool} {σ : L2.St} {H : Hp} {Q : VK} (h : dE G W (vIsN neg eva) σ H Q) :
    dE G W eva σ H fun v H1 => Q (.bl (if neg = true then !decide (v = .non) else decide (v = .non))) H1 := by
  obtain ⟨ρ, S, μ, hE, hS, h⟩ := h
  refine ⟨ρ, S, μ, hE, hS, h.step fun x S1 v H1 μ1 l1 s1 q1 h1 => ?_⟩
  exact Run.now (show Run G W σ H1 μ1 (.ok (.bl (if neg = true then !isNon x else isNon x)) S1) (Rep G) Q from h1) s1 (by rw [isNon_rep q1] <;> rfl)
theorem sE_isN {j : Nat} {p2 : Pos} (ha : PE X a (dE G W eva)) : PE X (.Compare a [.Is] [.Constant .none j p2] pos) (dE G W (vIsN false eva)) :=
  (pe_cmp (pc_isN ha) rfl).weak fun σ H Q h => isN_read h
theorem sE_notN {j : Nat} {p2 : Pos} (ha : PE X a (dE G W eva)) : PE X (.Compare a [.IsNot] [.Constant .none j p2] pos) (dE G W (vIsN true eva)) :=
  (pe_cmp (pc_notN ha) rfl).weak fun σ H Q h => isN_read h
theorem sT_isN {j : Nat} {p2 : Pos} (ha : PE X a (dE G W eva)) : PT X (.Compare a [.Is] [.Constant .none j p2] pos) (dT G W fun ρ S => (vIsN false eva ρ S).bind toB) :=
  (pt_cmp (pc_isN ha) rfl).weak fun σ H Q h => isN_read (dE_test h)
theorem sT_notN {j : Nat} {p2 : Pos} (ha : PE X a (dE G W eva)) : PT X (.Compare a [.IsNot] [.Constant .none j p2] pos) (dT G W fun ρ S => (vIsN true eva ρ S).bind toB) :=
  (pt_cmp (pc_notN ha) rfl).weak fun σ H Q h => isN_read (dE_test h)
/-! ### and, or, not, if -/
def vAnd (eva evb : En → Sto → R D) : En → Sto → R D := fun ρ S => ((eva ρ S).bind toB).bind fun k S1 => if k = true then ((evb ρ S1).bind toB).bind fun k S2 => .ok (.bl k) S2 else .ok (.bl false) S1
def vOr (eva evb : En → Sto → R D) : En → Sto → R D := fun ρ S => ((eva ρ S).bind toB).bind fun k S1 => if k = true then .ok (.bl true) S1 else ((evb ρ S1).bind toB).bind fun k S2 => .ok (.bl k) S2
theorem bind_assoc {α β γ : Type} {r : R α} {f : α → Sto → R β} {g : β → Sto → R γ} : (r.bind f).bind g = r.bind fun a S => (f a S).bind g := by cases r <;> rfl
theorem sE_and {rest : List PySem.Expr} (ha : PE X a (dE G W eva)) (hb : PE X (.BoolOp .And (b :: rest) pos) (dE G W evb)) : PE X (.BoolOp .And (a :: b :: rest) pos) (dE G W (vAnd eva evb)) := by
  refine (pe_and ha hb).weak fun σ H Q ⟨ρ, S, μ, hE, hS, h⟩ => ?_
  unfold vAnd at h
  rw [bind_assoc] at h
  refine ⟨ρ, S, μ, hE, hS, h.step fun x S1 v H1 μ1 l1 s1 q1 h1 => ?_⟩
  cases x with
  | bl k =>
    refine ⟨k, q1, ?_⟩
    cases k with
    | true =>
      rw [if_pos rfl]
      have h2 : Run G W σ H1 μ1 ((evb ρ S1).bind fun x S2 => (toB x S2).bind fun k S2 => .ok (.bl k) S2) (Rep G) Q := by rw [← bind_assoc]; exact h1
      refine ⟨ρ, S1, μ1, hE.later l1, s1, h2.step fun y S2 w H2 μ2 l2 s2 q2 h3 => ?_⟩
      cases y with
      | bl k => cases (show w = .bl k from q2); exact Run.now (show Run G W σ H2 μ2 (.ok (.bl k) S2) (Rep G) Q from h3) s2 rfl
      | _ => exact False.elim h3
    | false =>
      rw [if_neg Bool.false_ne_true]
      exact Run.now (show Run G W σ H1 μ1 (.ok (.bl false) S1) (Rep G) Q from h1) s1 rfl
  | _ => exact False.elim h1
theorem sE_or {rest : List PySem.Expr} (ha : PE X a (dE G W eva)) (hb : PE X (.BoolOp .Or (b :: rest) pos) (dE G W evb)) : PE X (.BoolOp .Or (a :: b :: rest) pos) (dE G W (vOr eva evb)) := by
  refine (pe_or ha hb).weak fun σ H Q ⟨ρ, S, μ, hE, hS, h⟩ => ?_
  unfold vOr at h
  rw [bind_assoc] at h
  refine ⟨ρ, S, μ, hE, hS, h.step fun x S1 v H1 μ1 l1 s1 q1 h1 => ?_⟩
  cases x with
  | bl k =>
    refine ⟨k, q1, ?_⟩
    cases k with
    | false =>
      rw [if_neg Bool.false_ne_true]
      have h2 : Run G W σ H1 μ1 ((evb ρ S1).bind fun x S2 => (toB x S2).bind fun k S2 => .ok (.bl k) S2) (Rep G) Q := by rw [← bind_assoc]; exact h1
      refine ⟨ρ, S1, μ1, hE.later l1, s1, h2.step fun y S2 w H2 μ2 l2 s2 q2 h3 => ?_⟩
      cases y with
      | bl k => cases (show w = .bl k from q2); exact Run.now (show Run G W σ H2 μ2 (.ok (.bl k) S2) (Rep G) Q from h3) s2 rfl
      | _ => exact False.elim h3
    | true =>
      rw [if_pos rfl]
      exact Run.now (show Run G W σ H1 μ1 (.ok (.bl true) S1) (Rep G) Q from h1) s1 rfl
  | _ => exact False.elim h1
abbrev tb (ev : En → Sto → R D) : En → Sto → R Bool := fun ρ S => (ev ρ S).bind toB
theorem runT_step {σ : L2.St} {H : Hp} {μ : List Addr} {α β : Type} {Rp : Hp → List Addr → α → β → Prop} {Q : β → Hp → Prop} {f : Bool → Sto → R α} {r : R Bool} {Q' : Bool → Hp → Prop}
    (h : Run G W σ H μ (r.bind f) Rp Q) (k : ∀ b S' H' μ', Later H μ H' μ' → RelS G H' μ' S' → Run G W σ H' μ' (f b S') Rp Q → Q' b H') : Run G W σ H μ r RepT Q' :=
  h.step fun a S' b H' μ' l s e h' => by cases e; exact k a S' H' μ' l s h'
theorem sW_and {rest : List PySem.Expr} (ha : PT X a (dT G W (tb eva))) (hb : PW X (.BoolOp .And (b :: rest) pos) (dT G W (tb evb))) : PW X (.BoolOp .And (a :: b :: rest) pos) (dT G W (tb (vAnd eva evb))) := by
  refine (pw_and ha hb).weak fun σ H Q ⟨ρ, S, μ, hE, hS, h⟩ => ?_
  unfold tb vAnd at h
  rw [bind_assoc] at h
  refine ⟨ρ, S, μ, hE, hS, runT_step h fun k S1 H1 μ1 l1 s1 h1 => ?_⟩
  cases k with
  | true =>
    rw [if_pos rfl]
    refine ⟨ρ, S1, μ1, hE.later l1, s1, ?_⟩
    have e : (((evb ρ S1).bind toB).bind fun k S2 => R.ok (.bl k) S2).bind toB = (evb ρ S1).bind toB := by
      cases (evb ρ S1).bind toB <;> rfl
    rw [if_pos rfl, e] at h1
    exact h1
  | false =>
    rw [if_neg Bool.false_ne_true]
    exact Run.now (show Run G W σ H1 μ1 (.ok false S1) RepT Q from h1) s1 rfl
theorem sW_or {rest : List PySem.Expr} (ha : PT X a (dT G W (tb eva))) (hb : PW X (.BoolOp .Or (b :: rest) pos) (dT G W (tb evb))) : PW X (.BoolOp .Or (a :: b :: rest) pos) (dT G W (tb (vOr eva evb))) := by
  refine (pw_or ha hb).weak fun σ H Q ⟨ρ, S, μ, hE, hS, h⟩ => ?_
  unfold tb vOr at h
  rw [bind_assoc] at h
  refine ⟨ρ, S, μ, hE, hS, runT_step h fun k S1 H1 μ1 l1 s1 h1 => ?_⟩
  cases k with
  | false =>
    rw [if_neg Bool.false_ne_true]
    refine ⟨ρ, S1, μ1, hE.later l1, s1, ?_⟩
    have e : (((evb ρ S1).bind toB).bind fun k S2 => R.ok (.bl k) S2).bind toB = (evb ρ S1).bind toB := by
      cases (evb ρ S1).bind toB <;> rfl
    rw [if_neg Bool.false_ne_true, e] at h1
    exact h1
  | true =>
    rw [if_pos rfl]
    exact Run.now (show Run G W σ H1 μ1 (.ok true S1) RepT Q from h1) s1 rfl
theorem sT_not (ha : PT X a (dT G W (tb eva))) : PT X (.UnaryOp .Not a pos) (dT G W (tb fun ρ S => ((eva ρ S).bind toB).bind fun b S1 => .ok (.bl (!b)) S1)) := by
  refine (pt_not ha).weak fun σ H Q ⟨ρ, S, μ, hE, hS, h⟩ => ?_
  unfold tb at h
  rw [bind_assoc] at h
  exact ⟨ρ, S, μ, hE, hS, runT_step h fun k S1 H1 μ1 l1 s1 h1 => Run.now (show Run G W σ H1 μ1 (.ok (!k) S1) RepT Q from h1) s1 rfl⟩
theorem sE_not (ha : PE X a (dE G W eva)) : PE X (.UnaryOp .Not a pos) (dE G W fun ρ S => ((eva ρ S).bind toB).bind fun b S1 => .ok (.bl (!b)) S1) := by
  refine (pe_not ha).weak fun σ H Q ⟨ρ, S, μ, hE, hS, h⟩ => ?_
  dsimp only at h
  rw [bind_assoc] at h
  refine ⟨ρ, S, μ, hE, hS, h.step fun x S1 v H1 μ1 l1 s1 q1 h1 => ?_⟩
  cases x with
  | bl k => exact ⟨k, q1, Run.now (show Run G W σ H1 μ1 (.ok (.bl (!k)) S1) (Rep G) Q from h1) s1 rfl⟩
  | _ => exact False.elim h1
theorem sE_ite (hc : PT X c (dT G W (tb evc))) (ha : PE X a (dE G W eva)) (hb : PE X b (dE G W evb)) : PE X (.IfExp c a b pos) (dE G W fun ρ S => ((evc ρ S).bind toB).bind fun k S1 => if k = true then eva ρ S1 else evb ρ S1) := by
  refine (pe_ifExp hc ha hb).weak fun σ H Q ⟨ρ, S, μ, hE, hS, h⟩ => ?_
  refine ⟨ρ, S, μ, hE, hS, runT_step h fun k S1 H1 μ1 l1 s1 h1 => ?_⟩
  cases k with
  | true => rw [if_pos rfl] at h1 ⊢; exact ⟨ρ, S1, μ1, hE.later l1, s1, h1⟩
  | false => rw [if_neg Bool.false_ne_true] at h1 ⊢; exact ⟨ρ, S1, μ1, hE.later l1, s1, h1⟩
/-! ### arguments, displays -/
theorem sA_nil : PA X [] (dA G W fun _ S => .ok [] S) := pa_nil.weak fun σ H Q ⟨ρ, S, μ, hE, hS, h⟩ => Run.now h hS rfl
theorem sA_cons (ha : PE X a (dE G W eva)) (hr : PA X es (dA G W evs)) (hs : starEach (a :: es) X.env = (false, eval a X.env) :: starEach es X.env) :
    PA X (a :: es) (dA G W fun ρ S => (eva ρ S).bind fun x S1 => (evs ρ S1).bind fun xs S2 => .ok (x :: xs) S2) := by
  refine (pa_cons ha hr hs).weak fun σ H Q ⟨ρ, S, μ, hE, hS, h⟩ => ?_
  refine ⟨ρ, S, μ, hE, hS, h.step fun x S1 v H1 μ1 l1 s1 q1 h1 => ?_⟩
  refine ⟨ρ, S1, μ1, hE.later l1, s1, h1.step fun xs S2 vs H2 μ2 l2 s2 q2 h2 => ?_⟩
  exact Run.now h2 s2 ⟨v, vs, rfl, q1.later l2, q2⟩
theorem sE_tup {k : Nat} (ha : PA X es (dA G W evs)) : PE X (.Tuple es k pos) (dE G W fun ρ S => (evs ρ S).bind tupD) := by
  refine (pe_tup ha).weak fun σ H Q ⟨ρ, S, μ, hE, hS, h⟩ => ?_
  refine ⟨ρ, S, μ, hE, hS, h.step fun xs S1 vs H1 μ1 l1 s1 q1 h1 => ?_⟩
  unfold tupD at h1
  by_cases z : xs.length ≤ sizeLine
  · rw [if_pos z] at h1
    refine ⟨by rw [← RepL.len q1]; exact z, fun p hp => ?_⟩
    exact Run.new h1 s1 hp ⟨p, vs, rfl, .new, RepL.later (Later.new hp) _ _ q1, z⟩
  · rw [if_neg z] at h1; exact False.elim h1
theorem back {H H' : Hp} {μ μ' : List Addr} {S' : Sto} {p : Addr} (s1 : RelS G H' μ' S') (l : Later H μ H' μ') (h : H' p = none) : H p = none := by
  cases e : H p with
  | none => rfl
  | some o =>
    have n : p ∉ μ := fun m => s1.not_none h (l.pre.subset m)
    rw [l.frame p o e n] at h; cases h
theorem sL_disp (ha : PA X es (dA G W evs)) : PE X (.List es pos) (dL G W fun ρ S => (evs ρ S).bind lstD) := by
  refine (pe_lst ha).weak fun σ H Q ⟨ρ, S, μ, hE, hS, h⟩ => ?_
  refine ⟨ρ, S, μ, hE, hS, h.step fun xs S1 vs H1 μ1 l1 s1 q1 h1 => ?_⟩
  unfold lstD at h1
  by_cases z : xs.length ≤ sizeLine
  · rw [if_pos z] at h1
    refine ⟨by rw [← RepL.len q1]; exact z, fun p hp => ?_⟩
    exact Run.new h1 s1 hp ⟨p, vs, rfl, back s1 l1 hp, upd_same, s1.not_none hp, RepL.later (Later.new hp) _ _ q1, z⟩
  · rw [if_neg z] at h1; exact False.elim h1
/-- a new list is given a place -/
theorem sE_new (ha : PE X e (dL G W evs)) : PE X e (dE G W fun ρ S => (evs ρ S).bind newD) := by
  refine ha.weak fun σ H Q ⟨ρ, S, μ, hE, hS, h⟩ => ?_
  refine ⟨ρ, S, μ, hE, hS, h.stepL fun xs S1 v H1 μ1 l1 s1 q1 h1' => ?_⟩
  obtain ⟨a, vs, rfl, h0, ha, hn, r, z⟩ := q1
  have u : Up H1 μ1 H1 (μ1 ++ [a]) := ⟨List.prefix_append _ _, fun _ _ h => h, fun _ _ _ h => h⟩
  have s2 : RelS G H1 (μ1 ++ [a]) (S1 ++ [.lst xs]) := s1.grow hn ⟨vs, ha, RepL.up u _ _ r, z⟩
  refine h1' (.ref a) H1 (μ1 ++ [a]) ⟨l1.pre.trans (List.prefix_append _ _), l1.tup, l1.frz, l1.frame, fun b m n => ?_⟩ s2 ⟨a, rfl, ?_⟩
  · rcases List.mem_append.mp m with m | m
    · exact l1.fresh b m n
    · cases List.mem_singleton.mp m; exact h0
  · rw [← s1.len, List.getElem?_append_right (Nat.le_refl _)]
    simp
end
end SB

/-! dicts: what stands for what -/
namespace SB
open PySem PySem.Spec PyProof.Rows L2
open Classical
section
variable {κ : Type} [DecidableEq κ] {G : Pl} {H : Hp} {μ : List Addr}
theorem valD_nil {k : κ} : valD ([] : List (κ × D)) k = none := rfl
theorem valD_pos {p : κ × D} {r : List (κ × D)} {k : κ} (e : p.1 = k) : valD (p :: r) k = some p.2 := by simp [valD, List.find?_cons, e]
theorem valD_neg {p : κ × D} {r : List (κ × D)} {k : κ} (e : ¬ p.1 = k) : valD (p :: r) k = valD r k := by simp [valD, List.find?_cons, e]
theorem val_rep (k : κ) : ∀ {kvs : List (κ × D)} {ws : List (κ × V)}, ws.map (·.1) = kvs.map (·.1) → RepL G H μ (kvs.map (·.2)) (ws.map (·.2)) →
    (∀ d, valD kvs k = some d → ∃ v, valV ws k = some v ∧ Rep G H μ d v) ∧ (valD kvs k = none → valV ws k = none)
  | [], [], _, _ => ⟨fun d h => (by cases h), fun _ => rfl⟩
  | [], _ :: _, e, _ => by cases e
  | _ :: _, [], e, _ => by cases e
  | (j, d) :: kvs, (j2, v) :: ws, e, r => by
    injection e with e1 e2
    obtain ⟨w, us, e3, r1, r2⟩ := r
    injection e3 with e3 e4
    dsimp only at e1 e3 r1
    subst e1 e3 e4
    obtain ⟨h1, h2⟩ := val_rep k e2 r2
    by_cases z : j2 = k
    · rw [valD_pos (p := (j2, d)) z, valV_pos (p := (j2, v)) z]
      exact ⟨fun d' h => ⟨v, rfl, by cases h; exact r1⟩, fun h => by cases h⟩
    · rw [valD_neg (p := (j2, d)) z, valV_neg (p := (j2, v)) z]
      exact ⟨h1, h2⟩
theorem any_fst {α β : Type} (p : κ → Bool) {kvs : List (κ × α)} {ws : List (κ × β)} (e : ws.map (·.1) = kvs.map (·.1)) : (ws.any fun kv => p kv.1) = kvs.any fun kv => p kv.1 := by
  have h1 : (ws.any fun kv => p kv.1) = (ws.map (·.1)).any p := by rw [List.any_map]; rfl
  have h2 : (kvs.any fun kv => p kv.1) = (kvs.map (·.1)).any p := by rw [List.any_map]; rfl
  rw [h1, h2, e]
theorem repl_rep (k : κ) {d : D} {v : V} (q : Rep G H μ d v) : ∀ {kvs : List (κ × D)} {ws : List (κ × V)}, ws.map (·.1) = kvs.map (·.1) → RepL G H μ (kvs.map (·.2)) (ws.map (·.2)) →
    (ws.map fun kv => if kv.1 = k then (kv.1, v) else kv).map (·.1) = (kvs.map fun kv => if kv.1 = k then (kv.1, d) else kv).map (·.1) ∧ RepL G H μ ((kvs.map fun kv => if kv.1 = k then (kv.1, d) else kv).map (·.2)) ((ws.map fun kv => if kv.1 = k then (kv.1, v) else kv).map (·.2))
  | [], [], _, _ => ⟨rfl, rfl⟩
  | [], _ :: _, e, _ => by cases e
  | _ :: _, [], e, _ => by cases e
  | (j, d0) :: kvs, (j2, v0) :: ws, e, r => by
    injection e with e1 e2
    obtain ⟨w, us, e3, r1, r2⟩ := r
    injection e3 with e3 e4
    dsimp only at e1 e3 r1
    subst e1 e3 e4
    obtain ⟨h1, h2⟩ := repl_rep k q e2 r2
    by_cases z : j2 = k
    · simp only [List.map_cons, if_pos z]
      exact ⟨by rw [h1], v, _, rfl, q, h2⟩
    · simp only [List.map_cons, if_neg z]
      exact ⟨by rw [h1], v0, _, rfl, r1, h2⟩
theorem put_rep (k : κ) {d : D} {v : V} (q : Rep G H μ d v) {kvs : List (κ × D)} {ws : List (κ × V)} (e : ws.map (·.1) = kvs.map (·.1)) (r : RepL G H μ (kvs.map (·.2)) (ws.map (·.2))) :
    (putK ws k v).map (·.1) = (putD kvs k d).map (·.1) ∧ RepL G H μ ((putD kvs k d).map (·.2)) ((putK ws k v).map (·.2)) := by
  unfold putK putD
  rw [any_fst (fun x => decide (x = k)) e]
  by_cases z : (kvs.any fun kv => decide (kv.1 = k)) = true
  · rw [if_pos z, if_pos z]
    exact repl_rep k q e r
  · rw [if_neg z, if_neg z]
    refine ⟨by simp [e], ?_⟩
    rw [List.map_append, List.map_append]
    exact RepL.app r (RepL.one q)
theorem putD_len {d : D} {k : κ} {kvs : List (κ × D)} : (putD kvs k d).length ≤ kvs.length + 1 := by
  unfold putD; split
  · rw [List.length_map]; omega
  · rw [List.length_append]; exact Nat.le_refl _
theorem drop_rep (k : κ) : ∀ {kvs : List (κ × D)} {ws : List (κ × V)}, ws.map (·.1) = kvs.map (·.1) → RepL G H μ (kvs.map (·.2)) (ws.map (·.2)) →
    (dropK ws k).map (·.1) = (dropD kvs k).map (·.1) ∧ RepL G H μ ((dropD kvs k).map (·.2)) ((dropK ws k).map (·.2))
  | [], [], _, _ => ⟨rfl, rfl⟩
  | [], _ :: _, e, _ => by cases e
  | _ :: _, [], e, _ => by cases e
  | (j, d0) :: kvs, (j2, v0) :: ws, e, r => by
    injection e with e1 e2
    obtain ⟨w, us, e3, r1, r2⟩ := r
    injection e3 with e3 e4
    dsimp only at e1 e3 r1
    subst e1 e3 e4
    obtain ⟨h1, h2⟩ := drop_rep k e2 r2
    unfold dropK dropD at h1 h2 ⊢
    by_cases z : j2 = k
    · rw [List.filter_cons_of_neg (by simp [z]), List.filter_cons_of_neg (by simp [z])]
      exact ⟨h1, h2⟩
    · rw [List.filter_cons_of_pos (by simp [z]), List.filter_cons_of_pos (by simp [z])]
      exact ⟨by rw [List.map_cons, List.map_cons, h1], v0, _, rfl, r1, h2⟩
end
section
variable {G : Pl} {W : WX} {σ : L2.St} {H : Hp} {μ : List Addr} {S : Sto} {Q : VK}
theorem key_rep {y : D} {w : V} {k : Key} (r : Rep G H μ y w) (h : keyD y = some k) : w = kV k := by
  cases y with
  | int i => cases h; exact r
  | str x => cases h; exact r
  | _ => cases h
theorem keys_rep : ∀ {xs : List D} {vs : List V} {ks : List Key}, RepL G H μ xs vs → keysD xs = some ks → vs = ks.map kV
  | [], vs, ks, r, h => by cases h; exact r
  | x :: xs, vs, ks, ⟨w, ws, e, r1, r2⟩, h => by
    unfold keysD at h
    split at h
    · rename_i k ks' e1 e2
      cases h
      rw [e, key_rep r1 e1, keys_rep r2 e2]; rfl
    · cases h
theorem keyT_rep {y : D} {w : V} {ks : List Key} (r : Rep G H μ y w) (h : keyT y = some ks) : ∃ b, w = .ref b ∧ H b = some (.tup (ks.map kV)) := by
  cases y with
  | tup xs =>
    obtain ⟨a, vs, rfl, sq, r, z⟩ := r
    dsimp only [keyT] at h
    by_cases q : strHead xs = true
    · rw [if_pos q] at h
      have := keys_rep r h
      subst this
      exact ⟨a, rfl, sq.2 q⟩
    · rw [if_neg q] at h; cases h
  | kt ks' =>
    obtain ⟨a, rfl, r⟩ := r
    cases h
    exact ⟨a, rfl, r⟩
  | _ => cases h
theorem get_rep {x y : D} {v w : V} {o : Option D} (s : RelS G H μ S) (rx : Rep G H μ x v) (ry : Rep G H μ y w) (h : getD x y S = some o) :
    ∃ a ov, v = .ref a ∧ DGet H a w ov ∧ (∀ d, o = some d → ∃ u, ov = some u ∧ Rep G H μ d u) ∧ (o = none → ov = none) := by
  cases x with
  | ref n =>
    obtain ⟨a, rfl, ha⟩ := rx
    dsimp only [getD] at h
    split at h
    · rename_i kvs e
      obtain ⟨a', e1, ws, e2, e3, r, z⟩ := s.at e
      rw [ha] at e1; cases e1
      cases ek : keyD y with
      | none => rw [ek] at h; cases h
      | some k =>
        rw [ek] at h; cases h
        obtain ⟨h1, h2⟩ := val_rep k e3 r
        have := key_rep ry ek
        subst this
        exact ⟨a, _, rfl, DGet.k e2, h1, h2⟩
    · rename_i kvs e
      obtain ⟨a', e1, ws, e2, e3, r, z⟩ := s.at e
      rw [ha] at e1; cases e1
      cases ek : keyT y with
      | none => rw [ek] at h; cases h
      | some k =>
        rw [ek] at h; cases h
        obtain ⟨h1, h2⟩ := val_rep k e3 r
        obtain ⟨b, rfl, hb⟩ := keyT_rep ry ek
        exact ⟨a, _, rfl, DGet.t e2 hb, h1, h2⟩
    · cases h
  | _ => cases h
theorem putO_rep {x y d : D} {v w u : V} {S2 : Sto} (s : RelS G H μ S) (rx : Rep G H μ x v) (ry : Rep G H μ y w) (rd : Rep G H μ d u) (h : putO x y d S = some S2) :
    ∃ a H', v = .ref a ∧ DPut H a w u H' ∧ Later H μ H' μ ∧ RelS G H' μ S2 := by
  cases x with
  | ref n =>
    obtain ⟨a, rfl, ha⟩ := rx
    dsimp only [putO] at h
    split at h
    · rename_i kvs e
      obtain ⟨a', e1, ws, e2, e3, r, z⟩ := s.at e
      rw [ha] at e1; cases e1
      have hl : ws.length = kvs.length := by simpa using congrArg List.length e3
      cases ek : keyD y with
      | none => rw [ek] at h; cases h
      | some k =>
        rw [ek] at h
        dsimp only at h
        by_cases q : kvs.length < sizeLine
        · rw [if_pos q] at h; cases h
          have := key_rep ry ek
          subst this
          have L : Later H μ (upd H a (.dK (putK ws k u))) μ := Later.write s ha
          obtain ⟨p1, p2⟩ := put_rep k rd e3 r
          exact ⟨a, _, rfl, DPut.k e2 (by omega), L, s.write ha ⟨_, upd_same, p1, RepL.later L _ _ p2, by have := putD_len (d := d) (k := k) (kvs := kvs); omega⟩⟩
        · rw [if_neg q] at h; cases h
    · rename_i kvs e
      obtain ⟨a', e1, ws, e2, e3, r, z⟩ := s.at e
      rw [ha] at e1; cases e1
      have hl : ws.length = kvs.length := by simpa using congrArg List.length e3
      cases ek : keyT y with
      | none => rw [ek] at h; cases h
      | some k =>
        rw [ek] at h
        dsimp only at h
        by_cases q : kvs.length < sizeLine
        · rw [if_pos q] at h; cases h
          obtain ⟨b, rfl, hb⟩ := keyT_rep ry ek
          have L : Later H μ (upd H a (.dT (putK ws k u))) μ := Later.write s ha
          obtain ⟨p1, p2⟩ := put_rep k rd e3 r
          exact ⟨a, _, rfl, DPut.t e2 hb (by omega), L, s.write ha ⟨_, upd_same, p1, RepL.later L _ _ p2, by have := putD_len (d := d) (k := k) (kvs := kvs); omega⟩⟩
        · rw [if_neg q] at h; cases h
    · cases h
  | _ => cases h
theorem isD_rep {x : D} {v : V} (s : RelS G H μ S) (rx : Rep G H μ x v) (h : isDic S x = true) : ∃ a, v = .ref a ∧ IsD H a := by
  cases x with
  | ref n =>
    obtain ⟨a, rfl, ha⟩ := rx
    dsimp only [isDic] at h
    split at h
    · rename_i kvs e
      obtain ⟨a', e1, ws, e2, _⟩ := s.at e
      rw [ha] at e1; cases e1
      exact ⟨a, rfl, .inl ⟨ws, .inl e2⟩⟩
    · rename_i kvs e
      obtain ⟨a', e1, ws, e2, _⟩ := s.at e
      rw [ha] at e1; cases e1
      exact ⟨a, rfl, .inr ⟨ws, .inl e2⟩⟩
    · cases h
  | _ => cases h
theorem lst_noDic {x : D} {n : Nat} {xs : List D} (h : S[n]? = some (.lst xs)) : isDic S (.ref n) = false := by
  unfold isDic; dsimp only; rw [h]
/-- a new object at a new place -/
theorem Run.placedO {p : Addr} {o : O} {ho : HO} (h : Run G W σ H μ (.ok (.ref S.length) (S ++ [o])) (Rep G) Q) (s : RelS G H μ S) (n : H p = none) (q : RepO G (upd H p ho) (μ ++ [p]) p o) : Q (.ref p) (upd H p ho) := by
  have l : Later H μ (upd H p ho) (μ ++ [p]) := Later.place n
  have s1 : RelS G (upd H p ho) (μ ++ [p]) (S ++ [o]) := (s.new n).grow (s.not_none n) q
  refine h (.ref p) _ (μ ++ [p]) l s1 ⟨p, rfl, ?_⟩
  rw [← s.len, List.getElem?_append_right (Nat.le_refl _)]
  simp
variable {X : Cx} {a b c e i o : PySem.Expr} {pos p2 apos cpos : Pos} {eva evb evc : En → Sto → R D}
theorem sE_dnewK : PE X (.Dict [] [] pos) (dE G W fun _ S => dnewD false S) := pe_dnewK.weak fun σ H Q ⟨ρ, S, μ, hE, hS, h⟩ p hp => Run.placedO h hS hp ⟨[], upd_same, rfl, rfl, Nat.zero_le _⟩
theorem sE_dnewT : PE X (.Dict [] [] pos) (dE G W fun _ S => dnewD true S) := pe_dnewT.weak fun σ H Q ⟨ρ, S, μ, hE, hS, h⟩ p hp => Run.placedO h hS hp ⟨[], upd_same, rfl, rfl, Nat.zero_le _⟩
theorem _root_.L2.PE.or {t u : TE} (h : PE X e t) (h' : PE X e u) : PE X e (fun σ H Q => t σ H Q ∨ u σ H Q) := ⟨fun pins s σ H Q I q => by
  rcases q with q | q
  · exact h.run pins s σ H Q I q
  · exact h'.run pins s σ H Q I q⟩
theorem _root_.L2.PE.pick {t u w : TE} (h : PE X e t) (h' : PE X e u) (k : ∀ σ H Q, w σ H Q → t σ H Q ∨ u σ H Q) : PE X e w := (h.or h').weak k
/-- one or the other, by the first part's outcome -/
theorem by_outcome {α β : Type} (ev : R α) (f : α → Sto → R β) (P : α → Sto → Prop) : (∃ x S1, ev = .ok x S1 ∧ P x S1) ∨ ∀ x S1, ev = .ok x S1 → ¬ P x S1 := by
  cases ev with
  | ok x S1 =>
    by_cases h : P x S1
    · exact .inl ⟨x, S1, rfl, h⟩
    · exact .inr fun y S2 e => by cases e; exact h
  | _ => exact .inr fun y S2 e => by cases e
/-- what is said of dicts alone, as a walk -/
theorem dget_read {σ : L2.St} {H : Hp} {Q : VK} (h : dE G W (fun ρ S => (eva ρ S).bind fun x S1 => (evb ρ S1).bind fun y S2 => (match getD x y S2 with | some (some v) => R.ok v S2 | _ => .bad)) σ H Q) : tDGet (dE G W eva) (dE G W evb) σ H Q := by
  obtain ⟨ρ, S, μ, hE, hS, h⟩ := h
  refine ⟨ρ, S, μ, hE, hS, h.step fun x S1 v H1 μ1 l1 s1 q1 h1 => ?_⟩
  refine ⟨ρ, S1, μ1, hE.later l1, s1, h1.step fun y S2 w H2 μ2 l2 s2 q2 h2 => ?_⟩
  split at h2
  · rename_i d e
    obtain ⟨a, ov, rfl, g, g1, _⟩ := get_rep s2 (q1.later l2) q2 e
    obtain ⟨u, rfl, ru⟩ := g1 d rfl
    exact ⟨a, u, rfl, g, Run.now h2 s2 ru⟩
  · exact False.elim h2
theorem noSl_of (h : PlainIx i) : NoSl i := h
/-- o.get(k), o.get(k, x), o.pop(k), o.pop(k, x) -/
theorem dicU_step {α : Type} {x : D} {v : V} {f : Unit → Sto → R α} {β : Type} {Rp : Hp → List Addr → α → β → Prop} {Q : β → Hp → Prop} (s : RelS G H μ S) (q : Rep G H μ x v) (h : Run G W σ H μ ((isDicU x S).bind f) Rp Q) : (∃ a, v = .ref a ∧ IsD H a) ∧ Run G W σ H μ (f () S) Rp Q := by
  unfold isDicU at h
  by_cases z : isDic S x = true
  · rw [if_pos z] at h
    exact ⟨isD_rep s q z, h⟩
  · rw [if_neg z] at h; exact False.elim h
theorem sE_dget1 (hu : X.A.units + 1 < cLine) (ha : PE X a (dE G W eva)) (hb : PE X b (dE G W evb)) (m : M1 X a "get" apos b cpos) :
    PE X (.Call (.Attribute a "get" apos) [b] [] cpos) (dE G W fun ρ S => (eva ρ S).bind fun x S1 => (isDicU x S1).bind fun _ S1 => (evb ρ S1).bind fun y S2 => dget1D x y S2) := by
  refine (pe_dget1 hu ha hb m).weak fun σ H Q ⟨ρ, S, μ, hE, hS, h⟩ => ?_
  refine ⟨ρ, S, μ, hE, hS, h.step fun x S1 v H1 μ1 l1 s1 q1 h1 => ?_⟩
  obtain ⟨⟨a, rfl, hd⟩, h1⟩ := dicU_step s1 q1 h1
  refine ⟨a, rfl, hd, ρ, S1, μ1, hE.later l1, s1, h1.step fun y S2 w H2 μ2 l2 s2 q2 h2 => ?_⟩
  unfold dget1D at h2
  split at h2
  · rename_i o e
    obtain ⟨a', ov, e', g, g1, g2⟩ := get_rep s2 (q1.later l2) q2 e
    cases e'
    refine ⟨ov, g, ?_⟩
    cases o with
    | none => rw [g2 rfl]; exact Run.now h2 s2 rfl
    | some d => obtain ⟨u, rfl, ru⟩ := g1 d rfl; exact Run.now h2 s2 ru
  · exact False.elim h2
theorem sE_dget (hu : X.A.units + 1 < cLine) (ha : PE X a (dE G W eva)) (hb : PE X b (dE G W evb)) (hc : PE X c (dE G W evc)) (m : M2 X a "get" apos b c cpos) :
    PE X (.Call (.Attribute a "get" apos) [b, c] [] cpos) (dE G W fun ρ S => (eva ρ S).bind fun x S1 => (isDicU x S1).bind fun _ S1 => (evb ρ S1).bind fun y S2 => (evc ρ S2).bind fun w S3 => dgetD x y w S3) := by
  refine (pe_dget2 hu ha hb hc m).weak fun σ H Q ⟨ρ, S, μ, hE, hS, h⟩ => ?_
  refine ⟨ρ, S, μ, hE, hS, h.step fun x S1 v H1 μ1 l1 s1 q1 h1 => ?_⟩
  obtain ⟨⟨a, rfl, hd⟩, h1⟩ := dicU_step s1 q1 h1
  refine ⟨a, rfl, hd, ρ, S1, μ1, hE.later l1, s1, h1.step fun y S2 w H2 μ2 l2 s2 q2 h2 => ?_⟩
  refine ⟨ρ, S2, μ2, hE.later (l1.trans l2), s2, h2.step fun z S3 u H3 μ3 l3 s3 q3 h3 => ?_⟩
  unfold dgetD at h3
  split at h3
  · rename_i o e
    obtain ⟨a', ov, e', g, g1, g2⟩ := get_rep s3 (q1.later (l2.trans l3)) (q2.later l3) e
    cases e'
    refine ⟨ov, g, ?_⟩
    cases o with
    | none => rw [g2 rfl]; exact Run.now h3 s3 q3
    | some d => obtain ⟨u, rfl, ru⟩ := g1 d rfl; exact Run.now h3 s3 ru
  · exact False.elim h3
theorem drop_len {κ : Type} [DecidableEq κ] {k : κ} {kvs : List (κ × D)} : (dropD kvs k).length ≤ kvs.length := List.length_filter_le _ _
theorem Run.dropped {n : Nat} {p : Addr} {k : Key} {kvs : List (Key × D)} {ws : List (Key × V)} {α β : Type} {Rp : Hp → List Addr → α → β → Prop} {Q : β → Hp → Prop} {x : α} {y : β} (h : Run G W σ H μ (.ok x (S.set n (.dic (dropD kvs k)))) Rp Q) (s : RelS G H μ S) (hp : μ[n]? = some p)
    (e : ws.map (·.1) = kvs.map (·.1)) (r : RepL G H μ (kvs.map (·.2)) (ws.map (·.2))) (z : kvs.length ≤ sizeLine) (q : Rp (upd H p (.dK (dropK ws k))) μ x y) : Q y (upd H p (.dK (dropK ws k))) := by
  have l : Later H μ (upd H p (.dK (dropK ws k))) μ := Later.write s hp
  obtain ⟨p1, p2⟩ := drop_rep k e r
  exact h y _ μ l (s.write hp ⟨_, upd_same, p1, RepL.later l _ _ p2, Nat.le_trans drop_len z⟩) q
theorem sE_dpop (ha : PE X a (dE G W eva)) (hb : PE X b (dE G W evb)) (m : M1 X a "pop" apos b cpos) :
    PE X (.Call (.Attribute a "pop" apos) [b] [] cpos) (dE G W fun ρ S => (eva ρ S).bind fun x S1 => (isDicU x S1).bind fun _ S1 => (evb ρ S1).bind fun y S2 => dpopD x y none S2) := by
  refine (pe_dpop1 ha hb m).weak fun σ H Q ⟨ρ, S, μ, hE, hS, h⟩ => ?_
  refine ⟨ρ, S, μ, hE, hS, h.step fun x S1 v H1 μ1 l1 s1 q1 h1 => ?_⟩
  obtain ⟨⟨a, rfl, hd⟩, h1⟩ := dicU_step s1 q1 h1
  refine ⟨a, rfl, hd, ρ, S1, μ1, hE.later l1, s1, h1.step fun y S2 w H2 μ2 l2 s2 q2 h2 => ?_⟩
  have q1' := q1.later l2
  cases x with
  | ref n =>
    obtain ⟨a', e', ha'⟩ := q1'
    cases e'
    dsimp only [dpopD] at h2
    split at h2
    · rename_i kvs k e1 e2
      obtain ⟨a2, f1, ws, f2, f3, r, z⟩ := s2.at e1
      rw [ha'] at f1; cases f1
      have := key_rep q2 e2
      subst this
      cases ev : valD kvs k with
      | none => rw [ev] at h2; exact False.elim h2
      | some d =>
        rw [ev] at h2
        obtain ⟨u, hu, ru⟩ := (val_rep k f3 r).1 d ev
        refine ⟨ws, k, u, f2, rfl, hu, ?_⟩
        exact Run.dropped h2 s2 ha' f3 r z (ru.later (Later.write s2 ha'))
    · exact False.elim h2
  | _ => exact False.elim h2
theorem sE_dpop2 (ha : PE X a (dE G W eva)) (hb : PE X b (dE G W evb)) (hc : PE X c (dE G W evc)) (m : M2 X a "pop" apos b c cpos) :
    PE X (.Call (.Attribute a "pop" apos) [b, c] [] cpos) (dE G W fun ρ S => (eva ρ S).bind fun x S1 => (isDicU x S1).bind fun _ S1 => (evb ρ S1).bind fun y S2 => (evc ρ S2).bind fun w S3 => dpopD x y (some w) S3) := by
  refine (pe_dpop2 ha hb hc m).weak fun σ H Q ⟨ρ, S, μ, hE, hS, h⟩ => ?_
  refine ⟨ρ, S, μ, hE, hS, h.step fun x S1 v H1 μ1 l1 s1 q1 h1 => ?_⟩
  obtain ⟨⟨a, rfl, hd⟩, h1⟩ := dicU_step s1 q1 h1
  refine ⟨a, rfl, hd, ρ, S1, μ1, hE.later l1, s1, h1.step fun y S2 w H2 μ2 l2 s2 q2 h2 => ?_⟩
  refine ⟨ρ, S2, μ2, hE.later (l1.trans l2), s2, h2.step fun t S3 w3 H3 μ3 l3 s3 q3 h3 => ?_⟩
  have q1' := q1.later (l2.trans l3)
  cases x with
  | ref n =>
    obtain ⟨a', e', ha'⟩ := q1'
    cases e'
    dsimp only [dpopD] at h3
    split at h3
    · rename_i kvs k e1 e2
      obtain ⟨a2, f1, ws, f2, f3, r, z⟩ := s3.at e1
      rw [ha'] at f1; cases f1
      have := key_rep (q2.later l3) e2
      subst this
      refine ⟨ws, k, f2, rfl, fun u hu => ?_, fun hn => ?_⟩
      · cases ev : valD kvs k with
        | none => rw [(val_rep k f3 r).2 ev] at hu; cases hu
        | some d =>
          rw [ev] at h3
          obtain ⟨u', hu', ru⟩ := (val_rep k f3 r).1 d ev
          rw [hu] at hu'; cases hu'
          exact Run.dropped h3 s3 ha' f3 r z (ru.later (Later.write s3 ha'))
      · cases ev : valD kvs k with
        | none => rw [ev] at h3; exact Run.now h3 s3 q3
        | some d =>
          obtain ⟨u', hu', ru⟩ := (val_rep k f3 r).1 d ev
          rw [hn] at hu'; cases hu'
    · exact False.elim h3
  | _ => exact False.elim h3
end
section
variable {X : Cx} {G : Pl} {W : WX} {es : List PySem.Expr} {pos : Pos} {evs : En → Sto → R (List D)}
/-- a tuple that is written as a key -/
theorem sE_ktp {k : Nat} (ha : PA X es (dA G W evs)) : PE X (.Tuple es k pos) (dE G W fun ρ S => (evs ρ S).bind ktpD) := by
  refine (pe_tup ha).weak fun σ H Q ⟨ρ, S, μ, hE, hS, h⟩ => ?_
  refine ⟨ρ, S, μ, hE, hS, h.step fun xs S1 vs H1 μ1 l1 s1 q1 h1 => ?_⟩
  unfold ktpD at h1
  cases e : keysD xs with
  | none => rw [e] at h1; exact False.elim h1
  | some ks =>
    rw [e] at h1
    dsimp only at h1
    have ev := keys_rep q1 e
    by_cases z : ks.length ≤ 1000
    · rw [if_pos z] at h1
      refine ⟨by rw [ev, List.length_map, sizeLine_eq]; omega, fun p hp => ?_⟩
      exact Run.new h1 s1 hp ⟨p, rfl, by rw [← ev]; exact upd_same⟩
    · rw [if_neg z] at h1; exact False.elim h1
end
end SB

/-! x[::-1] of a tuple -/
namespace SBr
open PySem PySem.Spec PyProof.Rows L2
theorem adjust_rev (n : Nat) : Builtin.Slice.sliceAdjust none none (-1) (n : Int) = ((n : Int) - 1, -1) := by
  unfold Builtin.Slice.sliceAdjust
  first | rfl | simp
theorem places_rev (n : Nat) : Builtin.Slice.slicePlaces ((n : Int) - 1) (-1) (-1) = n := by
  unfold Builtin.Slice.slicePlaces
  have h1 : ¬ ((-1 : Int) > 0) := by decide
  simp only [h1, if_false]
  rw [show (- -1 : Int) = 1 by decide, Int.ediv_one]
  split <;> omega
theorem pick_rev (xs : Array Value) : ((List.range xs.size).filterMap fun (m : Nat) => xs[(((xs.size : Int) - 1) + (m : Int) * (-1)).toNat]?).toArray = xs.toList.reverse.toArray := by
  have e : (fun (m : Nat) => xs[(((xs.size : Int) - 1) + (m : Int) * (-1)).toNat]?) = (fun x => xs[x]?) ∘ fun k => xs.size - 1 - k := by
    funext m
    show xs[(((xs.size : Int) - 1) + (m : Int) * (-1)).toNat]? = xs[xs.size - 1 - m]?
    have : (((xs.size : Int) - 1) + (m : Int) * (-1)).toNat = xs.size - 1 - m := by omega
    rw [this]
  rw [e, ← List.filterMap_map, PySem.W.krv_range, List.filterMap_reverse, PySem.W.krv_all]
section
variable {prog : Program} {w : World} {A : Around} {E : Value → Shared → Prop} {s : Shared}
theorem sliceApplied_rev {sl : Addr} {vl vu vs : Value} {n : Nat} {Q : Int × Int × Nat → Shared → Prop} (hs : s.heap.IsSliceOf sl vl vu vs) (pl : IsPart vl none) (pu : IsPart vu none) (ps : IsPart vs (some (-1)))
    (h : Q ((n : Int) - 1, -1, n) s) : wpAny (model prog w) A (Builtin.Slice.sliceApplied (.ref sl) (pure (n : Int))) Q E s := by
  obtain ⟨os, hos, hcs, hds⟩ := id hs
  unfold Builtin.Slice.sliceApplied Builtin.Slice.sliceFields
  refine wpAny_bind (wpAny_bind (wpAny_field hos hds (x := vl) rfl (wpAny_bind (wpAny_field hos hds (x := vu) rfl (wpAny_bind (wpAny_field hos hds (x := vs) rfl (wpAny_pure ?_)))))))
  refine wpAny_bind (HT.slicePart_ ps ?_)
  show wpAny _ _ (if ((-1 : Int) == 0) = true then _ else _) _ _ s
  rw [if_neg (by decide)]
  refine wpAny_bind (HT.slicePart_ pl (wpAny_bind (HT.slicePart_ pu (wpAny_bind (wpAny_pure ?_)))))
  show wpAny _ _ (match Builtin.Slice.sliceAdjust none none (-1) (n : Int) with | (lo, hi) => pure (lo, (-1 : Int), Builtin.Slice.slicePlaces lo hi (-1))) _ _ s
  rw [adjust_rev n]
  show wpAny _ _ (pure ((n : Int) - 1, (-1 : Int), Builtin.Slice.slicePlaces ((n : Int) - 1) (-1) (-1))) _ _ s
  rw [places_rev]
  exact wpAny_pure h
theorem getItem_tuple_rev {t sl : Addr} {items : Array Value} {vl vu vs : Value} {Q : Value → Shared → Prop} (ht : IsTup s.heap t items) (hs : s.heap.IsSliceOf sl vl vu vs) (pl : IsPart vl none) (pu : IsPart vu none) (ps : IsPart vs (some (-1)))
    (h : Q (.ref s.heap.objs.size) { s with heap := s.heap.push { cls := .type "tuple", data := .seq items.toList.reverse.toArray } })
    (hsz : items.size ≤ sizeLine) : wpAny (model prog w) A (getItem (.ref t) (.ref sl)) Q E s := by
  have htake : sizeOk (.seq items.toList.reverse.toArray) := by
    show items.toList.reverse.toArray.size ≤ sizeLine
    rw [List.size_toArray, List.length_reverse, Array.length_toList]; exact hsz
  obtain ⟨os, hos, hcs, hds⟩ := id hs
  have hTs : s.TypeIs (.ref sl) "slice" := ⟨os, hos, hcs⟩
  unfold getItem
  try with_reducible refine wpAny_holding ?_
  first | refine wpAny_bind (wpAny_pure ?_) | skip
  refine wpAny_bind (wpAny_sequenceKey ht.typeIs (by decide) ?_)
  refine wpAny_bind (wpAny_callSpecial?_slot (name := Str.ofString "__getitem__") ht.typeIs PyProof.Rows.slot_tuple_getitem
    (wpAny_call_entry PyProof.Rows.slot_tuple_getitem ht.typeIs entry_tuple_getitem ?_ (args_tuple_getitem _ _)))
  show wpAny _ _ (Builtin.Tuple.tupleItemsOf (.ref t) >>= _) _ _ s
  refine wpAny_bind (PyProof.Rows.tupleItemsOf_ ht ?_)
  refine wpAny_bind (wpAny_typeOf hTs ?_)
  rw [if_pos (by decide)]
  refine wpAny_bind (sliceApplied_rev hs pl pu ps ?_)
  have hno : ¬ ((((items.size : Int) - 1) == 0 && (-1 : Int) == 1 && items.size == items.size) = true) := by
    intro q
    rw [Bool.and_eq_true, Bool.and_eq_true] at q
    exact absurd q.1.2 (by decide)
  show wpAny _ _ (if (((items.size : Int) - 1) == 0 && (-1 : Int) == 1 && items.size == items.size) = true then _ else _) _ _ s
  rw [if_neg hno, pick_rev]
  first
    | exact wpAny_bind (m := Builtin.Tuple.tupleExact _) (wpAny_newObj_type (wpAny_pure ⟨_, rfl, wpAny_pure h⟩) htake)
    | exact wpAny_bind (m := Builtin.Tuple.tupleExact _) (wpAny_newObj_type (wpAny_bind (wpAny_pure (wpAny_pure ⟨_, rfl, wpAny_pure h⟩))) htake)
    | exact wpAny_bind (wpAny_bind (m := Builtin.Tuple.tupleExact _) (wpAny_newObj_type (wpAny_pure (wpAny_pure ⟨_, rfl, wpAny_pure h⟩)) htake))
    | exact wpAny_bind (wpAny_bind (m := Builtin.Tuple.tupleExact _) (wpAny_newObj_type (wpAny_pure ⟨_, rfl, wpAny_pure h⟩) htake))
end
/-- x[::-1], a list or a tuple -/
def tRev (K : PySem.W.Frag) (te : TE) : TE := fun σ H Q => te σ H fun x H1 => ∃ a xs, x = .ref a ∧ ((SqL K H1 a xs ∧ ∀ p, H1 p = none → Q (.ref p) (upd H1 p (.lst xs.reverse))) ∨ (SqT K H1 a xs ∧ ∀ p, H1 p = none → Q (.ref p) (upd H1 p (.tup xs.reverse))))
theorem pe_rev {X : Cx} {e : Expr} {te : TE} {k : Nat} {p1 p2 p3 pos : Pos} (he : PE X e te) : PE X (.Subscript e (.Slice none none (some (.UnaryOp .USub (.Constant (.int 1) k p1) p2)) p3) pos) (tRev X.K te) := by
  refine ⟨fun pins s σ H Q I h => ?_⟩
  refine Subscript_ (thn (he.run pins s σ H _ I h) fun v s1 ⟨x, H1, I1, r1, q1⟩ => ?_)
  obtain ⟨a, xs, ex, hx⟩ := q1
  subst ex
  cases r1
  have hst : PO X (some (.UnaryOp .USub (.Constant (.int 1) k p1) p2)) (tPart (tUn (rU fun i => .int (-i)) (tC (.int 1)))) := po_some (pe_un un_neg pe_int)
  refine wpAny_Slice (thn (po_none.run pins s1 σ H1 (fun o H2 => o = none ∧ H2 = H1) I1 ⟨rfl, rfl⟩) fun vl s2 ⟨l, H2, I2, pl, el, e2⟩ => ?_)
  subst el e2
  refine thn (po_none.run pins s2 σ H2 (fun o H3 => o = none ∧ H3 = H2) I2 ⟨rfl, rfl⟩) fun vu s3 ⟨u, H3, I3, pu, eu, e3⟩ => ?_
  subst eu e3
  refine thn (hst.run pins s3 σ H3 (fun o H4 => o = some (-1) ∧ H4 = H3) I3 ⟨1, rfl, -1, rfl, rfl, rfl⟩) fun vs s4 ⟨o, H4, I4, ps, eo, e4⟩ => ?_
  subst eo e4
  have I5 : Inv X pins σ H4 { s4 with heap := s4.heap.push { cls := .type "slice", data := .fields #[vl, vu, vs] } } := I4.kept (t' := s4.toks) fun b ob q => Heap.get?_push_of_some _ q
  show wpAny (model X.prog X.w) X.A (subscriptTail e (.Slice none none (some (.UnaryOp .USub (.Constant (.int 1) k p1) p2)) p3) (.ref a) (.ref s4.heap.objs.size)) (EP X pins σ Q) X.xe { s4 with heap := s4.heap.push { cls := .type "slice", data := .fields #[vl, vu, vs] } }
  rcases hx with ⟨hx, q⟩ | ⟨hx, q⟩
  · obtain ⟨its, r, ht, hz⟩ := I5.list hx
    have hlen := r.length
    refine tail_any (ops := [.ref a, .ref s4.heap.objs.size]) ht.isList.typeIs (PySem.slot_list_getitem.lookup) ?_ (by with_unfolding_all rfl)
    refine wpAny_getItem_list_slice ht.isList (Heap.IsSliceOf.new _ vl vu vs) pl pu ps (by decide) ?_ (by rw [List.size_toArray]; omega)
    rw [PySem.W.krv_pick]
    refine ⟨.ref _, _, I5.laid (t' := s4.toks) (o := .lst xs.reverse) (fun b ob q => Heap.get?_push_of_some _ q) (Nat.le_refl _) ?_, rfl, q _ (I5.hok.fresh (Nat.le_refl _))⟩
    exact ⟨by rw [List.length_reverse]; exact hz, _, 0, r.reverse, Heap.get?_push_size _ rfl⟩
  · obtain ⟨its, r, ht, hz⟩ := I5.tuple hx
    have hlen := r.length
    refine tail_any (ops := [.ref a, .ref s4.heap.objs.size]) ht.typeIs (PyProof.Rows.slot_tuple_getitem.lookup) ?_ (by with_unfolding_all rfl)
    refine getItem_tuple_rev ht (Heap.IsSliceOf.new _ vl vu vs) pl pu ps ?_ (by rw [List.size_toArray]; omega)
    refine ⟨.ref _, _, I5.laid (t' := s4.toks) (o := .tup xs.reverse) (fun b ob q => Heap.get?_push_of_some _ q) (Nat.le_refl _) ?_, rfl, q _ (I5.hok.fresh (Nat.le_refl _))⟩
    exact ⟨by rw [List.length_reverse]; exact hz, _, r.reverse, IsTup.new _ _⟩
end SBr

/-! operators, subscripts, slices, calls of built-ins -/
namespace SB
open PySem PySem.Spec PyProof.Rows L2
open Classical
section
variable {X : Cx} {G : Pl} {W : WX} {σ : L2.St} {H : Hp} {μ : List Addr} {S : Sto} {Q : VK} {a b c e : PySem.Expr} {es : List PySem.Expr} {pos : Pos} {eva evb evc : En → Sto → R D} {evs : En → Sto → R (List D)}

theorem Run.placed {p : Addr} {xs : List D} {vs : List V} (h : Run G W σ H μ (.ok (.ref S.length) (S ++ [.lst xs])) (Rep G) Q) (s : RelS G H μ S) (n : H p = none) (r : RepL G H μ xs vs) (z : xs.length ≤ sizeLine) : Q (.ref p) (upd H p (.lst vs)) := by
  have l : Later H μ (upd H p (.lst vs)) (μ ++ [p]) := Later.place n
  have s1 : RelS G (upd H p (.lst vs)) (μ ++ [p]) (S ++ [.lst xs]) := (s.new n).grow (s.not_none n) ⟨vs, upd_same, RepL.later l _ _ r, z⟩
  refine h (.ref p) _ (μ ++ [p]) l s1 ⟨p, rfl, ?_⟩
  rw [← s.len, List.getElem?_append_right (Nat.le_refl _)]
  simp
theorem Run.written {n : Nat} {p : Addr} {xs : List D} {vs : List V} {α β : Type} {Rp : Hp → List Addr → α → β → Prop} {Q : β → Hp → Prop} {x : α} {y : β} (h : Run G W σ H μ (.ok x (S.set n (.lst xs))) Rp Q) (s : RelS G H μ S) (hp : μ[n]? = some p) (r : RepL G H μ xs vs) (z : xs.length ≤ sizeLine)
    (q : Rp (upd H p (.lst vs)) μ x y) : Q y (upd H p (.lst vs)) := by
  have l : Later H μ (upd H p (.lst vs)) μ := Later.write s hp
  exact h y _ μ l (s.write hp ⟨vs, upd_same, RepL.later l _ _ r, z⟩) q
theorem RelS.lst {n : Nat} {xs : List D} (s : RelS G H μ S) (h : lstAt S n = some xs) : ∃ p vs, μ[n]? = some p ∧ H p = some (.lst vs) ∧ RepL G H μ xs vs ∧ xs.length ≤ sizeLine := by
  unfold lstAt at h
  cases e : S[n]? with
  | none => rw [e] at h; cases h
  | some o =>
    rw [e] at h
    cases o with
    | lst ys =>
      cases h
      obtain ⟨p, e1, vs, e2, r, z⟩ := s.at e
      exact ⟨p, vs, e1, e2, r, z⟩
    | _ => cases h
theorem lstAt_of {n : Nat} {xs : List D} (h : S[n]? = some (.lst xs)) : lstAt S n = some xs := by unfold lstAt; rw [h]

theorem strHead_app {xs ys : List D} (h : xs ≠ []) : strHead (xs ++ ys) = strHead xs := by
  cases xs with
  | nil => exact absurd rfl h
  | cons x xs => cases x <;> rfl
/-! ### arithmetic -/
theorem od_add (hK : X.K = G.K) : OpD X G (binaryOp .Add) (bop .add) := by
  refine ⟨_, op_add.or (op_add_str.or (op_catA.or op_cat)), fun W σ x y v w H μ S Q s rx ry h => ?_⟩
  cases x with
  | int i =>
    cases y with
    | int j => exact .inl ⟨i, j, rx, ry, Run.now h s rfl⟩
    | _ => exact False.elim h
  | str i =>
    cases y with
    | str j =>
      by_cases z : i.length + j.length ≤ sizeLine
      · rw [show bop .add (.str i) (.str j) S = .ok (.str (i ++ j)) S from if_pos z] at h
        exact .inr (.inl ⟨i, j, rx, ry, z, Run.now h s rfl⟩)
      · rw [show bop .add (.str i) (.str j) S = .bad from if_neg z] at h
        exact False.elim h
    | _ => exact False.elim h
  | tup xs =>
    cases y with
    | tup ys =>
      by_cases z : xs.length + ys.length ≤ sizeLine
      · rw [show bop .add (.tup xs) (.tup ys) S = .ok (.tup (xs ++ ys)) S from if_pos z] at h
        obtain ⟨p, vs, rfl, s1, r1, z1⟩ := rx
        obtain ⟨q, ws, rfl, s2, r2, z2⟩ := ry
        have nn : vs ≠ [] → xs ≠ [] := fun e x => by
          have := RepL.len r1
          rw [x] at this
          exact e (List.length_eq_zero_iff.mp this.symm)
        refine .inr (.inr (.inl ⟨p, q, vs, ws, rfl, rfl, by rw [hK]; exact s1.1, by rw [hK]; exact s2.1, ?_, fun e => ?_, fun n1 e => ?_, fun n1 e p' hp' => ?_⟩))
        · rw [← RepL.len r1, ← RepL.len r2]; exact z
        · have : xs = [] := List.length_eq_zero_iff.mp (by rw [RepL.len r1, e]; rfl)
          subst this
          exact Run.now h s ⟨q, ws, rfl, s2, r2, z2⟩
        · refine Run.now h s ⟨p, vs, rfl, by rw [strHead_app (nn n1)]; exact s1, ?_, by rw [List.length_append]; exact z⟩
          have : ys = [] := List.length_eq_zero_iff.mp (by rw [RepL.len r2, e]; rfl)
          rw [this, List.append_nil]; exact r1
        · refine Run.new h s hp' ⟨p', vs ++ ws, rfl, .new, RepL.later (Later.new hp') _ _ (RepL.app r1 r2), by rw [List.length_append]; exact z⟩
      · rw [show bop .add (.tup xs) (.tup ys) S = .bad from if_neg z] at h
        exact False.elim h
    | _ => exact False.elim h
  | ref m =>
    cases y with
    | ref n =>
      have e : bop .add (.ref m) (.ref n) S = match S[m]?, S[n]? with
        | some (.lst a), some (.lst b) => if a.length + b.length ≤ sizeLine then .ok (.ref S.length) (S ++ [.lst (a ++ b)]) else .bad
        | _, _ => .bad := rfl
      rw [e] at h
      split at h
      · rename_i xs ys e1 e2
        by_cases z : xs.length + ys.length ≤ sizeLine
        · rw [if_pos z] at h
          obtain ⟨p, rfl, h1⟩ := rx
          obtain ⟨q, rfl, h2⟩ := ry
          obtain ⟨p', vs, g1, g2, r1, z1⟩ := s.lst (lstAt_of e1)
          obtain ⟨q', ws, g3, g4, r2, z2⟩ := s.lst (lstAt_of e2)
          rw [h1] at g1; cases g1
          rw [h2] at g3; cases g3
          exact .inr (.inr (.inr ⟨p, q, vs, ws, rfl, rfl, g2, g4, by rw [← RepL.len r1, ← RepL.len r2]; exact z, fun l hl => Run.placed h s hl (RepL.app r1 r2) (by rw [List.length_append]; exact z)⟩))
        · rw [if_neg z] at h; exact False.elim h
      · exact False.elim h
    | _ => exact False.elim h
  | _ => exact False.elim h
/-- two ints by a condition -/
theorem od_int {f : Value → Value → Sem Value} {C : Int → Int → Prop} {g : Int → Int → D} {g' : Int → Int → V} {ev : D → D → Sto → R D} (ho : OpR X f (rI C g'))
    (h1 : ∀ i j S, C i j → ev (.int i) (.int j) S = .ok (g i j) S) (h2 : ∀ i j S, ¬ C i j → ev (.int i) (.int j) S = .bad) (h3 : ∀ x y S, (∀ i j, ¬ (x = .int i ∧ y = .int j)) → ev x y S = .bad)
    (hg : ∀ H μ i j, Rep G H μ (g i j) (g' i j)) : OpD X G f ev := by
  refine ⟨_, ho, fun W σ x y v w H μ S Q s rx ry h => ?_⟩
  by_cases k : ∃ i j, x = .int i ∧ y = .int j
  · obtain ⟨i, j, rfl, rfl⟩ := k
    by_cases c : C i j
    · rw [h1 i j S c] at h
      exact ⟨i, j, rx, ry, c, Run.now h s (hg H μ i j)⟩
    · rw [h2 i j S c] at h; exact False.elim h
  · rw [h3 x y S fun i j z => k ⟨i, j, z⟩] at h; exact False.elim h
theorem bop_none {o : Op} {x y : D} {S : Sto} (ho : o ≠ .add) (hm : o ≠ .mul) (h : ∀ i j, ¬ (x = .int i ∧ y = .int j)) : bop o x y S = .bad := by
  cases o <;> first
    | exact absurd rfl ho
    | exact absurd rfl hm
    | (cases x <;> first | rfl | (rename_i i; cases y <;> first | rfl | (rename_i j; exact absurd ⟨rfl, rfl⟩ (h i j))))
theorem od_sub : OpD X G (binaryOp .Sub) (bop .sub) :=
  od_int (C := fun _ _ => True) (g := fun i j => .int (i - j)) (g' := fun i j => .int (i - j)) (fun pins s σ H x y v u Q I r1 r2 h => by
    obtain ⟨i, j, e1, e2, _, q⟩ := h
    exact op_sub pins s σ H x y v u Q I r1 r2 ⟨i, j, e1, e2, q⟩) (fun _ _ _ _ => rfl) (fun _ _ _ h => (h trivial).elim) (fun _ _ _ h => bop_none (by intro z; cases z) (by intro z; cases z) h) fun _ _ _ _ => rfl
theorem flat_repL {xs : List D} {vs : List V} (r : RepL G H μ xs vs) : ∀ n : Nat, RepL G H μ (List.replicate n xs).flatten (List.replicate n vs).flatten
  | 0 => rfl
  | n + 1 => by rw [List.replicate_succ, List.replicate_succ, List.flatten_cons, List.flatten_cons]; exact RepL.app r (flat_repL r n)
/-- a tuple times a number, for products of up to a million items -/
def rRepW (K : PySem.W.Frag) : R2 := fun x y H Q => ∃ l k xs, x = .ref l ∧ y = .int k ∧ SqT K H l xs ∧ xs ≠ [] ∧ 2 ≤ k ∧ k ≤ 1000000 ∧ k.toNat * xs.length ≤ 1000000 + 100000 ∧ ∀ p, H p = none → Q (.ref p) (upd H p (.tup (List.replicate k.toNat xs).flatten))
theorem op_repW : OpR X (binaryOp .Mult) (rRepW X.K) := by
  rintro pins s σ H x y v u Q I rx ry ⟨l, k, xs, rfl, rfl, hT, hne, k2, k3, hz, q⟩
  cases rx
  obtain ⟨t, rfl⟩ := ry
  obtain ⟨its, r, ⟨⟨cls, dd, data, sl⟩, ho, hc, n, hd⟩, hs⟩ := I.tuple hT
  dsimp only at hc hd
  subst hc hd
  have hle : its.length = xs.length := r.length.symm
  have hpos : 0 < its.length := by rw [hle]; exact List.length_pos_iff.mpr hne
  have he : its.toArray.isEmpty = false := by
    cases its with
    | nil => exact absurd hpos (by decide)
    | cons a b => rfl
  have hk : ((k.toNat : Nat) : Int) = k := Int.toNat_of_nonneg (by omega)
  have hm : ((its.toArray.size : Nat) : Int) * k ≤ 1100000 := by
    rw [List.size_toArray, hle, ← hk, ← Int.natCast_mul, Nat.mul_comm]
    omega
  have fl : (List.replicate k.toNat xs).flatten.length ≤ sizeLine := by rw [PyProof.Rows.lm_len_rep_flat, sizeLine_eq]; omega
  have fl' : (List.replicate k.toNat its).flatten.length ≤ sizeLine := by rw [PyProof.Rows.lm_len_rep_flat, hle, sizeLine_eq]; omega
  have b0 : (decide (k < -(2 ^ 63)) || decide (k ≥ 2 ^ 63)) = false := by
    rw [Bool.or_eq_false_iff]; exact ⟨decide_eq_false (by omega), decide_eq_false (by omega)⟩
  have b1 : (its.toArray.isEmpty || k == 1) = false := by
    rw [Bool.or_eq_false_iff]; exact ⟨he, beq_eq_false_iff_ne.mpr (by omega)⟩
  have b2 : (decide (k ≤ 0) || its.toArray.isEmpty) = false := by
    rw [Bool.or_eq_false_iff]; exact ⟨decide_eq_false (by omega), he⟩
  have b4 : Builtin.Tuple.tupleTooMany (((its.toArray.size : Nat) : Int) * k) = false := by
    unfold Builtin.Tuple.tupleTooMany
    exact decide_eq_false (by rw [sizeLine_eq]; omega)
  refine wpAny_binaryOp_repeat_ref (T := "tuple") (U := "int") (by decide) ⟨_, ho, rfl⟩ (fun s' => typeIs_int s' k t) noFill_tuple_mul F.fills_int_mul F.slot_int_rmul repeat_tuple F.slot_int_index.lookup ?_
  refine call_meets F.slot_int_rmul (typeIs_int s k t) F.entry_int_rmul (F.args_int_rmul_2 _ _) (int_rmul_tuple k t l its.toArray n dd sl) ⟨ho, rfl, ⟨_, ho, rfl⟩, ?_⟩
  refine call_meets F.slot_tuple_mul ⟨_, ho, rfl⟩ F.entry_tuple_mul (F.args_tuple_mul_2 _ _) (tuple_mulW l its.toArray n dd sl k t b0 b1 b2 (by omega) b4 (by rw [size_rep, List.size_toArray]; exact fl')) ⟨ho, ?_⟩
  rw [size_rep]
  exact ⟨.ref s.heap.objs.size, _, I.laid (t' := s.toks) (o := .tup (List.replicate k.toNat xs).flatten) (fun b ob q => Heap.get?_push_of_some _ q) (Nat.le_refl _) ⟨fl, _, r.rep k.toNat, IsTup.new _ _⟩, rfl, q _ (I.hok.fresh (Nat.le_refl _))⟩
theorem tuple_mul1 (l : Addr) (items : Array Value) (n : Nat) (sl : Array (Option Value)) (dd : Option Addr) (x : Int) (u : Tok) (c0 : (decide (x < -(2 ^ 63)) || decide (x ≥ 2 ^ 63)) = false) (c1 : (items.isEmpty || x == 1) = true) :
    Meets (Builtin.«tuple.__mul__» ⟨[.ref l, .int x u], []⟩) (fun _ R s => s.heap.get? l = some { cls := .type "tuple", dict := dd, data := .seq items n, slots := sl } ∧
      R (.ok (.ret (Value.ref l))) s) :=
  .of_wp fun prog w A R s h => by
    obtain ⟨hp, g, d, tk, os⟩ := s
    obtain ⟨hl, h⟩ := h
    have f1 := AutoSeq1.idx_int
    wp_walk using wpAny_loadPart' hl
    repeat (first
      | (refine wpAny_ite_false (decide_eq_false (by rw [c0]; exact Bool.false_ne_true)) ?_; wp_walk using wpAny_loadPart' hl)
      | (refine wpAny_ite_true (decide_eq_true c1) ?_; wp_walk using wpAny_loadPart' hl)
      | (refine wpAny_ite_true (by decide) ?_; wp_walk using wpAny_loadPart' hl))
    exact ⟨_, rfl, h⟩
theorem tuple_mul0 (l : Addr) (items : Array Value) (n : Nat) (sl : Array (Option Value)) (dd : Option Addr) (x : Int) (u : Tok) (c0 : (decide (x < -(2 ^ 63)) || decide (x ≥ 2 ^ 63)) = false) (c1 : (items.isEmpty || x == 1) = false) (c2 : (decide (x ≤ 0) || items.isEmpty) = true) :
    Meets (Builtin.«tuple.__mul__» ⟨[.ref l, .int x u], []⟩) (fun _ R s => s.heap.get? l = some { cls := .type "tuple", dict := dd, data := .seq items n, slots := sl } ∧
      R (.ok (.ret (Value.ref s.heap.objs.size))) { s with heap := s.heap.push { cls := Value.type "tuple", data := Data.seq #[] }, toks := s.toks }) :=
  .of_wp fun prog w A R s h => by
    obtain ⟨hp, g, d, tk, os⟩ := s
    obtain ⟨hl, h⟩ := h
    have f1 := AutoSeq1.idx_int
    wp_walk using wpAny_loadPart' hl
    repeat (first
      | (refine wpAny_ite_false (decide_eq_false (by rw [c0]; exact Bool.false_ne_true)) ?_; wp_walk using wpAny_loadPart' hl)
      | (refine wpAny_ite_false (decide_eq_false (by rw [c1]; exact Bool.false_ne_true)) ?_; wp_walk using wpAny_loadPart' hl)
      | (refine wpAny_ite_true (decide_eq_true c2) ?_; wp_walk using wpAny_loadPart' hl))
    exact ⟨_, rfl, h⟩
/-- once, and not at all -/
def rRep01 (K : PySem.W.Frag) : R2 := fun x y H Q => ∃ l k xs, x = .ref l ∧ y = .int k ∧ SqT K H l xs ∧ xs ≠ [] ∧ ((k = 1 ∧ Q (.ref l) H) ∨ (k = 0 ∧ ∀ p, H p = none → Q (.ref p) (upd H p (.tup []))))
theorem op_rep01 : OpR X (binaryOp .Mult) (rRep01 X.K) := by
  rintro pins s σ H x y v u Q I rx ry ⟨l, k, xs, rfl, rfl, hT, hne, hh⟩
  cases rx
  obtain ⟨t, rfl⟩ := ry
  obtain ⟨its, r, ⟨⟨cls, dd, data, sl⟩, ho, hc, n, hd⟩, hs⟩ := I.tuple hT
  dsimp only at hc hd
  subst hc hd
  have hle : its.length = xs.length := r.length.symm
  have hpos : 0 < its.length := by rw [hle]; exact List.length_pos_iff.mpr hne
  have he : its.toArray.isEmpty = false := by
    cases its with
    | nil => exact absurd hpos (by decide)
    | cons a b => rfl
  refine wpAny_binaryOp_repeat_ref (T := "tuple") (U := "int") (by decide) ⟨_, ho, rfl⟩ (fun s' => typeIs_int s' k t) noFill_tuple_mul F.fills_int_mul F.slot_int_rmul repeat_tuple F.slot_int_index.lookup ?_
  refine call_meets F.slot_int_rmul (typeIs_int s k t) F.entry_int_rmul (F.args_int_rmul_2 _ _) (int_rmul_tuple k t l its.toArray n dd sl) ⟨ho, rfl, ⟨_, ho, rfl⟩, ?_⟩
  rcases hh with ⟨rfl, q⟩ | ⟨rfl, q⟩
  · refine call_meets F.slot_tuple_mul ⟨_, ho, rfl⟩ F.entry_tuple_mul (F.args_tuple_mul_2 _ _) (tuple_mul1 l its.toArray n sl dd 1 t (by decide) (by rw [he]; rfl)) ⟨ho, ?_⟩
    exact ⟨.ref l, _, I, rfl, q⟩
  · refine call_meets F.slot_tuple_mul ⟨_, ho, rfl⟩ F.entry_tuple_mul (F.args_tuple_mul_2 _ _) (tuple_mul0 l its.toArray n sl dd 0 t (by decide) (by rw [he]; rfl) (by rw [he]; rfl)) ⟨ho, ?_⟩
    exact ⟨.ref s.heap.objs.size, _, I.laid (t' := s.toks) (o := .tup []) (fun b ob q => Heap.get?_push_of_some _ q) (Nat.le_refl _) ⟨Nat.zero_le _, [], .nil, IsTup.new _ _⟩, rfl, q _ (I.hok.fresh (Nat.le_refl _))⟩
theorem od_mul (hK : X.K = G.K) : OpD X G (binaryOp .Mult) (bop .mul) := by
  refine ⟨_, op_mulW.or (op_repW.or op_rep01), fun W σ x y v w H μ S Q s rx ry h => ?_⟩
  cases x with
  | int i =>
    cases y with
    | int j =>
      by_cases c : CMulW i j
      · rw [show bop .mul (.int i) (.int j) S = .ok (.int (i * j)) S from if_pos c] at h
        exact .inl ⟨i, j, rx, ry, c, Run.now h s rfl⟩
      · rw [show bop .mul (.int i) (.int j) S = .bad from if_neg c] at h; exact False.elim h
    | _ => exact False.elim h
  | tup xs =>
    cases y with
    | int k =>
      by_cases c : xs ≠ [] ∧ 0 ≤ k ∧ k ≤ 1100 ∧ xs.length ≤ 1000
      · rw [show bop .mul (.tup xs) (.int k) S = .ok (.tup (List.replicate k.toNat xs).flatten) S from if_pos c] at h
        obtain ⟨c1, c2, c3, c4⟩ := c
        obtain ⟨a, vs, rfl, sq, r, z⟩ := rx
        have hl := RepL.len r
        have vne : vs ≠ [] := fun e => c1 (by
          rw [e] at hl; exact List.eq_nil_of_length_eq_zero hl)
        by_cases k2 : 2 ≤ k
        · refine .inr (.inl ⟨a, k, vs, rfl, ry, by rw [hK]; exact sq.1, vne, k2, by omega, (by
            have := Nat.mul_le_mul (show k.toNat ≤ 1100 by omega) (show vs.length ≤ 1000 by omega)
            omega), fun p hp => ?_⟩)
          refine Run.new h s hp ⟨p, _, rfl, .new, RepL.later (Later.new hp) _ _ (flat_repL r _), ?_⟩
          rw [PyProof.Rows.lm_len_rep_flat, sizeLine_eq]
          have a1 : k.toNat * xs.length ≤ 1100 * 1000 := Nat.mul_le_mul (by omega) c4
          omega
        · refine .inr (.inr ⟨a, k, vs, rfl, ry, by rw [hK]; exact sq.1, vne, ?_⟩)
          by_cases k1 : k = 1
          · subst k1
            refine .inl ⟨rfl, Run.now h s ?_⟩
            have e : (List.replicate (1 : Int).toNat xs).flatten = xs := by simp
            rw [e]
            exact ⟨a, vs, rfl, sq, r, z⟩
          · have k0 : k = 0 := by omega
            subst k0
            refine .inr ⟨rfl, fun p hp => ?_⟩
            exact Run.new h s hp ⟨p, [], rfl, .new, rfl, Nat.zero_le _⟩
      · rw [show bop .mul (.tup xs) (.int k) S = .bad from if_neg c] at h; exact False.elim h
    | _ => exact False.elim h
  | _ => cases y <;> exact False.elim h
theorem od_fdiv : OpD X G (binaryOp .FloorDiv) (bop .fdiv) :=
  od_int (C := CDivW) (g := fun i j => .int (i / j)) (g' := fun i j => .int (i / j)) op_fdivW (fun _ _ _ h => if_pos h) (fun _ _ _ h => if_neg h) (fun _ _ _ h => bop_none (by intro z; cases z) (by intro z; cases z) h) fun _ _ _ _ => rfl
theorem od_mod : OpD X G (binaryOp .Mod) (bop .mod) :=
  od_int (C := fun _ j => 0 < j) (g := fun i j => .int (i % j)) (g' := fun i j => .int (i % j)) op_mod (fun _ _ _ h => if_pos h) (fun _ _ _ h => if_neg h) (fun _ _ _ h => bop_none (by intro z; cases z) (by intro z; cases z) h) fun _ _ _ _ => rfl
theorem od_pow : OpD X G (binaryOp .Pow) (bop .pow) :=
  od_int (C := CPow) (g := fun i j => .int (i ^ j.toNat)) (g' := fun i j => .int (i ^ j.toNat)) op_pow (fun _ _ _ h => if_pos h) (fun _ _ _ h => if_neg h) (fun _ _ _ h => bop_none (by intro z; cases z) (by intro z; cases z) h) fun _ _ _ _ => rfl
/-! ### comparisons -/
theorem od_cmp {f : Value → Value → Sem Value} {o : Cm} {p : Int → Int → Bool} (ho : OpR X f (rI0 fun i j => .bl (p i j))) (h1 : ∀ i j S, cmpD o (.int i) (.int j) S = .ok (.bl (p i j)) S)
    (h3 : ∀ x y S, (∀ i j, ¬ (x = .int i ∧ y = .int j)) → cmpD o x y S = .bad) : OpD X G f (cmpD o) := by
  refine ⟨_, ho, fun W σ x y v w H μ S Q s rx ry h => ?_⟩
  by_cases k : ∃ i j, x = .int i ∧ y = .int j
  · obtain ⟨i, j, rfl, rfl⟩ := k
    rw [h1 i j S] at h
    exact ⟨i, j, rx, ry, Run.now h s rfl⟩
  · rw [h3 x y S fun i j z => k ⟨i, j, z⟩] at h; exact False.elim h
theorem cmpD_none {o : Cm} {x y : D} {S : Sto} (h1 : o ≠ .eq) (h2 : o ≠ .ne) (h3 : o ≠ .lt) (h4 : o ≠ .gt) (h : ∀ i j, ¬ (x = .int i ∧ y = .int j)) (h5 : o ≠ .is := by intro z; cases z) (h6 : o ≠ .ns := by intro z; cases z) : cmpD o x y S = .bad := by
  cases o <;> first
    | exact absurd rfl h1
    | exact absurd rfl h2
    | exact absurd rfl h3
    | exact absurd rfl h4
    | exact absurd rfl h5
    | exact absurd rfl h6
    | (cases x <;> first | rfl | (rename_i i; cases y <;> first | rfl | (rename_i j; exact absurd ⟨rfl, rfl⟩ (h i j))))
theorem lexAt_shift {e r : Nat → Bool} {z : Bool} : ∀ (k i : Nat), Ob.lexAt e r z (i + 1) k = Ob.lexAt (fun j => e (j + 1)) (fun j => r (j + 1)) z i k
  | 0, _ => rfl
  | k + 1, i => by rw [Ob.lexAt_succ, Ob.lexAt_succ, lexAt_shift k (i + 1)]
theorem lexAt_gt : ∀ (ns ms : List Int), Ob.lexAt (fun j => decide (ns.getD j 0 = ms.getD j 0)) (fun j => decide (ms.getD j 0 < ns.getD j 0)) (decide (ns.length > ms.length)) 0 (min ns.length ms.length) = HT.lexLt ms ns
  | [], [] => rfl
  | [], _ :: _ => by simp [Ob.lexAt, HT.lexLt]
  | _ :: _, [] => by simp [Ob.lexAt, HT.lexLt]
  | x :: xs, y :: ys => by
    rw [show min (x :: xs).length (y :: ys).length = min xs.length ys.length + 1 by simp, Ob.lexAt_succ, lexAt_shift]
    simp only [List.getD_cons_zero, List.getD_cons_succ, HT.lexLt_cons]
    have ih := lexAt_gt xs ys
    have e1 : decide ((x :: xs).length > (y :: ys).length) = decide (xs.length > ys.length) := by simp
    rw [e1, ih]
    by_cases h : x = y
    · simp [h]
    · simp [h, Ne.symm h]
def rGtT (K : PySem.W.Frag) : R2 := fun x y H Q => ∃ a b ns ms, x = .ref a ∧ y = .ref b ∧ SqT K H a (ns.map V.int) ∧ SqT K H b (ms.map V.int) ∧ Q (.bl (HT.lexLt ms ns)) H
theorem op_gtT {X : Cx} (hu : X.A.units < cLine) : OpR X (compareOp .Gt) (rGtT X.K) := by
  intro pins s σ H x y v u Q I rx ry h
  obtain ⟨a, b, ns, ms, rfl, rfl, ha, hb, q⟩ := h
  cases rx
  cases ry
  obtain ⟨its, r1, p1, _⟩ := I.tuple ha
  obtain ⟨its2, r2, p2, _⟩ := I.tuple hb
  have i1 : IntsAre its ns := Vals.ints r1
  have i2 : IntsAre its2 ms := Vals.ints r2
  have e1 : its.toArray.size = ns.length := by rw [List.size_toArray]; exact i1.length
  have e2 : its2.toArray.size = ms.length := by rw [List.size_toArray]; exact i2.length
  have at1 : ∀ j (h1 : j < its.toArray.size), ∃ t, its.toArray[j] = .int (ns.getD j 0) t := fun j h1 => PyProof.Rows.IntsAre.int_at i1 _ _ (by simp at h1; simp [h1])
  have at2 : ∀ j (h1 : j < its2.toArray.size), ∃ t, its2.toArray[j] = .int (ms.getD j 0) t := fun j h1 => PyProof.Rows.IntsAre.int_at i2 _ _ (by simp at h1; simp [h1])
  have R := Ob.RcOp.tuples_gt (A := X.A) (s := s) (e := fun j => decide (ns.getD j 0 = ms.getD j 0)) (r := fun j => decide (ms.getD j 0 < ns.getD j 0)) p1 p2 hu (fun j h1 h2 => by
    obtain ⟨t, et⟩ := at1 j h1
    obtain ⟨t', et'⟩ := at2 j h2
    rw [et, et']
    have z : (ns.getD j 0 == ms.getD j 0) = decide (ns.getD j 0 = ms.getD j 0) := by
      by_cases q : ns.getD j 0 = ms.getD j 0
      · rw [decide_eq_true q]; exact beq_iff_eq.mpr q
      · rw [decide_eq_false q]; exact beq_eq_false_iff_ne.mpr q
    rw [← z]
    exact SeqAt.EqAt.int_int _ _ _ _) (fun j h1 h2 _ => by
    obtain ⟨t, et⟩ := at1 j h1
    obtain ⟨t', et'⟩ := at2 j h2
    rw [et, et']
    exact Ob.RcOp.gt_int _ _ _ _)
  rw [e1, e2, lexAt_gt] at R
  exact R X.prog X.w X.xe (EP X pins σ Q) ⟨.bl _, H, I, rfl, q⟩
theorem ints_rep : ∀ {xs : List D} {vs : List V} {ns : List Int}, RepL G H μ xs vs → intsD xs = some ns → vs = ns.map V.int
  | [], vs, ns, r, h => by cases h; exact r
  | x :: xs, vs, ns, ⟨w, ws, e, r1, r2⟩, h => by
    cases x with
    | int i =>
      have e1 : intsD (.int i :: xs) = (intsD xs).map (i :: ·) := rfl
      rw [e1] at h
      cases e2 : intsD xs with
      | none => rw [e2] at h; cases h
      | some r => rw [e2] at h; cases h; rw [e, ints_rep r2 e2, show w = .int i from r1]; rfl
    | _ => cases h
theorem lex_read {xs ys : List D} {W : WX} {σ : L2.St} {H : Hp} {μ : List Addr} {S : Sto} {Q : VK} {v w : V} (hK : X.K = G.K) (s : RelS G H μ S) (rx : Rep G H μ (.tup xs) v) (ry : Rep G H μ (.tup ys) w) (h : Run G W σ H μ (lexD xs ys S) (Rep G) Q) :
    ∃ a b ns ms, v = .ref a ∧ w = .ref b ∧ SqT X.K H a (ns.map V.int) ∧ SqT X.K H b (ms.map V.int) ∧ Q (.bl (HT.lexLt ns ms)) H := by
  obtain ⟨a, vs, rfl, sq, r, z⟩ := rx
  obtain ⟨b, ws, rfl, sq2, r2, z2⟩ := ry
  unfold lexD at h
  split at h
  · rename_i ns ms e1 e2
    have := ints_rep r e1
    subst this
    have := ints_rep r2 e2
    subst this
    rw [hK]
    exact ⟨a, b, ns, ms, rfl, rfl, sq.1, sq2.1, Run.now h s rfl⟩
  · exact False.elim h
theorem od_lt (hK : X.K = G.K) (hu : X.A.units < cLine) : OpD X G (compareOp .Lt) (cmpD .lt) := by
  refine ⟨_, op_lt.or (op_ltT hu), fun W σ x y v w H μ S Q s rx ry h => ?_⟩
  cases x with
  | int i =>
    cases y with
    | int j => exact .inl ⟨i, j, rx, ry, Run.now h s rfl⟩
    | _ => exact False.elim h
  | tup xs =>
    cases y with
    | tup ys => exact .inr (lex_read hK s rx ry h)
    | _ => exact False.elim h
  | _ => cases y <;> exact False.elim h
theorem od_is : OpD X G (compareOp .Is) (cmpD .is) := by
  refine ⟨_, op_isBl, fun W σ x y v w H μ S Q s rx ry h => ?_⟩
  cases x with
  | bl a =>
    cases y with
    | bl b => exact ⟨a, b, rx, ry, Run.now h s rfl⟩
    | _ => exact False.elim h
  | _ => cases y <;> exact False.elim h
theorem od_ns : OpD X G (compareOp .IsNot) (cmpD .ns) := by
  refine ⟨_, op_notBl, fun W σ x y v w H μ S Q s rx ry h => ?_⟩
  cases x with
  | bl a =>
    cases y with
    | bl b => exact ⟨a, b, rx, ry, Run.now h s rfl⟩
    | _ => exact False.elim h
  | _ => cases y <;> exact False.elim h
theorem od_gt (hK : X.K = G.K) (hu : X.A.units < cLine) : OpD X G (compareOp .Gt) (cmpD .gt) := by
  refine ⟨_, op_gt.or (op_gtT hu), fun W σ x y v w H μ S Q s rx ry h => ?_⟩
  cases x with
  | int i =>
    cases y with
    | int j => exact .inl ⟨i, j, rx, ry, Run.now h s rfl⟩
    | _ => exact False.elim h
  | tup xs =>
    cases y with
    | tup ys =>
      obtain ⟨b, a, ms, ns, e1, e2, q1, q2, q⟩ := lex_read hK s ry rx h
      exact .inr ⟨a, b, ns, ms, e2, e1, q2, q1, q⟩
    | _ => exact False.elim h
  | _ => cases y <;> exact False.elim h
theorem od_le : OpD X G (compareOp .LtE) (cmpD .le) := od_cmp op_le (fun _ _ _ => rfl) fun _ _ _ h => cmpD_none (by intro z; cases z) (by intro z; cases z) (by intro z; cases z) (by intro z; cases z) h
theorem od_ge : OpD X G (compareOp .GtE) (cmpD .ge) := od_cmp op_ge (fun _ _ _ => rfl) fun _ _ _ h => cmpD_none (by intro z; cases z) (by intro z; cases z) (by intro z; cases z) (by intro z; cases z) h
theorem optAll_cons {α : Type} {x : Option α} {xs : List (Option α)} {ys : List α} (h : optAll (x :: xs) = some ys) : ∃ y r, x = some y ∧ optAll xs = some r ∧ ys = y :: r := by
  cases x with
  | none => cases h
  | some y =>
    unfold optAll at h
    cases e : optAll xs with
    | none => rw [e] at h; cases h
    | some r => rw [e] at h; cases h; exact ⟨y, r, rfl, rfl, rfl⟩
theorem dp_of (s : RelS G H μ S) : ∀ (n : Nat) (x : D) (v : V) (d : PyData), Rep G H μ x v → toP S n x = some d → Dp G.K H v d ∧ d.canLay0 = true ∧ d.depth ≤ n := by
  intro n
  induction n with
  | zero => intro x v d _ h; cases h
  | succ n ih =>
    have all : ∀ (xs : List D) (vs : List V) (ds : List PyData), RepL G H μ xs vs → optAll (xs.map (toP S n)) = some ds → DpAll G.K H vs ds ∧ PyData.canLayAll0 ds = true ∧ PyData.depthAll ds ≤ n := by
      intro xs
      induction xs with
      | nil =>
        intro vs ds r h
        cases (show vs = [] from r)
        cases h
        exact ⟨.nil, rfl, Nat.zero_le _⟩
      | cons x xs ihx =>
        intro vs ds r h
        obtain ⟨w, ws, rfl, r1, r2⟩ := r
        obtain ⟨y, ys, e1, e2, rfl⟩ := optAll_cons h
        obtain ⟨p1, p2, p3⟩ := ih x w y r1 e1
        obtain ⟨q1, q2, q3⟩ := ihx ws ys r2 e2
        refine ⟨.cons p1 q1, ?_, ?_⟩
        · show (y.canLay0 && PyData.canLayAll0 ys) = true
          rw [p2, q2]; rfl
        · show max y.depth (PyData.depthAll ys) ≤ n
          omega
    intro x v d r h
    cases x with
    | non => cases h; cases (show v = .non from r); exact ⟨.non, rfl, Nat.zero_le _⟩
    | bl b => cases h; cases (show v = .bl b from r); exact ⟨.bl b, rfl, Nat.zero_le _⟩
    | int b => cases h; cases (show v = .int b from r); exact ⟨.int b, rfl, Nat.zero_le _⟩
    | str b =>
      cases (show v = .str b from r)
      unfold toP at h
      split at h
      · rename_i k; cases h; exact ⟨.str b, k, Nat.zero_le _⟩
      · cases h
    | tup xs =>
      obtain ⟨a, vs, rfl, hs, hr, _⟩ := r
      unfold toP at h
      cases e : optAll (xs.map (toP S n)) with
      | none => rw [e] at h; cases h
      | some ds =>
        rw [e] at h; cases h
        obtain ⟨p1, p2, p3⟩ := all xs vs ds hr e
        exact ⟨.tup hs.1 p1, p2, Nat.succ_le_succ p3⟩
    | fzl xs =>
      obtain ⟨a, vs, rfl, hs, hr, _⟩ := r
      unfold toP at h
      cases e : optAll (xs.map (toP S n)) with
      | none => rw [e] at h; cases h
      | some ds =>
        rw [e] at h; cases h
        obtain ⟨p1, p2, p3⟩ := all xs vs ds hr e
        exact ⟨.lst hs.sq p1, p2, Nat.succ_le_succ p3⟩
    | ref k =>
      obtain ⟨a, rfl, ha⟩ := r
      unfold toP at h
      split at h
      · rename_i xs e0
        obtain ⟨p, vs, e1, e2, hr, _⟩ := s.lst (lstAt_of e0)
        rw [ha] at e1; cases e1
        cases e : optAll (xs.map (toP S n)) with
        | none => rw [e] at h; cases h
        | some ds =>
          rw [e] at h; cases h
          obtain ⟨p1, p2, p3⟩ := all xs vs ds hr e
          exact ⟨.lst (.inl (.inl e2)) p1, p2, Nat.succ_le_succ p3⟩
      · cases h
    | exc k => cases h
    | kt k => cases h
theorem shaped_of {d : PyData} (h1 : d.canLay0 = true) (h2 : d.depth ≤ dep) : SeqAt.shaped d = true := by
  unfold SeqAt.shaped
  rw [h1, decide_eq_true (show d.depth ≤ 64 from Nat.le_trans h2 (by decide))]
  rfl
theorem od_eq (hK : X.K = G.K) (hu : X.A.units + 64 < cLine) : OpD X G (compareOp .Eq) (cmpD .eq) := by
  refine ⟨_, op_eqD hu, fun W σ x y v w H μ S Q s rx ry h => ?_⟩
  have e0 : cmpD .eq x y S = (match toP S dep x, toP S dep y with | some d, some e => .ok (.bl (PyData.eqv d e)) S | _, _ => .bad) := by cases x <;> cases y <;> rfl
  rw [e0] at h
  split at h
  · rename_i d e h1 h2
    obtain ⟨a1, a2, a3⟩ := dp_of s _ _ _ _ rx h1
    obtain ⟨b1, b2, b3⟩ := dp_of s _ _ _ _ ry h2
    exact ⟨d, e, by rw [hK]; exact a1, by rw [hK]; exact b1, shaped_of a2 a3, shaped_of b2 b3, Run.now h s rfl⟩
  · exact False.elim h
theorem od_ne (hK : X.K = G.K) (hu : X.A.units + 64 < cLine) : OpD X G (compareOp .NotEq) (cmpD .ne) := by
  refine ⟨_, op_neD hu, fun W σ x y v w H μ S Q s rx ry h => ?_⟩
  have e0 : cmpD .ne x y S = (match toP S dep x, toP S dep y with | some d, some e => .ok (.bl (!PyData.eqv d e)) S | _, _ => .bad) := by cases x <;> cases y <;> rfl
  rw [e0] at h
  split at h
  · rename_i d e h1 h2
    obtain ⟨a1, a2, a3⟩ := dp_of s _ _ _ _ rx h1
    obtain ⟨b1, b2, b3⟩ := dp_of s _ _ _ _ ry h2
    exact ⟨d, e, by rw [hK]; exact a1, by rw [hK]; exact b1, shaped_of a2 a3, shaped_of b2 b3, Run.now h s rfl⟩
  · exact False.elim h
/-! ### in -/
theorem flat_rep : ∀ {x : D} {v : V}, x.flat = true → Rep G H μ x v → flatV v = true
  | .non, v, _, r => by cases (show v = .non from r); rfl
  | .bl b, v, _, r => by cases (show v = .bl b from r); rfl
  | .int b, v, _, r => by cases (show v = .int b from r); rfl
  | .str b, v, _, r => by cases (show v = .str b from r); rfl
theorem flats_rep : ∀ {xs : List D} {vs : List V}, xs.all D.flat = true → RepL G H μ xs vs → vs.all flatV = true
  | [], vs, _, r => by cases (show vs = [] from r); rfl
  | x :: xs, vs, h, ⟨w, ws, e, r1, r2⟩ => by
    subst e
    rw [List.all_cons, Bool.and_eq_true] at h
    rw [List.all_cons, flat_rep h.1 r1, flats_rep h.2 r2]; rfl
theorem eqv_flat {n m : Nat} : ∀ {x y : D} {v w : V} {d e : PyData}, x.flat = true → y.flat = true → Rep G H μ x v → Rep G H μ y w → toP S n x = some d → toP S m y = some e → eqV v w = PyData.eqv d e
  | x, y, v, w, d, e, h1, h2, r1, r2, e1, e2 => by
    cases n with
    | zero => cases e1
    | succ n =>
      cases m with
      | zero => cases e2
      | succ m =>
        cases x with
        | non =>
          cases (show v = .non from r1); cases e1
          cases y with
          | non => cases (show w = .non from r2); cases e2; rfl
          | bl b => cases (show w = .bl b from r2); cases e2; rfl
          | int b => cases (show w = .int b from r2); cases e2; rfl
          | str b =>
            cases (show w = .str b from r2); unfold toP at e2; split at e2
            · cases e2; rfl
            · cases e2
          | _ => cases h2
        | bl a =>
          cases (show v = .bl a from r1); cases e1
          cases y with
          | non => cases (show w = .non from r2); cases e2; rfl
          | bl b => cases (show w = .bl b from r2); cases e2; rfl
          | int b => cases (show w = .int b from r2); cases e2; rfl
          | str b =>
            cases (show w = .str b from r2); unfold toP at e2; split at e2
            · cases e2; rfl
            · cases e2
          | _ => cases h2
        | int a =>
          cases (show v = .int a from r1); cases e1
          cases y with
          | non => cases (show w = .non from r2); cases e2; rfl
          | bl b => cases (show w = .bl b from r2); cases e2; rfl
          | int b => cases (show w = .int b from r2); cases e2; rfl
          | str b =>
            cases (show w = .str b from r2); unfold toP at e2; split at e2
            · cases e2; rfl
            · cases e2
          | _ => cases h2
        | str a =>
          cases (show v = .str a from r1); unfold toP at e1
          split at e1
          · cases e1
            cases y with
            | non => cases (show w = .non from r2); cases e2; rfl
            | bl b => cases (show w = .bl b from r2); cases e2; rfl
            | int b => cases (show w = .int b from r2); cases e2; rfl
            | str b =>
              cases (show w = .str b from r2); unfold toP at e2; split at e2
              · cases e2; rfl
              · cases e2
            | _ => cases h2
          · cases e1
        | _ => cases h1
theorem inV_flat {x : D} {v : V} {d : PyData} {n m : Nat} (hx : x.flat = true) (rx : Rep G H μ x v) (ex : toP S n x = some d) : ∀ {ys : List D} {ws : List V} {es : List PyData}, ys.all D.flat = true → RepL G H μ ys ws → optAll (ys.map (toP S m)) = some es →
    inV v ws = es.any fun z => PyData.eqv z d
  | [], ws, es, _, r, e => by cases (show ws = [] from r); cases e; rfl
  | y :: ys, ws, es, h, ⟨w, us, e0, r1, r2⟩, e => by
    subst e0
    obtain ⟨z, zs, e1, e2, rfl⟩ := optAll_cons e
    rw [List.all_cons, Bool.and_eq_true] at h
    show (eqV w v || us.any fun y => eqV y v) = (PyData.eqv z d || zs.any fun z => PyData.eqv z d)
    rw [eqv_flat h.1 hx r1 rx e1 ex, ← inV_flat hx rx ex h.2 r2 e2]
    rfl
/-- what 'in' and 'not in' need -/
def rMem (K : PySem.W.Frag) (neg : Bool) : R2 := fun x y H Q => (∃ (c : Nat) (z : Str), x = .str ⟨#[c]⟩ ∧ y = .str z ∧ Q (.bl (if neg = true then !decide (c ∈ z.cps.toList) else decide (c ∈ z.cps.toList))) H) ∨
  rIn K neg x y H Q ∨ (∃ d ds, Dp K H x d ∧ Dp K H y (.list ds) ∧ SeqAt.shaped d = true ∧ SeqAt.shaped (.list ds) = true ∧ Q (.bl (if neg = true then !ds.any fun z => PyData.eqv z d else ds.any fun z => PyData.eqv z d)) H) ∨
  ∃ d ds, Dp K H x d ∧ Dp K H y (.tuple ds) ∧ SeqAt.shaped d = true ∧ SeqAt.shaped (.tuple ds) = true ∧ Q (.bl (if neg = true then !ds.any fun z => PyData.eqv z d else ds.any fun z => PyData.eqv z d)) H
theorem op_mem (hu : X.A.units + 65 < cLine) : OpR X (compareOp .In) (rMem X.K false) := fun pins s σ H x y v u Q I r1 r2 h => by
  rcases h with h | h | h | ⟨d, ds, hd, he, sd, se, q⟩
  · exact op_in_sign pins s σ H x y v u Q I r1 r2 h
  · exact op_in_seq pins s σ H x y v u Q I r1 r2 h
  · exact op_inD hu pins s σ H x y v u Q I r1 r2 h
  · obtain ⟨as, e1⟩ := Dp.reads I d x v hd r1
    obtain ⟨bs, e2⟩ := Dp.reads I (.tuple ds) y u he r2
    exact SeqAt.in_tuple_reads e2 e1 (SeqAt.canLay_of_shaped se) (SeqAt.canLay_of_shaped sd) (room_in_shaped sd hu) ⟨.bl _, H, I, rfl, q⟩
theorem op_nmem (hu : X.A.units + 65 < cLine) : OpR X (compareOp .NotIn) (rMem X.K true) := fun pins s σ H x y v u Q I r1 r2 h => by
  rcases h with h | h | h | ⟨d, ds, hd, he, sd, se, q⟩
  · exact op_notIn_sign pins s σ H x y v u Q I r1 r2 h
  · exact op_notIn_seq pins s σ H x y v u Q I r1 r2 h
  · exact op_notInD hu pins s σ H x y v u Q I r1 r2 h
  · obtain ⟨as, e1⟩ := Dp.reads I d x v hd r1
    obtain ⟨bs, e2⟩ := Dp.reads I (.tuple ds) y u he r2
    exact SeqAt.notIn_tuple_reads e2 e1 (SeqAt.canLay_of_shaped se) (SeqAt.canLay_of_shaped sd) (room_in_shaped sd hu) ⟨.bl _, H, I, rfl, q⟩
theorem memS_read (hK : X.K = G.K) (neg : Bool) (W : WX) (σ : L2.St) (x y : D) (v w : V) (H : Hp) (μ : List Addr) (S : Sto) (Q : VK) (s : RelS G H μ S) (rx : Rep G H μ x v) (ry : Rep G H μ y w) (h : Run G W σ H μ (memS neg x y S) (Rep G) Q) : rMem X.K neg v w H Q := by
  rw [hK]
  have tupC : ∀ ys : List D, (match toP S dep x, toP S dep (.tup ys) with
    | some d, some (.tuple es) => R.ok (.bl (if neg then !es.any (fun z => PyData.eqv z d) else es.any (fun z => PyData.eqv z d))) S
    | _, _ => .bad) = memS neg x (.tup ys) S := fun ys => by cases x <;> rfl
  have lstC : ∀ n : Nat, (match toP S dep x, toP S dep (.ref n) with
    | some d, some (.list es) => R.ok (.bl (if neg then !es.any (fun z => PyData.eqv z d) else es.any (fun z => PyData.eqv z d))) S
    | _, _ => .bad) = memS neg x (.ref n) S := fun n => by cases x <;> rfl
  cases y with
  | tup ys =>
    rw [← tupC ys] at h
    split at h
    · rename_i d es e1 e2
      obtain ⟨a1, a2, a3⟩ := dp_of s _ _ _ _ rx e1
      obtain ⟨b1, b2, b3⟩ := dp_of s _ _ _ _ ry e2
      exact .inr (.inr (.inr ⟨d, es, a1, b1, shaped_of a2 a3, shaped_of b2 b3, Run.now h s rfl⟩))
    · exact False.elim h
  | ref n =>
    rw [← lstC n] at h
    split at h
    · rename_i d es e1 e2
      obtain ⟨a1, a2, a3⟩ := dp_of s _ _ _ _ rx e1
      obtain ⟨b1, b2, b3⟩ := dp_of s _ _ _ _ ry e2
      exact .inr (.inr (.inl ⟨d, es, a1, b1, shaped_of a2 a3, shaped_of b2 b3, Run.now h s rfl⟩))
    · exact False.elim h
  | str z =>
    cases x with
    | str c =>
      have e0 : memS neg (.str c) (.str z) S = (match c.cps.toList with | [k] => R.ok (.bl (if neg then !decide (k ∈ z.cps.toList) else decide (k ∈ z.cps.toList))) S | _ => .bad) := rfl
      rw [e0] at h
      split at h
      · rename_i k hk
        refine .inl ⟨k, z, ?_, ry, Run.now h s rfl⟩
        obtain ⟨cps⟩ := c
        obtain ⟨l⟩ := cps
        cases (show l = [k] from hk)
        exact rx
      · exact False.elim h
    | _ => exact False.elim h
  | _ => cases x <;> exact False.elim h
def rMemD (neg : Bool) : R2 := fun y x H Q => ∃ a o, x = .ref a ∧ DGet H a y o ∧ Q (.bl (if neg = true then !o.isSome else o.isSome)) H
theorem op_dmem (hu : X.A.units + 1 < cLine) : OpR X (compareOp .In) (rMemD false) := fun pins s σ H x y v u Q I r1 r2 h => by
  obtain ⟨a, o, rfl, g, q⟩ := h
  obtain rfl : u = Value.ref a := r2
  exact d_in hu I g r1 fun s3 I3 => ⟨.bl o.isSome, H, I3, rfl, q⟩
theorem op_dnmem (hu : X.A.units + 1 < cLine) : OpR X (compareOp .NotIn) (rMemD true) := fun pins s σ H x y v u Q I r1 r2 h => by
  obtain ⟨a, o, rfl, g, q⟩ := h
  obtain rfl : u = Value.ref a := r2
  exact d_notIn hu I g r1 fun s3 I3 => ⟨.bl (!o.isSome), H, I3, rfl, q⟩
theorem mem_read (hK : X.K = G.K) (neg : Bool) (W : WX) (σ : L2.St) (x y : D) (v w : V) (H : Hp) (μ : List Addr) (S : Sto) (Q : VK) (s : RelS G H μ S) (rx : Rep G H μ x v) (ry : Rep G H μ y w) (h : Run G W σ H μ (memD neg x y S) (Rep G) Q) : rMem X.K neg v w H Q ∨ rMemD neg v w H Q := by
  unfold memD at h
  by_cases z : isDic S y = true
  · rw [if_pos z] at h
    split at h
    · rename_i o e
      obtain ⟨a, ov, rfl, g, g1, g2⟩ := get_rep s ry rx e
      refine .inr ⟨a, ov, rfl, g, ?_⟩
      cases o with
      | none => rw [g2 rfl]; exact Run.now h s rfl
      | some d => obtain ⟨u, rfl, _⟩ := g1 d rfl; exact Run.now h s rfl
    · exact False.elim h
  · rw [if_neg z] at h
    exact .inl (memS_read hK neg W σ x y v w H μ S Q s rx ry h)
theorem od_in (hK : X.K = G.K) (hu : X.A.units + 65 < cLine) : OpD X G (compareOp .In) (memD false) := ⟨_, (op_mem hu).or (op_dmem (by omega)), fun W σ x y v w H μ S Q s rx ry h => mem_read hK false W σ x y v w H μ S Q s rx ry h⟩
theorem od_notIn (hK : X.K = G.K) (hu : X.A.units + 65 < cLine) : OpD X G (compareOp .NotIn) (memD true) := ⟨_, (op_nmem hu).or (op_dnmem (by omega)), fun W σ x y v w H μ S Q s rx ry h => mem_read hK true W σ x y v w H μ S Q s rx ry h⟩
/-! ### subscripts, slices -/
theorem items_rep (s : RelS G H μ S) : ∀ {x : D} {v : V} {xs : List D}, Rep G H μ x v → itemsOf S x = some xs → ∃ a vs, v = .ref a ∧ (SqL G.K H a vs ∨ SqT G.K H a vs) ∧ RepL G H μ xs vs ∧ xs.length ≤ sizeLine
  | .tup ys, v, xs, ⟨a, vs, e, sq, r, z⟩, h => by cases h; exact ⟨a, vs, e, .inr sq.1, r, z⟩
  | .fzl ys, v, xs, ⟨a, vs, e, sq, r, z⟩, h => by cases h; exact ⟨a, vs, e, .inl sq.sq, r, z⟩
  | .ref n, v, xs, ⟨a, e, g⟩, h => by
    obtain ⟨p, vs, e1, e2, r, z⟩ := s.lst (n := n) (xs := xs) h
    rw [g] at e1; cases e1
    exact ⟨a, vs, e, .inl (.inl (.inl e2)), r, z⟩
theorem atI_rep {xs : List D} {vs : List V} {k : Int} {d : D} (r : RepL G H μ xs vs) (h : atI xs k = some d) : ∃ v, atI vs k = some v ∧ Rep G H μ d v := by
  unfold atI at h ⊢
  rw [← RepL.len r]
  cases e : ixN xs.length k with
  | none => rw [e] at h; cases h
  | some j =>
    rw [e] at h
    exact r.get h
theorem sE_ixS (hK : X.K = G.K) (ha : PE X a (dE G W eva)) (hb : PE X b (dE G W evb)) (hs : PlainIx b) : PE X (.Subscript a b pos) (dE G W fun ρ S => (eva ρ S).bind fun x S1 => (evb ρ S1).bind fun y S2 => ixS x y S2) := by
  refine (pe_ix ix_seq ha hb hs).weak fun σ H Q h => two (fun W σ x y v w H μ S Q s rx ry h => ?_) h
  cases y with
  | int k =>
    cases (show w = .int k from ry)
    have gen : ∀ xs, itemsOf S x = some xs → Run G W σ H μ (match atI xs k with | some v => R.ok v S | none => .bad) (Rep G) Q → rIx X.K v (.int k) H Q := fun xs e h => by
      obtain ⟨p, vs, rfl, sq, r, z⟩ := items_rep s rx e
      cases e2 : atI xs k with
      | none => rw [e2] at h; exact False.elim h
      | some d =>
        rw [e2] at h
        obtain ⟨u, e3, q⟩ := atI_rep r e2
        rw [hK] at *
        rcases sq with sq | sq
        · exact .inl ⟨p, vs, k, u, rfl, rfl, sq, e3, Run.now h s q⟩
        · exact .inr (.inl ⟨p, vs, k, u, rfl, rfl, sq, e3, Run.now h s q⟩)
    cases x with
    | str z =>
      have e0 : ixS (.str z) (.int k) S = if z.length ≤ sizeLine then (match atI z.cps.toList k with | some c => R.ok (.str ⟨#[c]⟩) S | none => .bad) else .bad := rfl
      rw [e0] at h
      by_cases q : z.length ≤ sizeLine
      · rw [if_pos q] at h
        cases e2 : atI z.cps.toList k with
        | none => rw [e2] at h; exact False.elim h
        | some c =>
          rw [e2] at h
          exact .inr (.inr ⟨z, k, c, rx, rfl, q, e2, Run.now h s rfl⟩)
      · rw [if_neg q] at h; exact False.elim h
    | tup xs => exact gen xs rfl h
    | fzl xs => exact gen xs rfl h
    | ref n =>
      have e0 : ixS (.ref n) (.int k) S = match itemsOf S (.ref n) with | some xs => (match atI xs k with | some v => R.ok v S | none => .bad) | none => .bad := rfl
      rw [e0] at h
      cases e : itemsOf S (.ref n) with
      | none => rw [e] at h; exact False.elim h
      | some xs => rw [e] at h; exact gen xs e h
    | _ => exact False.elim h
  | _ => exact False.elim h
theorem sE_ix (hK : X.K = G.K) (hu : X.A.units + 1 < cLine) (ha : PE X a (dE G W eva)) (hb : PE X b (dE G W evb)) (hs : PlainIx b) : PE X (.Subscript a b pos) (dE G W fun ρ S => (eva ρ S).bind fun x S1 => (evb ρ S1).bind fun y S2 => ixD x y S2) := by
  refine PE.pick (pe_dget hu ha hb (noSl_of hs)) (sE_ixS (G := G) (W := W) (pos := pos) hK ha hb hs) fun σ H Q ⟨ρ, S, μ, hE, hS, h⟩ => ?_
  rcases by_outcome (eva ρ S) (fun x S1 => evb ρ S1) (fun x S1 => ∃ y S2, evb ρ S1 = .ok y S2 ∧ isDic S2 x = true) with ⟨x, S1, e1, y, S2, e2, z⟩ | hn
  · refine .inl (dget_read ⟨ρ, S, μ, hE, hS, ?_⟩)
    dsimp only at h ⊢
    rw [e1] at h ⊢
    simp only [R.bind_ok] at h ⊢
    rw [e2] at h ⊢
    simp only [R.bind_ok] at h ⊢
    unfold ixD at h
    rw [if_pos z] at h
    exact h
  · refine .inr ⟨ρ, S, μ, hE, hS, ?_⟩
    dsimp only at h ⊢
    cases e1 : eva ρ S with
    | bad => rw [e1] at h; exact h
    | err _ _ => rw [e1] at h; exact h
    | ok x S1 =>
      rw [e1] at h
      simp only [R.bind_ok] at h ⊢
      cases e2 : evb ρ S1 with
      | bad => rw [e2] at h; exact h
      | err _ _ => rw [e2] at h; exact h
      | ok y S2 =>
        rw [e2] at h
        simp only [R.bind_ok] at h ⊢
        unfold ixD at h
        rw [if_neg fun z => hn x S1 e1 ⟨y, S2, e2, z⟩] at h
        exact h
theorem sO_none : PO X none (dO G W fun _ S => .ok none S) := po_none.weak fun σ H Q ⟨ρ, S, μ, hE, hS, h⟩ => Run.now h hS rfl
theorem sO_some (ha : PE X a (dE G W eva)) : PO X (some a) (dO G W fun ρ S => (eva ρ S).bind intO) := by
  refine (po_some ha).weak fun σ H Q ⟨ρ, S, μ, hE, hS, h⟩ => ?_
  refine ⟨ρ, S, μ, hE, hS, h.step fun x S1 v H1 μ1 l1 s1 q1 h1 => ?_⟩
  cases x with
  | int i => exact ⟨i, q1, Run.now h1 s1 rfl⟩
  | _ => exact False.elim h1
variable {lo hi : Option PySem.Expr} {evl evh : En → Sto → R (Option Int)} {p2 : Pos}
theorem three {ev : D → Option Int → Option Int → Sto → R D} {r : V → Option Int → Option Int → Hp → VK → Prop} {σ : L2.St} {H : Hp} {Q : VK}
    (hr : ∀ (W : WX) (σ : L2.St) (x : D) (l h : Option Int) (v : V) (H : Hp) (μ : List Addr) (S : Sto) (Q : VK), RelS G H μ S → Rep G H μ x v → Run G W σ H μ (ev x l h S) (Rep G) Q → r v l h H Q)
    (h : dE G W (fun ρ S => (eva ρ S).bind fun x S1 => (evl ρ S1).bind fun l S2 => (evh ρ S2).bind fun h S3 => ev x l h S3) σ H Q) : tSl r (dE G W eva) (dO G W evl) (dO G W evh) σ H Q := by
  obtain ⟨ρ, S, μ, hE, hS, h⟩ := h
  refine ⟨ρ, S, μ, hE, hS, h.step fun x S1 v H1 μ1 l1 s1 q1 h1 => ?_⟩
  refine ⟨ρ, S1, μ1, hE.later l1, s1, h1.step fun l S2 l' H2 μ2 l2 s2 q2 h2 => ?_⟩
  cases q2
  refine ⟨ρ, S2, μ2, hE.later (l1.trans l2), s2, h2.step fun h S3 h' H3 μ3 l3 s3 q3 h3 => ?_⟩
  cases q3
  exact hr W σ x l h v H3 μ3 S3 Q s3 (q1.later (l2.trans l3)) h3
theorem cut_rep {xs : List D} {vs : List V} {l h : Option Int} (r : RepL G H μ xs vs) : RepL G H μ (cutD xs l h) (cutV vs l h) := by
  unfold cutD cutV
  rw [← RepL.len r]
  exact RepL.take _ (RepL.drop _ r)
theorem cutD_len {xs : List D} {l h : Option Int} : (cutD xs l h).length ≤ xs.length := by
  unfold cutD
  rw [List.length_take, List.length_drop]
  omega
theorem sE_sl (hK : X.K = G.K) (ha : PE X a (dE G W eva)) (hl : PO X lo (dO G W evl)) (hh : PO X hi (dO G W evh)) :
    PE X (.Subscript a (.Slice lo hi none p2) pos) (dE G W fun ρ S => (eva ρ S).bind fun x S1 => (evl ρ S1).bind fun l S2 => (evh ρ S2).bind fun h S3 => slD x l h S3) := by
  refine (pe_slice (sl_tupA.or (sl_str.or sl_list)) ha hl hh).weak fun σ H Q h => three (fun W σ x l h v H μ S Q s rx h2 => ?_) h
  cases x with
  | tup xs =>
    obtain ⟨a, vs, rfl, sq, r, z⟩ := rx
    rw [show slD (.tup xs) l h S = .ok (.tup (cutD xs l h)) S from rfl] at h2
    refine .inl ⟨a, vs, rfl, by rw [hK]; exact sq.1, fun k => ?_, fun k p hp => ?_⟩
    · rw [← RepL.len r] at k
      have e : cutD xs l h = xs := by unfold cutD; rw [k.1, k.2]; simp
      rw [e] at h2
      exact Run.now h2 s ⟨a, vs, rfl, sq, r, z⟩
    · exact Run.new h2 s hp ⟨p, _, rfl, .new, RepL.later (Later.new hp) _ _ (cut_rep r), Nat.le_trans cutD_len z⟩
  | str y =>
    by_cases k : y.length ≤ sizeLine
    · rw [show slD (.str y) l h S = .ok (.str (L2.cutS y l h)) S from if_pos k] at h2
      exact .inr (.inl ⟨y, rx, k, Run.now h2 s rfl⟩)
    · rw [show slD (.str y) l h S = .bad from if_neg k] at h2; exact False.elim h2
  | ref n =>
    obtain ⟨a, rfl, g⟩ := rx
    have e0 : slD (.ref n) l h S = (match S[n]? with | some (.lst xs) => R.ok (.ref S.length) (S ++ [.lst (cutD xs l h)]) | _ => .bad) := rfl
    rw [e0] at h2
    split at h2
    · rename_i xs e
      obtain ⟨p, vs, e1, e2, r, z⟩ := s.lst (lstAt_of e)
      rw [g] at e1; cases e1
      exact .inr (.inr ⟨a, vs, rfl, .inl (.inl e2), fun p hp => Run.placed h2 s hp (cut_rep r) (Nat.le_trans cutD_len z)⟩)
    · exact False.elim h2
  | _ => exact False.elim h2
theorem RepL.rev {xs : List D} {vs : List V} (h : RepL G H μ xs vs) : RepL G H μ xs.reverse vs.reverse := by
  induction xs generalizing vs with
  | nil =>
    have : vs = [] := h
    subst this; exact h
  | cons x xs ih =>
    obtain ⟨v, ws, rfl, hx, hxs⟩ := h
    rw [List.reverse_cons, List.reverse_cons]
    exact RepL.app (ih hxs) ⟨v, [], rfl, hx, rfl⟩
theorem sE_rev {j : Nat} {q1 q2 q3 : Pos} (hK : X.K = G.K) (ha : PE X a (dE G W eva)) :
    PE X (.Subscript a (.Slice none none (some (.UnaryOp .USub (.Constant (.int 1) j q1) q2)) q3) pos) (dE G W fun ρ S => (eva ρ S).bind revD) := by
  refine (SBr.pe_rev ha).weak fun σ H Q ⟨ρ, S, μ, hE, hS, h⟩ => ?_
  refine ⟨ρ, S, μ, hE, hS, h.step fun x S1 v H1 μ1 l1 s1 q1 h1 => ?_⟩
  cases x with
  | tup xs =>
    obtain ⟨a, vs, rfl, sq, r, z⟩ := q1
    rw [show revD (.tup xs) S1 = .ok (.tup xs.reverse) S1 from rfl] at h1
    exact ⟨a, vs, rfl, .inr ⟨by rw [hK]; exact sq.1, fun p hp => Run.new h1 s1 hp ⟨p, _, rfl, .new, RepL.later (Later.new hp) _ _ (RepL.rev r), by rw [List.length_reverse]; exact z⟩⟩⟩
  | ref n =>
    obtain ⟨a, rfl, g⟩ := q1
    have e0 : revD (.ref n) S1 = (match S1[n]? with | some (.lst xs) => R.ok (.ref S1.length) (S1 ++ [.lst xs.reverse]) | _ => .bad) := rfl
    rw [e0] at h1
    split at h1
    · rename_i xs e
      obtain ⟨p, vs, e1, e2, r, z⟩ := s1.lst (lstAt_of e)
      rw [g] at e1; cases e1
      exact ⟨a, vs, rfl, .inl ⟨.inl (.inl e2), fun p hp => Run.placed h1 s1 hp (RepL.rev r) (by rw [List.length_reverse]; exact z)⟩⟩
    · exact False.elim h1
  | _ => exact False.elim h1
/-- a list's slice: a new list -/
theorem Run.fresh {H0 : Hp} {xs : List D} {vs : List V} {p : Addr} {S' : Sto} (h : Run G W σ H μ (.ok xs S) (RepN G H0) Q) (s : RelS G H μ S) (n : H p = none) (n0 : H0 p = none) (r : RepL G H μ xs vs) (z : xs.length ≤ sizeLine) : Q (.ref p) (upd H p (.lst vs)) :=
  Run.new h s n ⟨p, vs, rfl, n0, upd_same, s.not_none n, RepL.later (Later.new n) _ _ r, z⟩
theorem sL_cut (hK : X.K = G.K) (ha : PE X a (dE G W eva)) (hl : PO X lo (dO G W evl)) (hh : PO X hi (dO G W evh)) :
    PE X (.Subscript a (.Slice lo hi none p2) pos) (dL G W fun ρ S => (eva ρ S).bind fun x S1 => (evl ρ S1).bind fun l S2 => (evh ρ S2).bind fun h S3 => cutL S3 x l h) := by
  refine (pe_slice sl_list ha hl hh).weak fun σ H Q ⟨ρ, S, μ, hE, hS, h⟩ => ?_
  refine ⟨ρ, S, μ, hE, hS, h.stepL fun x S1 v H1 μ1 l1 s1 q1 h1 => ?_⟩
  refine ⟨ρ, S1, μ1, hE.later l1, s1, (Run.later l1 h1).step fun l S2 l' H2 μ2 l2 s2 q2 h2 => ?_⟩
  cases q2
  refine ⟨ρ, S2, μ2, hE.later (l1.trans l2), s2, h2.step fun h S3 h' H3 μ3 l3 s3 q3 h3 => ?_⟩
  cases q3
  have L := (l1.trans l2).trans l3
  have q := q1.later (l2.trans l3)
  cases x with
  | ref n =>
    obtain ⟨a, rfl, g⟩ := q
    have e0 : cutL S3 (.ref n) l h = (match S3[n]? with | some (.lst xs) => R.ok (cutD xs l h) S3 | _ => .bad) := rfl
    rw [e0] at h3
    split at h3
    · rename_i xs e
      obtain ⟨p, vs, e1, e2, r, z⟩ := s3.lst (lstAt_of e)
      rw [g] at e1; cases e1
      exact ⟨a, vs, rfl, .inl (.inl e2), fun p hp => Run.fresh (S' := S3) h3 s3 hp (back s3 L hp) (cut_rep r) (Nat.le_trans cutD_len z)⟩
    · exact False.elim h3
  | fzl xs =>
    obtain ⟨a, vs, rfl, sq, r, z⟩ := q
    exact ⟨a, vs, rfl, by rw [hK]; exact sq.sq, fun p hp => Run.fresh (S' := S3) h3 s3 hp (back s3 L hp) (cut_rep r) (Nat.le_trans cutD_len z)⟩
  | _ => exact False.elim h3
end
end SB

/-! sorted: ints, tuples that begin with one or two ints that tell them apart, keys of a dict -/
namespace SB
open PySem PySem.Spec PyProof.Rows L2 Srt
open Classical
/-! ### plain: one sorted arrangement -/
theorem insI_perm (x : Int) : ∀ l : List Int, (insI x l).Perm (x :: l)
  | [] => .refl _
  | y :: ys => by
    unfold insI; split
    · exact ((insI_perm x ys).cons y).trans (.swap x y ys)
    · exact .refl _
theorem sortI_perm : ∀ l : List Int, (sortI l).Perm l
  | [] => .refl _
  | x :: l => (insI_perm x (sortI l)).trans ((sortI_perm l).cons x)
theorem insI_pw (x : Int) : ∀ l : List Int, l.Pairwise (· ≤ ·) → (insI x l).Pairwise (· ≤ ·)
  | [], _ => List.pairwise_singleton _ _
  | y :: ys, h => by
    have h1 := List.pairwise_cons.mp h
    unfold insI; split
    · rename_i c
      refine List.pairwise_cons.mpr ⟨fun z hz => ?_, insI_pw x ys h1.2⟩
      rcases List.mem_cons.mp ((insI_perm x ys).mem_iff.mp hz) with rfl | hz
      · omega
      · exact h1.1 z hz
    · rename_i c
      refine List.pairwise_cons.mpr ⟨fun z hz => ?_, h⟩
      rcases List.mem_cons.mp hz with rfl | hz
      · omega
      · have := h1.1 z hz; omega
theorem sortI_pw : ∀ l : List Int, (sortI l).Pairwise (· ≤ ·)
  | [] => .nil
  | x :: l => insI_pw x _ (sortI_pw l)
theorem sortI_uniq {l m : List Int} (h : m.Perm l) (p : m.Pairwise (· ≤ ·)) : m = sortI l :=
  List.Perm.eq_of_pairwise (le := (· ≤ ·)) (fun a b _ _ h1 h2 => Int.le_antisymm h1 h2) p (sortI_pw l) (h.trans (sortI_perm l).symm)
theorem insK_perm (x : (Int × Int) × D) : ∀ l : List ((Int × Int) × D), (insK x l).Perm (x :: l)
  | [] => .refl _
  | y :: ys => by
    unfold insK; split
    · exact ((insK_perm x ys).cons y).trans (.swap x y ys)
    · exact .refl _
theorem sortK_perm : ∀ l : List ((Int × Int) × D), (sortK l).Perm l
  | [] => .refl _
  | x :: l => (insK_perm x (sortK l)).trans ((sortK_perm l).cons x)
abbrev NotGt (x y : (Int × Int) × D) : Prop := ¬ sLt y.1 x.1
theorem insK_pw (x : (Int × Int) × D) : ∀ l : List ((Int × Int) × D), l.Pairwise NotGt → (insK x l).Pairwise NotGt
  | [], _ => List.pairwise_singleton _ _
  | y :: ys, h => by
    have h1 := List.pairwise_cons.mp h
    unfold insK; split
    · rename_i c
      refine List.pairwise_cons.mpr ⟨fun z hz => ?_, insK_pw x ys h1.2⟩
      rcases List.mem_cons.mp ((insK_perm x ys).mem_iff.mp hz) with rfl | hz
      · unfold NotGt; unfold sLt at c ⊢; omega
      · exact h1.1 z hz
    · rename_i c
      refine List.pairwise_cons.mpr ⟨fun z hz => ?_, h⟩
      rcases List.mem_cons.mp hz with rfl | hz
      · exact c
      · have := h1.1 z hz; unfold NotGt at this ⊢; unfold sLt at this c ⊢; omega
theorem sortK_pw : ∀ l : List ((Int × Int) × D), (sortK l).Pairwise NotGt
  | [] => .nil
  | x :: l => insK_pw x _ (sortK_pw l)
theorem pw_all {α : Type} {R : α → α → Prop} (hs : ∀ x y, R x y → R y x) (hr : ∀ x, R x x) : ∀ {l : List α}, l.Pairwise R → ∀ {a b : α}, a ∈ l → b ∈ l → R a b
  | [], _, a, b, ha, _ => by cases ha
  | x :: l, h, a, b, ha, hb => by
    have h1 := List.pairwise_cons.mp h
    rcases List.mem_cons.mp ha with ea | ha'
    · rcases List.mem_cons.mp hb with eb | hb'
      · rw [ea, eb]; exact hr _
      · rw [ea]; exact h1.1 b hb'
    · rcases List.mem_cons.mp hb with eb | hb'
      · rw [eb]; exact hs _ _ (h1.1 a ha')
      · exact pw_all hs hr h1.2 ha' hb'
theorem sortK_uniq {l m : List ((Int × Int) × D)} (hd : l.Pairwise fun p q => p.1 ≠ q.1) (h : m.Perm l) (p : m.Pairwise NotGt) : m = sortK l := by
  refine List.Perm.eq_of_pairwise (le := NotGt) (fun a b ha hb h1 h2 => ?_) p (sortK_pw l) (h.trans (sortK_perm l).symm)
  have ea : a ∈ l := h.mem_iff.mp ha
  have eb : b ∈ l := (sortK_perm l).mem_iff.mp hb
  have ek : a.1 = b.1 := by
    unfold NotGt at h1 h2; unfold sLt at h1 h2
    exact Prod.ext (by omega) (by omega)
  apply Decidable.byContradiction
  intro ne
  have hsym : l.Pairwise fun p q => p ≠ q → p.1 ≠ q.1 := List.Pairwise.imp (fun {a b} h (_ : a ≠ b) => h) hd
  have := pw_all (R := fun p q : (Int × Int) × D => p ≠ q → p.1 ≠ q.1) (fun x y h n e => h n.symm e.symm) (fun x n => absurd rfl n) hsym ea eb
  exact this ne ek
theorem apart_ne {p q : Int × Option Int} (h : apart p q) : sVal p ≠ sVal q := by
  intro e
  have e1 : p.1 = q.1 := congrArg (fun z : Int × Int => z.1) e
  have e2 : p.2.getD 0 = q.2.getD 0 := congrArg (fun z : Int × Int => z.2) e
  rcases h with h | ⟨a, b, ha, hb, h⟩
  · exact h e1
  · rw [ha, hb] at e2; exact h e2
theorem apart_symm {p q : Int × Option Int} (h : apart p q) : apart q p := by
  rcases h with h | ⟨a, b, ha, hb, h⟩
  · exact .inl (Ne.symm h)
  · exact .inr ⟨b, a, hb, ha, Ne.symm h⟩
/-- a rearrangement of images is the image of a rearrangement -/
theorem perm_map_inv {α β : Type} {f : α → β} : ∀ {m n : List β}, m.Perm n → ∀ l : List α, n = l.map f → ∃ k : List α, k.Perm l ∧ m = k.map f := by
  intro m n h
  induction h with
  | nil => intro l e; cases l with
    | nil => exact ⟨[], .refl _, rfl⟩
    | cons _ _ => cases e
  | cons x _ ih =>
    intro l e
    cases l with
    | nil => cases e
    | cons a l =>
      injection e with e1 e2
      obtain ⟨k, h1, h2⟩ := ih l e2
      exact ⟨a :: k, h1.cons a, by rw [List.map_cons, e1, h2]⟩
  | swap x y r =>
    intro l e
    match l, e with
    | [], e => cases e
    | [_], e => cases e
    | a :: b :: l, e =>
      injection e with e1 e2
      injection e2 with e2 e3
      exact ⟨b :: a :: l, .swap a b l, by rw [List.map_cons, List.map_cons, e1, e2, e3]⟩
  | trans _ _ ih1 ih2 =>
    intro l e
    obtain ⟨k, h1, h2⟩ := ih2 l e
    obtain ⟨k2, h3, h4⟩ := ih1 k h2
    exact ⟨k2, h3.trans h1, h4⟩
/-! ### at the library's level -/
section
variable {prog : Program} {w : World} {A : Around} {E : Value → Shared → Prop} {s : Shared}
def IsT (h : Heap) (v : Value) (k : Int × Option Int) : Prop := ∃ a o t rest n, v = .ref a ∧ h.get? a = some o ∧ o.cls = .type "tuple" ∧ o.data = .seq (Value.int k.1 t :: rest).toArray n ∧ ∀ j, k.2 = some j → ∃ u r2, rest = Value.int j u :: r2
theorem IsT.keeps {h h' : Heap} {v : Value} {k : Int × Option Int} (p : IsT h v k) (kk : ∀ b o, h.get? b = some o → o.cls = .type "tuple" → h'.get? b = some o) : IsT h' v k := by
  obtain ⟨a, o, t, rest, n, e, ho, hc, hd⟩ := p
  exact ⟨a, o, t, rest, n, e, kk _ _ ho hc, hc, hd⟩
theorem kat_self {b fin : Bool} {Q : Bool → Shared → Prop} (h : Q fin s) : ∀ (l : List Value) (i : Nat), PySem.W.KatLex prog w A b fin Q (l.zip l) i s
  | [], _ => PySem.W.kat_nil h
  | v :: l, i => PySem.W.kat_cons (SeqAt.EqAt.same v prog w _ _ (PySem.W.kat_yes (kat_self h l (i + 1))))
theorem lexB_self (x : Int × Int) : SrtO.lexB x x = false := SrtO.lexB_no.mpr (by omega)
theorem tup_cmp {vs : List Value} {k : Value → Int × Option Int} (hp : ∀ v ∈ vs, IsT s.heap v (k v)) (ha : ∀ v ∈ vs, ∀ u ∈ vs, v ≠ u → apart (k v) (k u)) : SrtO.Cmp prog w A s (tuples' true) (fun p => p.1 ∈ vs) (SrtO.lt2 fun v u => SrtO.lexB (sVal (k v)) (sVal (k u))) := by
  intro p q hm hm'
  have h1 := hp _ hm
  have h2 := hp _ hm'
  show wpAny (model prog w) A (keyLt' (tuples' true) p.1 q.1) (fun r s' => s' = s ∧ r = SrtO.lexB (sVal (k p.1)) (sVal (k q.1))) (fun _ _ => False) s
  by_cases hpq : p.1 = q.1
  · rw [← hpq]
    obtain ⟨a, o, t, rest, n, e, ho, hc, hd, _⟩ := h1
    generalize k p.1 = kp at hd ⊢
    rw [e]
    refine PySem.W.kat_lt ho hd ho hd ?_
    refine kat_self ⟨rfl, ?_⟩ _ _
    rw [lexB_self, decide_eq_false (Nat.lt_irrefl _)]
  · have hap := ha _ hm _ hm' hpq
    generalize k p.1 = kp at h1 hap ⊢
    generalize k q.1 = kq at h2 hap ⊢
    obtain ⟨a, o, t, rest, n, e, ho, hc, hd, hr⟩ := h1
    obtain ⟨a', o', t', rest', n', e', ho', hc', hd', hr'⟩ := h2
    rw [e, e']
    refine PySem.W.kat_lt ho hd ho' hd' ?_
    show PySem.W.KatLex prog w A true _ _ ((.int kp.1 t, .int kq.1 t') :: rest.zip rest') 0 s
    refine PySem.W.kat_cons (SeqAt.EqAt.int_int kp.1 t kq.1 t' prog w _ _ ?_)
    refine PySem.W.kat_go (fun e1 => ?_) (fun e1 => ?_)
    · have ex : kp.1 = kq.1 := by simpa using e1
      rcases hap with hap | ⟨y, y', hy, hy', hne⟩
      · exact absurd ex hap
      · obtain ⟨u, r2, rfl⟩ := hr y hy
        obtain ⟨u', r2', rfl⟩ := hr' y' hy'
        refine PySem.W.kat_yes ?_
        show PySem.W.KatLex prog w A true _ _ ((.int y u, .int y' u') :: r2.zip r2') 1 s
        refine PySem.W.kat_cons (SeqAt.EqAt.int_int y u y' u' prog w _ _ ?_)
        refine PySem.W.kat_go (fun e2 => absurd (by simpa using e2) hne) (fun e2 => ?_)
        have e3 : SrtO.lexB (sVal kp) (sVal kq) = decide (y < y') := by
          unfold SrtO.lexB sVal
          rw [hy, hy']
          exact if_pos ex
        refine PySem.W.kat_no (PySem.W.kat_one _ _ (PyProof.Rows.lt_int ?_))
        exact (show s = s ∧ decide (y < y') = SrtO.lexB (sVal kp) (sVal kq) from ⟨rfl, e3.symm⟩)
    · have ex : ¬ kp.1 = kq.1 := by simpa using e1
      have e3 : SrtO.lexB (sVal kp) (sVal kq) = decide (kp.1 < kq.1) := if_neg ex
      exact PySem.W.kat_no (oneLt_int ⟨rfl, e3.symm⟩)
theorem firsts_T {h : Heap} {k : Value → Int × Option Int} : ∀ {vs : List Value}, (∀ v ∈ vs, IsT h v (k v)) → ∃ fs : List Value, PySem.W.KatTups h vs fs ∧ fs.length = vs.length ∧ ∀ f ∈ fs, ∃ x t, f = Value.int x t
  | [], _ => ⟨[], PySem.W.KatTups.nil, rfl, fun _ hm => by simp at hm⟩
  | v :: vs, hp => by
    obtain ⟨fs, h1, h2, h3⟩ := firsts_T (vs := vs) fun v' hm => hp v' (List.mem_cons_of_mem _ hm)
    have h0 := hp v (List.mem_cons_self ..)
    generalize k v = kv at h0
    obtain ⟨a, o, t, rest, n, e, ho, hc, hd, _⟩ := h0
    subst e
    refine ⟨.int kv.1 t :: fs, PySem.W.KatTups.cons ho hc hd rfl h1, by rw [List.length_cons, List.length_cons, h2], fun f hm => ?_⟩
    rcases List.mem_cons.mp hm with rfl | hm
    · exact ⟨_, t, rfl⟩
    · exact h3 f hm
theorem tups_sortable {a : Addr} {vs : List Value} {k : Value → Int × Option Int} (h0 : 0 < vs.length) (hp : ∀ v ∈ vs, IsT s.heap v (k v)) (hap : ∀ v ∈ vs, ∀ u ∈ vs, v ≠ u → apart (k v) (k u)) (ha : ∀ o, s.heap.get? a = some o → o.cls ≠ .type "tuple") :
    SrtO.SortableO prog w A s a vs fun v u => SrtO.lexB (sVal (k v)) (sVal (k u)) := by
  intro h' keep
  have hp' : ∀ v ∈ vs, IsT h' v (k v) := fun v hm => (hp v hm).keeps fun b o e c => keep b o (fun z => by subst z; exact ha o e c) e
  obtain ⟨fs, h1, h2, h3⟩ := firsts_T hp'
  refine ⟨tuples' true, fun Q E hq => ?_, tup_cmp hp' hap⟩
  refine PySem.W.kat_kind (T := .type "int") h1 (by omega) (fun f hm => ?_) (by rfl) ?_
  · obtain ⟨x, t, rfl⟩ := h3 f hm
    exact PySem.W.Looks.now
  · have e : (Value.type "int" != Value.type "tuple") = true := by first | decide +kernel | rfl | decide
    rw [e]
    exact hq
theorem sorted_T {l : Addr} {vs : List Value} {k : Value → Int × Option Int} {Q : Value → Shared → Prop} (hl : s.heap.IsList l vs.toArray) (hz : vs.length ≤ sizeLine) (hp : ∀ v ∈ vs, IsT s.heap v (k v)) (hap : ∀ v ∈ vs, ∀ u ∈ vs, v ≠ u → apart (k v) (k u))
    (h : ∀ (h' : Heap) (d : Addr) (out : List Value), SrtO.Srtd (fun v u => SrtO.lexB (sVal (k v)) (sVal (k u))) out → out.Perm vs → (∀ b o, s.heap.get? b = some o → h'.get? b = some o) → s.heap.objs.size ≤ d → (∃ n, h'.get? d = some (seqObj "list" out.toArray n)) → Q (.ref d) { s with heap := h' }) :
    wpAny (model prog w) A (call (.builtin "sorted") [.ref l]) Q E s := by
  refine SrtO.sorted_ord (SrtO.swo_lex fun v => sVal (k v)) hl hz (fun h2 h₁ a ha kk => ?_) fun out hs hb => ?_
  · refine tups_sortable (s := { s with heap := h₁ }) (by omega) (fun v hm => (hp v hm).keeps fun b o e _ => (kk b o e).2) hap fun o e => ?_
    have e' : some o = some (seqObj "list" vs.toArray 0) := e.symm.trans ha
    cases e'
    intro c
    exact absurd (Value.type.inj c) (by decide)
  · exact h _ _ out hs hb.perm (fun b o e => sortedAll_old e) (Nat.le_succ _) (sortedAll_at s.heap vs out.toArray)
end
/-! ### as a rule of the layer -/
abbrev KeyV := (Int × Option Int) × V
/-- what an item is -/
def IsTV (K : PySem.W.Frag) (H : Hp) (z : KeyV) : Prop := ∃ t rest, z.2 = .ref t ∧ SqT K H t (.int z.1.1 :: rest) ∧ ∀ j, z.1.2 = some j → ∃ r2, rest = .int j :: r2
def rSortB (K : PySem.W.Frag) : List V → Hp → VK → Prop := fun vs H Q => ∃ (a : Addr) (L : List KeyV), vs = [.ref a] ∧ SqL K H a (L.map (·.2)) ∧ (∀ z ∈ L, IsTV K H z) ∧ L.Pairwise (fun p q => apart p.1 q.1) ∧
  ∀ (M : List KeyV) (p : Addr), M.Perm L → M.Pairwise (fun x y => ¬ sLt (sVal y.1) (sVal x.1)) → H p = none → Q (.ref p) (upd H p (.lst (M.map (·.2))))
theorem lexB_sLt {p q : Int × Int} : SrtO.lexB p q = true ↔ sLt p q := SrtO.lexB_iff
section
variable {X : Cx}
theorem isTV_inj {pins : List (Addr × Obj)} {σ : L2.St} {H : Hp} {s : Shared} (I : Inv X pins σ H s) {x y : KeyV} (hx : IsTV X.K H x) (hy : IsTV X.K H y) (e : x.2 = y.2) : ¬ apart x.1 y.1 := by
  obtain ⟨t, r, e1, q1, h1⟩ := hx
  obtain ⟨t', r', e2, q2, h2⟩ := hy
  rw [e1, e2] at e; cases e
  have := I.tuple_inj q1 q2
  injection this with i1 i2
  injection i1 with i1
  rintro (z | ⟨a, b, ha, hb, z⟩)
  · exact z i1
  · obtain ⟨r2, rfl⟩ := h1 a ha
    obtain ⟨r2', rfl⟩ := h2 b hb
    injection i2 with i3 i4
    injection i3 with i3
    exact z i3
/-- the key of a value -/
noncomputable def keyIn (L : List KeyV) (v : V) : Int × Option Int := ((L.find? fun z => decide (z.2 = v)).map (·.1)).getD (0, none)
theorem keyIn_of {L : List KeyV} (h : L.Pairwise fun x y => x.2 ≠ y.2) : ∀ {z : KeyV}, z ∈ L → keyIn L z.2 = z.1 := by
  induction L with
  | nil => intro z hz; cases hz
  | cons x L ih =>
    intro z hz
    have h1 := List.pairwise_cons.mp h
    rcases List.mem_cons.mp hz with rfl | hz
    · simp [keyIn]
    · have := ih h1.2 hz
      have ne := h1.1 z hz
      unfold keyIn at this ⊢
      rw [List.find?_cons_of_neg (by simpa using ne)]
      exact this
theorem cr_sortedB : CallR X (.builtin "sorted") (rSortB X.K) := by
  intro pins s σ H vs us Q I r h
  obtain ⟨a, L, rfl, hs, hx, hap, q⟩ := h
  obtain ⟨its, rv, hl, hz⟩ := I.list hs
  obtain ⟨u, rfl, ru⟩ := vals1 r
  obtain rfl : u = Value.ref a := ru
  have hnd : L.Pairwise fun x y => x.2 ≠ y.2 := by
    rw [List.pairwise_iff_getElem] at hap ⊢
    intro i j hi hj hij e
    exact isTV_inj I (hx _ (List.getElem_mem hi)) (hx _ (List.getElem_mem hj)) e (hap i j hi hj hij)
  obtain ⟨e1, e2⟩ := refs_back rv fun x m => by
    obtain ⟨z, hz, rfl⟩ := List.mem_map.mp m
    obtain ⟨t, _, e, _⟩ := hx z hz
    exact ⟨t, e⟩
  have fromIts : ∀ v ∈ its, ∃ z ∈ L, backV v = z.2 := fun v hv => by
    have hm : backV v ∈ L.map (·.2) := by rw [e1]; exact List.mem_map.mpr ⟨_, hv, rfl⟩
    obtain ⟨z, hz, e⟩ := List.mem_map.mp hm
    exact ⟨z, hz, e.symm⟩
  refine sorted_T (k := fun u => keyIn L (backV u)) hl.isList (by rw [← rv.length]; exact hz) (fun v hv => ?_) (fun v hv u hu ne => ?_) fun h' d out h1 h2 kp hd hn => ?_
  · obtain ⟨z, hz, e⟩ := fromIts v hv
    rw [e, keyIn_of hnd hz]
    obtain ⟨t, rest, et, sq, hr⟩ := hx z hz
    obtain ⟨its2, r2, ⟨o, ho, hc, n, hd⟩, hs2⟩ := I.tuple sq
    obtain ⟨t0, rfl⟩ := e2 v hv
    rw [et] at e
    cases (show V.ref t0 = V.ref t from e)
    cases r2 with
    | @cons _ u1 _ us1 ri rr =>
      obtain ⟨tk, rfl⟩ := ri
      refine ⟨t, o, tk, us1, n, rfl, ho, hc, hd, fun j hj => ?_⟩
      obtain ⟨r3, rfl⟩ := hr j hj
      cases rr with
      | @cons _ u2 _ us2 ri2 rr2 =>
        obtain ⟨tk2, rfl⟩ := ri2
        exact ⟨tk2, us2, rfl⟩
  · obtain ⟨z, hz, e⟩ := fromIts v hv
    obtain ⟨z2, hz2, e3⟩ := fromIts u hu
    rw [e, e3, keyIn_of hnd hz, keyIn_of hnd hz2]
    have hne : z ≠ z2 := fun q => by
      subst q
      obtain ⟨t0, rfl⟩ := e2 v hv
      obtain ⟨t1, rfl⟩ := e2 u hu
      have : V.ref t0 = V.ref t1 := e.trans e3.symm
      cases this
      exact ne rfl
    have hsym : L.Pairwise fun p q => p ≠ q → apart p.1 q.1 := List.Pairwise.imp (fun {a b} h (_ : a ≠ b) => h) hap
    exact pw_all (R := fun p q : KeyV => p ≠ q → apart p.1 q.1) (fun x y h n => apart_symm (h n.symm)) (fun x n => absurd rfl n) hsym hz hz2 hne
  · have h3 : ∀ u ∈ out, ∃ a, u = Value.ref a := fun u hu => e2 u (h2.mem_iff.mp hu)
    obtain ⟨n, hn⟩ := hn
    have eL : L = its.map fun v => (keyIn L (backV v), backV v) := by
      have : its.map (fun v => (keyIn L (backV v), backV v)) = (its.map backV).map fun v => (keyIn L v, v) := by rw [List.map_map]; rfl
      rw [this, ← e1, List.map_map]
      have : L.map (fun z => z) = L.map ((fun v => (keyIn L v, v)) ∘ fun z => z.2) := List.map_congr_left fun z hz => by
        show z = (keyIn L z.2, z.2)
        rw [keyIn_of hnd hz]
      simpa using this
    have hM : (out.map fun v => (keyIn L (backV v), backV v)).map (·.2) = out.map backV := by rw [List.map_map]; rfl
    refine ⟨.ref d, upd H d (.lst (out.map backV)), I.laid (t' := s.toks) kp hd ⟨?_, out, n, vals_back h3, hn⟩, rfl, ?_⟩
    · rw [List.length_map, h2.length_eq, ← rv.length]; exact hz
    · rw [← hM]
      refine q _ d ?_ ?_ (I.hok.fresh hd)
      · have := h2.map fun v => (keyIn L (backV v), backV v)
        rw [← eL] at this
        exact this
      · refine List.pairwise_map.mpr (h1.imp fun {x y} h => ?_)
        intro c
        have h : SrtO.lexB (sVal (keyIn L (backV y))) (sVal (keyIn L (backV x))) = false := h
        have c2 := lexB_sLt.mpr c
        rw [h] at c2
        cases c2
theorem CallR.or {f : Value} {r r' : List V → Hp → VK → Prop} (h : CallR X f r) (h' : CallR X f r') : CallR X f fun vs H Q => r vs H Q ∨ r' vs H Q := fun pins s σ H xs us Q I q k => by
  rcases k with k | k
  · exact h pins s σ H xs us Q I q k
  · exact h' pins s σ H xs us Q I q k
/-! ### over data -/
variable {G : Pl} {W : WX} {σ : L2.St} {H : Hp} {μ : List Addr} {S : Sto} {Q : VK}
theorem sKey_rep {x : D} {v : V} {k : Int × Option Int} (h : sKey x = some k) (r : Rep G H μ x v) : IsTV G.K H (k, v) := by
  unfold sKey at h
  split at h
  · cases h
    obtain ⟨a, vs, rfl, sq, ⟨w, ws, e, r1, w2, ws2, e2, r2, r3⟩, z⟩ := r
    subst e2 e
    cases (show w = .int _ from r1)
    cases (show w2 = .int _ from r2)
    exact ⟨a, _, rfl, sq.1, fun j hj => by cases hj; exact ⟨_, rfl⟩⟩
  · cases h
    obtain ⟨a, vs, rfl, sq, ⟨w, ws, e, r1, r2⟩, z⟩ := r
    subst e
    cases (show w = .int _ from r1)
    exact ⟨a, _, rfl, sq.1, fun j hj => by cases hj⟩
  · cases h
theorem keysK_rep : ∀ {xs : List D} {vs : List V} {l : List ((Int × Option Int) × D)}, keysK xs = some l → RepL G H μ xs vs → ∃ Z : List ((Int × Option Int) × D × V), l = Z.map (fun z => (z.1, z.2.1)) ∧ vs = Z.map (fun z => z.2.2) ∧ ∀ z ∈ Z, IsTV G.K H (z.1, z.2.2) ∧ Rep G H μ z.2.1 z.2.2
  | [], vs, l, h, r => by cases h; cases (show vs = [] from r); exact ⟨[], rfl, rfl, fun z hz => by cases hz⟩
  | x :: xs, vs, l, h, ⟨w, ws, e, r1, r2⟩ => by
    unfold keysK at h
    split at h
    · rename_i k r e1 e2
      cases h
      obtain ⟨Z, h1, h2, h3⟩ := keysK_rep e2 r2
      refine ⟨(k, x, w) :: Z, by rw [List.map_cons, h1], by rw [List.map_cons, e, h2], fun z hz => ?_⟩
      rcases List.mem_cons.mp hz with rfl | hz
      · exact ⟨sKey_rep e1 r1, r1⟩
      · exact h3 z hz
    · cases h
theorem repL_of : ∀ (Z : List ((Int × Option Int) × D × V)), (∀ z ∈ Z, Rep G H μ z.2.1 z.2.2) → RepL G H μ (Z.map fun z => z.2.1) (Z.map fun z => z.2.2)
  | [], _ => rfl
  | z :: Z, h => ⟨_, _, rfl, h z (by simp), repL_of Z fun y hy => h y (by simp [hy])⟩
theorem ints_repL : ∀ (ns : List Int), RepL G H μ (ns.map .int) (ns.map .int)
  | [] => rfl
  | n :: ns => ⟨.int n, _, rfl, rfl, ints_repL ns⟩
/-- sorted of a list: what the call asks -/
def rSortA (K : PySem.W.Frag) : List V → Hp → VK → Prop := fun vs H Q => rSortedI K vs H Q ∨ rSortB K vs H Q
theorem sort_read (hK : X.K = G.K) {a : Addr} {xs ys : List D} {vs : List V} (h : sortD xs = some ys) (sq : SqL G.K H a vs) (r : RepL G H μ xs vs)
    (k : ∀ ws p, RepL G H μ ys ws → ys.length = xs.length → H p = none → Q (.ref p) (upd H p (.lst ws))) : rSortA X.K [.ref a] H Q := by
  rw [hK]
  unfold sortD at h
  split at h
  · rename_i ns e
    cases h
    have := ints_rep r e
    subst this
    refine .inl ⟨a, ns, rfl, sq, fun ns' p h1 h2 hp => ?_⟩
    have := sortI_uniq h1 h2
    subst this
    refine k _ p (ints_repL _) ?_ hp
    rw [List.length_map, (sortI_perm ns).length_eq]
    have := RepL.len r
    rw [List.length_map] at this
    exact this.symm
  · split at h
    · rename_i l e
      by_cases c : l.Pairwise fun p q => apart p.1 q.1
      · rw [if_pos c] at h
        cases h
        obtain ⟨Z, h1, h2, h3⟩ := keysK_rep e r
        subst h1 h2
        have c2 : Z.Pairwise fun p q => apart p.1 q.1 := (List.pairwise_map (f := fun z : (Int × Option Int) × D × V => (z.1, z.2.1)) (R := fun p q => apart p.1 q.1)).mp c
        refine .inr ⟨a, Z.map fun z => (z.1, z.2.2), rfl, by rw [List.map_map]; exact sq, fun z hz => ?_, List.pairwise_map.mpr c2, fun M p hM hs hp => ?_⟩
        · obtain ⟨z', hz', rfl⟩ := List.mem_map.mp hz
          exact (h3 z' hz').1
        · obtain ⟨Z', hp', rfl⟩ := perm_map_inv hM Z rfl
          have e0 : Z'.map (fun z => (sVal z.1, z.2.1)) = sortK ((Z.map fun z => (z.1, z.2.1)).map fun p => (sVal p.1, p.2)) := by
            refine sortK_uniq ?_ ?_ ?_
            · exact List.pairwise_map.mpr (List.pairwise_map.mpr (c2.imp fun {x y} h => apart_ne h))
            · rw [List.map_map]; exact hp'.map _
            · exact List.pairwise_map.mpr ((List.pairwise_map (f := fun z : (Int × Option Int) × D × V => (z.1, z.2.2)) (R := fun x y => ¬ sLt (sVal y.1) (sVal x.1))).mp hs)
          rw [← e0] at k
          rw [List.map_map]
          refine k _ p ?_ ?_ hp
          · rw [List.map_map]; exact repL_of Z' fun z hz => (h3 z (hp'.mem_iff.mp hz)).2
          · have := RepL.len r
            simp only [List.length_map] at this ⊢
            rw [this, hp'.length_eq]
      · rw [if_neg c] at h; cases h
    · cases h
end
end SB

/-! calls, built-ins, new lists, comprehensions -/
namespace SB
open PySem PySem.Spec PyProof.Rows L2
open Classical
section
variable {X : Cx} {G : Pl} {W : WX} {σ : L2.St} {H : Hp} {μ : List Addr} {S : Sto} {Q : VK} {a b c e : PySem.Expr} {es : List PySem.Expr} {pos p : Pos} {eva evb evc : En → Sto → R D} {evs evs2 : En → Sto → R (List D)} {x : Str}
/-! ### built-ins of values -/
def CaD (X : Cx) (G : Pl) (f : Value) (ev : List D → Sto → R D) : Prop :=
  ∃ r : List V → Hp → VK → Prop, CallR X f r ∧ ∀ (W : WX) (σ : L2.St) (xs : List D) (vs : List V) (H : Hp) (μ : List Addr) (S : Sto) (Q : VK), RelS G H μ S → RepL G H μ xs vs → Run G W σ H μ (ev xs S) (Rep G) Q → r vs H Q
theorem cb_read {ev : List D → Sto → R D} {r : List V → Hp → VK → Prop} {σ : L2.St} {H : Hp} {Q : VK}
    (hr : ∀ (W : WX) (σ : L2.St) (xs : List D) (vs : List V) (H : Hp) (μ : List Addr) (S : Sto) (Q : VK), RelS G H μ S → RepL G H μ xs vs → Run G W σ H μ (ev xs S) (Rep G) Q → r vs H Q)
    (h : dE G W (fun ρ S => (evs ρ S).bind ev) σ H Q) : tCB r (dA G W evs) σ H Q := by
  obtain ⟨ρ, S, μ, hE, hS, h⟩ := h
  exact ⟨ρ, S, μ, hE, hS, h.step fun xs S1 vs H1 μ1 l1 s1 q1 h1 => hr W σ xs vs H1 μ1 S1 Q s1 q1 h1⟩
theorem sE_callB {id : String} {ev : List D → Sto → R D} (hc : CaD X G (.builtin id) ev) (hg : Gl X x) (hm : X.mg x = none) (hv : bootBuiltins x = some (.builtin id)) (ha : PA X (e :: es) (dA G W evs)) (hn : x ≠ "__name__") (hdb : (x == ("__debug__" : Str)) = false)
    (he : starEach (e :: es) X.env = (false, eval e X.env) :: starEach es X.env) (hpl : (backTo pos (starEach es X.env)).any (·.1) = false) : PE X (.Call (.Name x p) (e :: es) [] pos) (dE G W fun ρ S => (evs ρ S).bind ev) := by
  obtain ⟨r, h1, h2⟩ := hc
  exact (pe_callB h1 hg hm hv ha hn hdb he hpl).weak fun σ H Q h => cb_read h2 h
theorem sE_callTy {T : String} {ev : List D → Sto → R D} (hc : CaD X G (.type T) ev) (hg : Gl X x) (hm : X.mg x = none) (hv : bootBuiltins x = some (.type T)) (ha : PA X (e :: es) (dA G W evs)) (hn : x ≠ "__name__") (hdb : (x == ("__debug__" : Str)) = false)
    (he : starEach (e :: es) X.env = (false, eval e X.env) :: starEach es X.env) (hpl : (backTo pos (starEach es X.env)).any (·.1) = false) : PE X (.Call (.Name x p) (e :: es) [] pos) (dE G W fun ρ S => (evs ρ S).bind ev) := by
  obtain ⟨r, h1, h2⟩ := hc
  exact (pe_callTy h1 hg hm hv ha hn hdb he hpl).weak fun σ H Q h => cb_read h2 h
theorem sE_callF {id : String} {ev : List D → Sto → R D} (hc : CaD X G (.builtin id) ev) (hg : Gl X x) (hm : X.mg x = some (.builtin id)) (ha : PA X (e :: es) (dA G W evs)) (hdb : (x == ("__debug__" : Str)) = false)
    (he : starEach (e :: es) X.env = (false, eval e X.env) :: starEach es X.env) (hpl : (backTo pos (starEach es X.env)).any (·.1) = false) : PE X (.Call (.Name x p) (e :: es) [] pos) (dE G W fun ρ S => (evs ρ S).bind ev) := by
  obtain ⟨r, h1, h2⟩ := hc
  exact (pe_callBfun h1 hg hm ha hdb he hpl).weak fun σ H Q h => cb_read h2 h
theorem one_of {xs : List D} {vs : List V} {d : D} (r : RepL G H μ [d] vs) : ∃ v, vs = [v] ∧ Rep G H μ d v := by
  obtain ⟨w, ws, e, r1, r2⟩ := r
  cases (show ws = [] from r2)
  exact ⟨w, e, r1⟩
theorem two_of {vs : List V} {d d2 : D} (r : RepL G H μ [d, d2] vs) : ∃ v w, vs = [v, w] ∧ Rep G H μ d v ∧ Rep G H μ d2 w := by
  obtain ⟨w, ws, e, r1, w2, ws2, e2, r2, r3⟩ := r
  cases (show ws2 = [] from r3)
  subst e2
  exact ⟨w, w2, e, r1, r2⟩
theorem call_lenD : CallR X (.builtin "len") (fun xs H Q => ∃ (a : Addr) (kvs : List (Key × V)), xs = [.ref a] ∧ H a = some (.dK kvs) ∧ Q (.int kvs.length) H) := by
  intro pins s σ H xs us Q I r h
  obtain ⟨a, kvs, rfl, e, q⟩ := h
  obtain ⟨u, rfl, rx⟩ := vals1 r
  obtain rfl : u = Value.ref a := rx
  exact d_len I (.inl e) fun t s2 I2 => ⟨.int kvs.length, H, I2, ⟨_, rfl⟩, q⟩
theorem cd_len (hK : X.K = G.K) : CaD X G (.builtin "len") (biD .len) := by
  refine ⟨_, CallR.or call_len call_lenD, fun W σ xs vs H μ S Q s r h => ?_⟩
  match xs, r, h with
  | [], r, h => exact False.elim h
  | [d], r, h =>
    obtain ⟨v, rfl, q⟩ := one_of (xs := []) r
    have gen : ∀ ys, itemsOf S d = some ys → Run G W σ H μ (.ok (.int ys.length) S) (Rep G) Q → ∃ x n, [v] = [x] ∧ LenV X.K x H n ∧ Q (.int n) H := fun ys e h => by
      obtain ⟨a, ws, rfl, sq, r, z⟩ := items_rep s q e
      refine ⟨.ref a, ws.length, rfl, ?_, ?_⟩
      · rw [hK]
        rcases sq with sq | sq
        · exact .inl ⟨ws, sq, rfl⟩
        · exact .inr ⟨ws, sq, rfl⟩
      · rw [← RepL.len r]; exact Run.now h s rfl
    cases d with
    | str z =>
      by_cases k : z.length ≤ sizeLine
      · rw [show biD .len [.str z] S = .ok (.int z.length) S from if_pos k] at h
        exact .inl ⟨v, z.length, rfl, by cases (show v = .str z from q); exact ⟨k, rfl⟩, Run.now h s rfl⟩
      · rw [show biD .len [.str z] S = .bad from if_neg k] at h; exact False.elim h
    | tup ys => exact .inl (gen ys rfl h)
    | fzl ys => exact .inl (gen ys rfl h)
    | ref n =>
      have e0 : biD .len [.ref n] S = (match S[n]? with | some (.lst xs) => .ok (.int xs.length) S | some (.dic kvs) => .ok (.int kvs.length) S | _ => .bad) := rfl
      rw [e0] at h
      split at h
      · rename_i xs e
        refine .inl (gen xs ?_ h)
        show (match S[n]? with | some (.lst xs) => some xs | _ => none) = some xs
        rw [e]
      · rename_i kvs e
        obtain ⟨a, rfl, ha⟩ := q
        obtain ⟨a', e1, ws, e2, e3, r3, z⟩ := s.at e
        rw [ha] at e1; cases e1
        have hl : ws.length = kvs.length := by simpa using congrArg List.length e3
        exact .inr ⟨a, ws, rfl, e2, by rw [hl]; exact Run.now h s rfl⟩
      · exact False.elim h
    | _ => exact False.elim h
  | d :: d2 :: ds, r, h => cases d <;> exact False.elim h
theorem cd_abs : CaD X G (.builtin "abs") (biD .abs) := by
  refine ⟨_, call_abs, fun W σ xs vs H μ S Q s r h => ?_⟩
  match xs, r, h with
  | [], r, h => exact False.elim h
  | [d], r, h =>
    obtain ⟨v, rfl, q⟩ := one_of (xs := []) r
    cases d with
    | int i => cases (show v = .int i from q); exact ⟨i, rfl, Run.now h s rfl⟩
    | _ => exact False.elim h
  | d :: d2 :: ds, r, h => cases d <;> exact False.elim h
theorem cd_int : CaD X G (.type "int") (biD .int) := by
  refine ⟨_, call_int1, fun W σ xs vs H μ S Q s r h => ?_⟩
  match xs, r, h with
  | [], r, h => exact False.elim h
  | [d], r, h =>
    obtain ⟨v, rfl, q⟩ := one_of (xs := []) r
    cases d with
    | int i => cases (show v = .int i from q); exact .inl ⟨i, rfl, Run.now h s rfl⟩
    | _ => exact False.elim h
  | d :: d2 :: ds, r, h => cases d <;> exact False.elim h
theorem cd_two {f : Value} {b : Bi} {g : Int → Int → Int} (hc : CallR X f fun xs H Q => ∃ i j, xs = [.int i, .int j] ∧ Q (.int (g i j)) H) (h1 : ∀ i j S, biD b [.int i, .int j] S = .ok (.int (g i j)) S)
    (h2 : ∀ xs S, (∀ i j, xs ≠ [.int i, .int j]) → biD b xs S = .bad) : CaD X G f (biD b) := by
  refine ⟨_, hc, fun W σ xs vs H μ S Q s r h => ?_⟩
  by_cases k : ∃ i j, xs = [.int i, .int j]
  · obtain ⟨i, j, rfl⟩ := k
    obtain ⟨v, w, rfl, q1, q2⟩ := two_of r
    cases (show v = .int i from q1); cases (show w = .int j from q2)
    rw [h1] at h
    exact ⟨i, j, rfl, Run.now h s rfl⟩
  · rw [h2 xs S fun i j e => k ⟨i, j, e⟩] at h; exact False.elim h
theorem two_ints (xs : List D) (P : Prop) (h : ∀ i j, xs ≠ [.int i, .int j]) (h0 : xs = [] → P) (h1 : ∀ d, xs = [d] → P) (h3 : ∀ d e f r, xs = d :: e :: f :: r → P) (h2 : ∀ d e, xs = [d, e] → (∀ i j, ¬ (d = .int i ∧ e = .int j)) → P) : P := by
  match xs with
  | [] => exact h0 rfl
  | [d] => exact h1 d rfl
  | [d, e] => exact h2 d e rfl fun i j z => h i j (by rw [z.1, z.2])
  | d :: e :: f :: r => exact h3 d e f r rfl
theorem bi_none {b : Bi} (hb : b = .max ∨ b = .min ∨ b = .gcd) (xs : List D) (S : Sto) (h : ∀ i j, xs ≠ [.int i, .int j]) : biD b xs S = .bad := by
  refine two_ints xs _ h (fun e => ?_) (fun d e => ?_) (fun d e f r z => ?_) fun d e z k => ?_
  · subst e; rcases hb with rfl | rfl | rfl <;> rfl
  · subst e; rcases hb with rfl | rfl | rfl <;> cases d <;> rfl
  · subst z; rcases hb with rfl | rfl | rfl <;> cases d <;> first | rfl | (cases e <;> rfl)
  · subst z; rcases hb with rfl | rfl | rfl <;> cases d <;> first | rfl | (cases e <;> first | rfl | exact absurd ⟨rfl, rfl⟩ (k _ _))
theorem cd_max (hc : X.calm = true) : CaD X G (.builtin "max") (biD .max) := cd_two (call_max2 hc) (fun _ _ _ => rfl) (bi_none (.inl rfl))
theorem cd_min (hc : X.calm = true) : CaD X G (.builtin "min") (biD .min) := cd_two (call_min2 hc) (fun _ _ _ => rfl) (bi_none (.inr (.inl rfl)))
theorem cd_gcd : CaD X G (.builtin "math.gcd") (biD .gcd) := cd_two cr_gcd (fun _ _ _ => rfl) (bi_none (.inr (.inr rfl)))
theorem cd_tuple (hK : X.K = G.K) : CaD X G (.type "tuple") (biD .tuple) := by
  refine ⟨_, call_tuple_of, fun W σ xs vs H μ S Q s r h => ?_⟩
  match xs, r, h with
  | [], r, h => exact False.elim h
  | [d], r, h =>
    obtain ⟨v, rfl, q⟩ := one_of (xs := []) r
    have lst : ∀ a ws ys, v = .ref a → SqL G.K H a ws → RepL G H μ ys ws → ys.length ≤ sizeLine → Run G W σ H μ (.ok (.tup ys) S) (Rep G) Q → ∃ (a : Addr) (ws : List V), [v] = [.ref a] ∧ ((SqL X.K H a ws ∧ ∀ p, H p = none → Q (.ref p) (upd H p (.tup ws))) ∨ (SqT X.K H a ws ∧ Q (.ref a) H)) := fun a ws ys e sq rr z h => by
      rw [e, hK]
      exact ⟨a, ws, rfl, .inl ⟨sq, fun l hl => Run.new h s hl ⟨l, ws, rfl, .new, RepL.later (Later.new hl) _ _ rr, z⟩⟩⟩
    cases d with
    | tup ys =>
      obtain ⟨a, ws, rfl, sq, r, z⟩ := q
      refine ⟨a, ws, rfl, .inr ⟨by rw [hK]; exact sq.1, ?_⟩⟩
      exact Run.now (show Run G W σ H μ (.ok (.tup ys) S) (Rep G) Q from h) s ⟨a, ws, rfl, sq, r, z⟩
    | fzl ys =>
      obtain ⟨a, ws, e, sq, r, z⟩ := q
      exact lst a ws ys e sq.sq r z h
    | ref n =>
      have e0 : biD .tuple [.ref n] S = (match itemsOf S (.ref n) with | some xs => .ok (.tup xs) S | none => .bad) := rfl
      rw [e0] at h
      cases e : itemsOf S (.ref n) with
      | none => rw [e] at h; exact False.elim h
      | some ys =>
        rw [e] at h
        obtain ⟨a, e1, g⟩ := q
        obtain ⟨p, ws, e3, e2, r, z⟩ := s.lst (n := n) (xs := ys) e
        rw [g] at e3; cases e3
        exact lst a ws ys e1 (.inl (.inl e2)) r z h
    | _ => exact False.elim h
  | d :: d2 :: ds, r, h => cases d <;> exact False.elim h
theorem allB_rep : ∀ {xs : List D} {vs : List V} {bs : List Bool}, RepL G H μ xs vs → allB xs = some bs → vs = bs.map V.bl
  | [], vs, bs, r, h => by cases h; exact r
  | x :: xs, vs, bs, ⟨w, ws, e, r1, r2⟩, h => by
    cases x with
    | bl b =>
      have e1 : allB (.bl b :: xs) = (allB xs).map (b :: ·) := rfl
      rw [e1] at h
      cases e2 : allB xs with
      | none => rw [e2] at h; cases h
      | some cs =>
        rw [e2] at h; cases h
        cases (show w = .bl b from r1)
        rw [e, allB_rep r2 e2]; rfl
    | _ => cases h
theorem list_rep (s : RelS G H μ S) {x : D} {v : V} {xs : List D} (r : Rep G H μ x v) (h : listOf S x = some xs) : ∃ a vs, v = .ref a ∧ SqL G.K H a vs ∧ RepL G H μ xs vs ∧ xs.length ≤ sizeLine := by
  cases x with
  | fzl ys =>
    obtain ⟨a, vs, e, sq, r, z⟩ := r
    cases h
    exact ⟨a, vs, e, sq.sq, r, z⟩
  | ref n =>
    obtain ⟨a, e, g⟩ := r
    obtain ⟨p, vs, e1, e2, r, z⟩ := s.lst (n := n) (xs := xs) h
    rw [g] at e1; cases e1
    exact ⟨a, vs, e, .inl (.inl e2), r, z⟩
  | _ => cases h
theorem cd_bools {f : Value} {b : Bi} {g : List Bool → Bool} (hc : CallR X f fun vs H Q => ∃ (a : Addr) (bs : List Bool), vs = [V.ref a] ∧ SqL X.K H a (bs.map V.bl) ∧ Q (.bl (g bs)) H) (hK : X.K = G.K)
    (h1 : ∀ d S, biD b [d] S = (match (listOf S d).bind allB with | some bs => .ok (.bl (g bs)) S | none => .bad)) (h2 : ∀ xs S, (∀ d, xs ≠ [d]) → biD b xs S = .bad) : CaD X G f (biD b) := by
  refine ⟨_, hc, fun W σ xs vs H μ S Q s r h => ?_⟩
  by_cases k : ∃ d, xs = [d]
  · obtain ⟨d, rfl⟩ := k
    obtain ⟨v, rfl, q⟩ := one_of (xs := []) r
    rw [h1] at h
    cases e : listOf S d with
    | none => rw [e] at h; exact False.elim h
    | some ys =>
      rw [e] at h
      obtain ⟨a, ws, rfl, sq, r, z⟩ := list_rep s q e
      cases e2 : allB ys with
      | none => rw [show (some ys).bind allB = allB ys from rfl, e2] at h; exact False.elim h
      | some bs =>
        rw [show (some ys).bind allB = allB ys from rfl, e2] at h
        have e3 := allB_rep r e2
        subst e3
        exact ⟨a, bs, rfl, by rw [hK]; exact sq, Run.now h s rfl⟩
  · rw [h2 xs S fun d e => k ⟨d, e⟩] at h; exact False.elim h
theorem not_one (xs : List D) (P : Prop) (h : ∀ d, xs ≠ [d]) (h0 : xs = [] → P) (h2 : ∀ d e r, xs = d :: e :: r → P) : P := by
  match xs with
  | [] => exact h0 rfl
  | [d] => exact absurd rfl (h d)
  | d :: e :: r => exact h2 d e r rfl
theorem cd_any (hc : X.calm = true) (hK : X.K = G.K) : CaD X G (.builtin "any") (biD .any) := cd_bools (g := fun bs => bs.any id) (cr_any hc) hK (fun d S => by cases d <;> rfl)
  fun xs S h => not_one xs _ h (fun e => by subst e; rfl) fun d e r z => by subst z; cases d <;> rfl
theorem cd_all (hc : X.calm = true) (hK : X.K = G.K) : CaD X G (.builtin "all") (biD .all) := cd_bools (g := fun bs => bs.all id) (cr_all hc) hK (fun d S => by cases d <;> rfl)
  fun xs S h => not_one xs _ h (fun e => by subst e; rfl) fun d e r z => by subst z; cases d <;> rfl
/-! ### isinstance of a value and a built-in class -/
def tyName : D → Option String
  | .int _ => some "int" | .bl _ => some "bool" | .str _ => some "str" | .non => some "NoneType" | .tup _ => some "tuple" | _ => none
theorem tyX_of {d : D} {v : V} {n : String} (q : Rep G H μ d v) (h : tyName d = some n) : TyX G.K H v (.type n) := by
  cases d with
  | non => cases (show v = .non from q); cases h; exact .base .non
  | bl b => cases (show v = .bl b from q); cases h; exact .base (.bl b)
  | int b => cases (show v = .int b from q); cases h; exact .base (.int b)
  | str b => cases (show v = .str b from q); cases h; exact .base (.str b)
  | tup xs =>
    obtain ⟨a, vs, rfl, sq, _, _⟩ := q
    cases h
    rcases sq.1 with (sq | ⟨o, sq⟩) | ⟨o, its, n, k1, k2, _⟩
    · exact .base (.tup sq)
    · exact .fTuple sq
    · exact .kTuple k1 k2
  | _ => cases h
theorem sE_isi {T : Str} {T' : String} {bi : Bi} {p2 : Pos} (hK : X.K = G.K) (hg : Gl X "isinstance") (hm : X.mg "isinstance" = none) (hv : bootBuiltins "isinstance" = some (.builtin "isinstance")) (ha : PE X a (dE G W eva)) (hT : PE X (.Name T p2) (tC (.ty T')))
    (he : starEach [a, .Name T p2] X.env = (false, eval a X.env) :: starEach [.Name T p2] X.env) (hb : ∀ (d : D) (S : Sto), (∃ n b, tyName d = some n ∧ kitB n T' = some b ∧ biD bi [d] S = .ok (.bl b) S) ∨ biD bi [d] S = .bad) :
    PE X (.Call (.Name "isinstance" p) [a, .Name T p2] [] pos) (dE G W fun ρ S => (eva ρ S).bind fun x S1 => biD bi [x] S1) := by
  have hA : PA X [a, .Name T p2] (tCons (dE G W eva) (tCons (tC (.ty T')) tNil)) := pa_cons ha (pa_cons hT pa_nil rfl) he
  refine (pe_callB call_isi hg hm hv hA (by decide) (by decide) he rfl).weak fun σ H Q ⟨ρ, S, μ, hE, hS, h⟩ => ?_
  refine ⟨ρ, S, μ, hE, hS, h.step fun x S1 v H1 μ1 l1 s1 q1 h1 => ?_⟩
  rcases hb x S1 with ⟨n, b, e1, e2, e3⟩ | e
  · rw [e3] at h1
    refine ⟨v, .ty T', .type n, .type T', b, rfl, .ty T', ?_, kit_ty e2, Run.now h1 s1 rfl⟩
    rw [hK]
    exact tyX_of q1 e1
  · rw [e] at h1; exact False.elim h1
/-! ### new lists -/
theorem sL_copy (hK : X.K = G.K) (hg : Gl X "list") (hm : X.mg "list" = none) (hv : bootBuiltins "list" = some (.type "list")) (ha : PE X a (dE G W eva)) (he : starEach [a] X.env = [(false, eval a X.env)]) :
    PE X (.Call (.Name "list" p) [a] [] pos) (dL G W fun ρ S => (eva ρ S).bind copyD) := by
  have hA : PA X [a] (tCons (dE G W eva) tNil) := pa_cons ha pa_nil he
  refine (pe_callTy call_list_of hg hm hv hA (by decide) (by decide) he rfl).weak fun σ H Q ⟨ρ, S, μ, hE, hS, h⟩ => ?_
  refine ⟨ρ, S, μ, hE, hS, h.step fun x S1 v H1 μ1 l1 s1 q1 h1 => ?_⟩
  unfold copyD at h1
  cases e : itemsOf S1 x with
  | none => rw [e] at h1; exact False.elim h1
  | some xs =>
    rw [e] at h1
    obtain ⟨a, vs, rfl, sq, r, z⟩ := items_rep s1 q1 e
    exact ⟨a, vs, rfl, by rw [hK]; exact sq, fun l hl => Run.fresh (S' := S1) h1 s1 hl (back s1 l1 hl) r z⟩
/-- the built-ins of a new list -/
theorem sE_bilB {id : String} {r : List V → Hp → VK → Prop} {b : Bl} (hc : CallR X (.builtin id) r) (hg : Gl X x) (hm : X.mg x = none) (hv : bootBuiltins x = some (.builtin id)) (ha : PE X e (dL G W evs)) (hn : x ≠ "__name__") (hdb : (x == ("__debug__" : Str)) = false) (he : starEach [e] X.env = [(false, eval e X.env)])
    (hr : ∀ (W : WX) (σ : L2.St) (xs : List D) (a : Addr) (vs : List V) (H : Hp) (μ : List Addr) (S : Sto) (Q : VK), RelS G H μ S → H a = some (.lst vs) → RepL G H μ xs vs → xs.length ≤ sizeLine → Run G W σ H μ (blD b xs S) (Rep G) Q → r [.ref a] H Q) :
    PE X (.Call (.Name x p) [e] [] pos) (dE G W fun ρ S => (evs ρ S).bind fun xs S1 => blD b xs S1) := by
  have hA : PA X [e] (tCons (dL G W evs) tNil) := pa_cons ha pa_nil he
  refine (pe_callB hc hg hm hv hA hn hdb he rfl).weak fun σ H Q ⟨ρ, S, μ, hE, hS, h⟩ => ?_
  refine ⟨ρ, S, μ, hE, hS, h.step fun xs S1 v H1 μ1 l1 s1 q1 h1 => ?_⟩
  obtain ⟨a, vs, rfl, h0, ha, hn, r, z⟩ := q1
  exact hr W σ xs a vs H1 μ1 S1 Q s1 ha r z h1
theorem sE_bilTuple (hg : Gl X "tuple") (hm : X.mg "tuple" = none) (hv : bootBuiltins "tuple" = some (.type "tuple")) (ha : PE X e (dL G W evs)) (he : starEach [e] X.env = [(false, eval e X.env)]) :
    PE X (.Call (.Name "tuple" p) [e] [] pos) (dE G W fun ρ S => (evs ρ S).bind fun xs S1 => blD .tuple xs S1) := by
  have hA : PA X [e] (tCons (dL G W evs) tNil) := pa_cons ha pa_nil he
  refine (pe_callTy call_tuple_of hg hm hv hA (by decide) (by decide) he rfl).weak fun σ H Q ⟨ρ, S, μ, hE, hS, h⟩ => ?_
  refine ⟨ρ, S, μ, hE, hS, h.step fun xs S1 v H1 μ1 l1 s1 q1 h1 => ?_⟩
  obtain ⟨a, vs, rfl, h0, ha, hn, r, z⟩ := q1
  exact ⟨a, vs, rfl, .inl ⟨.inl (.inl ha), fun l hl => Run.new (show Run G W σ H1 μ1 (.ok (.tup xs) S1) (Rep G) Q from h1) s1 hl ⟨l, vs, rfl, .new, RepL.later (Later.new hl) _ _ r, z⟩⟩⟩
theorem sE_bilLen (hg : Gl X "len") (hm : X.mg "len" = none) (hv : bootBuiltins "len" = some (.builtin "len")) (ha : PE X e (dL G W evs)) (he : starEach [e] X.env = [(false, eval e X.env)]) :
    PE X (.Call (.Name "len" p) [e] [] pos) (dE G W fun ρ S => (evs ρ S).bind fun xs S1 => blD .len xs S1) :=
  sE_bilB call_len hg hm hv ha (by decide) (by decide) he fun W σ xs a vs H μ S Q s ha r z h => ⟨.ref a, vs.length, rfl, .inl ⟨vs, .inl (.inl ha), rfl⟩, by rw [← RepL.len r]; exact Run.now h s rfl⟩
theorem sE_bilAny (hc : X.calm = true) (hg : Gl X "any") (hm : X.mg "any" = none) (hv : bootBuiltins "any" = some (.builtin "any")) (ha : PE X e (dL G W evs)) (he : starEach [e] X.env = [(false, eval e X.env)]) :
    PE X (.Call (.Name "any" p) [e] [] pos) (dE G W fun ρ S => (evs ρ S).bind fun xs S1 => blD .any xs S1) :=
  sE_bilB (cr_any hc) hg hm hv ha (by decide) (by decide) he fun W σ xs a vs H μ S Q s ha r z h => by
    have e0 : blD .any xs S = (match allB xs with | some bs => .ok (.bl (bs.any id)) S | none => .bad) := rfl
    rw [e0] at h
    cases e : allB xs with
    | none => rw [e] at h; exact False.elim h
    | some bs =>
      rw [e] at h
      have e3 := allB_rep r e
      subst e3
      exact ⟨a, bs, rfl, .inl (.inl ha), Run.now h s rfl⟩
theorem sE_bilSum (hc : X.calm = true) (hg : Gl X "sum") (hm : X.mg "sum" = none) (hv : bootBuiltins "sum" = some (.builtin "sum")) (ha : PE X e (dL G W evs)) (he : starEach [e] X.env = [(false, eval e X.env)]) :
    PE X (.Call (.Name "sum" p) [e] [] pos) (dE G W fun ρ S => (evs ρ S).bind fun xs S1 => blD .sum xs S1) :=
  sE_bilB (cr_sum hc) hg hm hv ha (by decide) (by decide) he fun W σ xs a vs H μ S Q s ha r z h => by
    have e0 : blD .sum xs S = (match intsD xs with | some ns => .ok (.int ns.sum) S | none => .bad) := rfl
    rw [e0] at h
    cases e : intsD xs with
    | none => rw [e] at h; exact False.elim h
    | some ns =>
      rw [e] at h
      have e3 := ints_rep r e
      subst e3
      exact ⟨a, ns, rfl, .inl (.inl ha), Run.now h s rfl⟩
theorem sE_bilAll (hc : X.calm = true) (hg : Gl X "all") (hm : X.mg "all" = none) (hv : bootBuiltins "all" = some (.builtin "all")) (ha : PE X e (dL G W evs)) (he : starEach [e] X.env = [(false, eval e X.env)]) :
    PE X (.Call (.Name "all" p) [e] [] pos) (dE G W fun ρ S => (evs ρ S).bind fun xs S1 => blD .all xs S1) :=
  sE_bilB (cr_all hc) hg hm hv ha (by decide) (by decide) he fun W σ xs a vs H μ S Q s ha r z h => by
    have e0 : blD .all xs S = (match allB xs with | some bs => .ok (.bl (bs.all id)) S | none => .bad) := rfl
    rw [e0] at h
    cases e : allB xs with
    | none => rw [e] at h; exact False.elim h
    | some bs =>
      rw [e] at h
      have e3 := allB_rep r e
      subst e3
      exact ⟨a, bs, rfl, .inl (.inl ha), Run.now h s rfl⟩
theorem sL_cat (ha : PE X a (dL G W evs)) (hb : PE X b (dL G W evs2)) : PE X (.BinOp a .Add b pos) (dL G W fun ρ S => (evs ρ S).bind fun xs S1 => (evs2 ρ S1).bind fun ys S2 => catD xs ys S2) := by
  refine (pe_op op_cat ha hb).weak fun σ H Q ⟨ρ, S, μ, hE, hS, h⟩ => ?_
  refine ⟨ρ, S, μ, hE, hS, h.stepL fun xs S1 v H1 μ1 l1 s1 q1 h1 => ?_⟩
  obtain ⟨a, vs, rfl, h0, ha, hn, r, z⟩ := q1
  refine ⟨ρ, S1, μ1, hE.later l1, s1, (Run.later l1 h1).step fun ys S2 w H2 μ2 l2 s2 q2 h2 => ?_⟩
  obtain ⟨b, ws, rfl, g0, gb, gn, r2, z2⟩ := q2
  have ha2 := l2.frame a _ ha hn
  unfold catD at h2
  by_cases k : xs.length + ys.length ≤ sizeLine
  · rw [if_pos k] at h2
    refine ⟨a, b, vs, ws, rfl, rfl, ha2, gb, by rw [← RepL.len r, ← RepL.len r2]; exact k, fun p hp => ?_⟩
    exact Run.fresh (S' := S2) h2 s2 hp (back s2 (l1.trans l2) hp) (RepL.app (RepL.later l2 _ _ r) r2) (by rw [List.length_append]; exact k)
  · rw [if_neg k] at h2; exact False.elim h2
theorem sL_catEL (ha : PE X a (dE G W eva)) (hb : PE X b (dL G W evs)) : PE X (.BinOp a .Add b pos) (dL G W fun ρ S => (eva ρ S).bind fun x S1 => (evs ρ S1).bind fun ys S2 => catEL x ys S2) := by
  refine (pe_op op_cat ha hb).weak fun σ H Q ⟨ρ, S, μ, hE, hS, h⟩ => ?_
  refine ⟨ρ, S, μ, hE, hS, h.stepL fun x S1 v H1 μ1 l1 s1 q1 h1 => ?_⟩
  refine ⟨ρ, S1, μ1, hE.later l1, s1, (Run.later l1 h1).step fun ys S2 w H2 μ2 l2 s2 q2 h2 => ?_⟩
  obtain ⟨b, ws, rfl, g0, gb, gn, r2, z2⟩ := q2
  cases x with
  | ref n =>
    obtain ⟨a, rfl, g⟩ := q1
    dsimp only [catEL, catLE] at h2
    cases e : lstAt S2 n with
    | none => rw [e] at h2; exact False.elim h2
    | some xs =>
      rw [e] at h2
      obtain ⟨p, vs, e1, e2, r, z⟩ := s2.lst e
      rw [l2.up.at g] at e1; cases e1
      dsimp only at h2
      by_cases k : xs.length + ys.length ≤ sizeLine
      · rw [if_pos k] at h2
        refine ⟨a, b, vs, ws, rfl, rfl, e2, gb, by rw [← RepL.len r, ← RepL.len r2]; exact k, fun p hp => ?_⟩
        exact Run.fresh (S' := S2) h2 s2 hp (back s2 (l1.trans l2) hp) (RepL.app r r2) (by rw [List.length_append]; exact k)
      · rw [if_neg k] at h2; exact False.elim h2
  | _ => exact False.elim h2
theorem sL_catLE (ha : PE X a (dL G W evs)) (hb : PE X b (dE G W eva)) : PE X (.BinOp a .Add b pos) (dL G W fun ρ S => (evs ρ S).bind fun xs S1 => (eva ρ S1).bind fun y S2 => catLE xs y S2) := by
  refine (pe_op op_cat ha hb).weak fun σ H Q ⟨ρ, S, μ, hE, hS, h⟩ => ?_
  refine ⟨ρ, S, μ, hE, hS, h.stepL fun xs S1 v H1 μ1 l1 s1 q1 h1 => ?_⟩
  obtain ⟨a, vs, rfl, h0, ha, hn, r, z⟩ := q1
  refine ⟨ρ, S1, μ1, hE.later l1, s1, (Run.later l1 h1).step fun y S2 w H2 μ2 l2 s2 q2 h2 => ?_⟩
  have ha2 := l2.frame a _ ha hn
  cases y with
  | ref n =>
    obtain ⟨b, rfl, g⟩ := q2
    dsimp only [catEL, catLE] at h2
    cases e : lstAt S2 n with
    | none => rw [e] at h2; exact False.elim h2
    | some ys =>
      rw [e] at h2
      obtain ⟨p, ws, e1, e2, r2, z2⟩ := s2.lst e
      rw [g] at e1; cases e1
      dsimp only at h2
      by_cases k : xs.length + ys.length ≤ sizeLine
      · rw [if_pos k] at h2
        refine ⟨a, b, vs, ws, rfl, rfl, ha2, e2, by rw [← RepL.len r, ← RepL.len r2]; exact k, fun p hp => ?_⟩
        exact Run.fresh (S' := S2) h2 s2 hp (back s2 (l1.trans l2) hp) (RepL.app (RepL.later l2 _ _ r) r2) (by rw [List.length_append]; exact k)
      · rw [if_neg k] at h2; exact False.elim h2
  | _ => exact False.elim h2
theorem flat_rep1 {v : V} : ∀ n : Nat, (List.replicate n [v]).flatten = List.replicate n v
  | 0 => rfl
  | n + 1 => by rw [List.replicate_succ, List.flatten_cons, flat_rep1 n]; rfl
theorem sL_rep {q : Pos} (ha : PE X a (dE G W eva)) (hb : PE X b (dE G W evb)) (he : starEach [a] X.env = [(false, eval a X.env)]) : PE X (.BinOp (.List [a] q) .Mult b pos) (dL G W fun ρ S => (eva ρ S).bind fun x S1 => (evb ρ S1).bind fun k S2 => repD x k S2) := by
  refine (pe_op op_rep (pe_lst (pa_cons ha pa_nil he)) hb).weak fun σ H Q ⟨ρ, S, μ, hE, hS, h⟩ => ?_
  refine ⟨ρ, S, μ, hE, hS, h.stepL fun x S1 v H1 μ1 l1 s1 q1 h1 => ⟨by rw [sizeLine_eq]; show 1 ≤ 16777216; decide, fun a ha => ?_⟩⟩
  have l1' := l1.trans (Later.new (o := .lst [v]) ha)
  refine ⟨ρ, S1, μ1, hE.later l1', s1.new ha, (Run.later l1' h1).step fun k S2 w H2 μ2 l2 s2 q2 h2 => ?_⟩
  have ha2 := l2.frame a _ upd_same (s1.not_none ha)
  cases k with
  | int k =>
    cases (show w = .int k from q2)
    dsimp only [repD] at h2
    by_cases z : 0 ≤ k ∧ k < sizeLine
    · rw [if_pos z] at h2
      have hz : sizeLine = 16777216 := sizeLine_eq
      refine ⟨a, k, [v], rfl, rfl, ha2, by omega, by omega, by show 1 * k.toNat ≤ sizeLine; omega, fun p hp => ?_⟩
      rw [flat_rep1]
      refine Run.fresh (S' := S2) h2 s2 hp (back s2 (l1'.trans l2) hp) (RepL.rep ((q1.later (Later.new ha)).later l2) _) (by rw [List.length_replicate]; omega)
    · rw [if_neg z] at h2; exact False.elim h2
  | _ => exact False.elim h2
/-! ### append -/
theorem sE_app {apos : Pos} (hK : X.K = G.K) (ha : PE X a (dE G W eva)) (hb : PE X e (dE G W evb)) (hbase : attributeBase a "append" X.env (eval a X.env) = eval a X.env) (hs : starEach [e] X.env = [(false, eval e X.env)])
    (hfew : ((backTo pos (starEach [e] X.env)).all (fun x => !x.1) && (backToKw pos (keywordEach [] X.env)).all (fun x => x.1.isSome) && decide (([e] : List PySem.Expr).length + ([] : List Keyword).length + (if ([] : List Keyword).isEmpty then 0 else 1) < 30)) = true) (hline : (apos.endLine == pos.line) = true) :
    PE X (.Call (.Attribute a "append" apos) [e] [] pos) (dE G W fun ρ S => (eva ρ S).bind fun x S1 => (chkL x S1).bind fun _ S1 => (evb ρ S1).bind fun y S2 => appD x y S2) := by
  have hA : PA X [e] (tCons (dE G W evb) tNil) := pa_cons hb pa_nil hs
  refine (pe_bm PySem.F.plainAttrs_list PySem.F.slot_list_append PySem.F.type_list_append mt_append ha hA hbase hfew hline hs rfl).weak fun σ H Q ⟨ρ, S, μ, hE, hS, h⟩ => ?_
  refine ⟨ρ, S, μ, hE, hS, h.step fun x S1 v H1 μ1 l1 s1 q1 h1 => ?_⟩
  cases x with
  | ref n =>
    obtain ⟨a, rfl, g⟩ := q1
    dsimp only [chkL] at h1
    cases e0 : lstAt S1 n with
    | none => rw [e0] at h1; exact False.elim h1
    | some xs0 =>
      rw [e0] at h1
      obtain ⟨p, vs0, e1, e2, r0, z0⟩ := s1.lst e0
      rw [g] at e1; cases e1
      refine ⟨.inl ⟨rfl, vs0, .inl (.inl e2)⟩, ρ, S1, μ1, hE.later l1, s1, Run.step (show Run G W σ H1 μ1 ((evb ρ S1).bind fun y S2 => appD (.ref n) y S2) (Rep G) Q from h1) fun y S2 w H2 μ2 l2 s2 q2 h2 => ?_⟩
      dsimp only [appD] at h2
      cases e3 : lstAt S2 n with
      | none => rw [e3] at h2; exact False.elim h2
      | some xs =>
        rw [e3] at h2
        obtain ⟨p', vs, e4, e5, r, z⟩ := s2.lst e3
        rw [l2.up.at g] at e4; cases e4
        dsimp only at h2
        by_cases k : xs.length < sizeLine
        · rw [if_pos k] at h2
          refine ⟨a, vs, w, rfl, rfl, e5, by rw [← RepL.len r]; exact k, ?_⟩
          exact Run.written h2 s2 (l2.up.at g) (RepL.app r (RepL.one q2)) (by rw [List.length_append]; exact k) rfl
        · rw [if_neg k] at h2; exact False.elim h2
  | _ => exact False.elim h1
/-- the first place of an equal item -/
theorem sE_idx {apos : Pos} (hK : X.K = G.K) (hu : X.A.units + 65 < cLine) (ha : PE X a (dE G W eva)) (hb : PE X e (dE G W evb)) (hbase : attributeBase a "index" X.env (eval a X.env) = eval a X.env) (hs : starEach [e] X.env = [(false, eval e X.env)])
    (hfew : ((backTo pos (starEach [e] X.env)).all (fun x => !x.1) && (backToKw pos (keywordEach [] X.env)).all (fun x => x.1.isSome) && decide (([e] : List PySem.Expr).length + ([] : List Keyword).length + (if ([] : List Keyword).isEmpty then 0 else 1) < 30)) = true) (hline : (apos.endLine == pos.line) = true) :
    PE X (.Call (.Attribute a "index" apos) [e] [] pos) (dE G W fun ρ S => (eva ρ S).bind fun x S1 => (chkL x S1).bind fun _ S1 => (evb ρ S1).bind fun y S2 => idxD x y S2) := by
  have hA : PA X [e] (tCons (dE G W evb) tNil) := pa_cons hb pa_nil hs
  refine (pe_bm PySem.F.plainAttrs_list PySem.F.slot_list_index PySem.F.type_list_index (mt_indexD hu) ha hA hbase hfew hline hs rfl).weak fun σ H Q ⟨ρ, S, μ, hE, hS, h⟩ => ?_
  refine ⟨ρ, S, μ, hE, hS, h.step fun x S1 v H1 μ1 l1 s1 q1 h1 => ?_⟩
  cases x with
  | ref n =>
    obtain ⟨a, rfl, g⟩ := q1
    dsimp only [chkL] at h1
    cases e0 : lstAt S1 n with
    | none => rw [e0] at h1; exact False.elim h1
    | some xs0 =>
      rw [e0] at h1
      obtain ⟨p, vs0, e1, e2, r0, z0⟩ := s1.lst e0
      rw [g] at e1; cases e1
      refine ⟨.inl ⟨rfl, vs0, .inl (.inl e2)⟩, ρ, S1, μ1, hE.later l1, s1, Run.step (show Run G W σ H1 μ1 ((evb ρ S1).bind fun y S2 => idxD (.ref n) y S2) (Rep G) Q from h1) fun y S2 w H2 μ2 l2 s2 q2 h2 => ?_⟩
      have q1 : Rep G H2 μ2 (.ref n) (.ref a) := ⟨a, rfl, l2.up.at g⟩
      unfold idxD at h2
      cases ey : toP S2 dep y with
      | none => rw [ey] at h2; exact False.elim h2
      | some d =>
        rw [ey] at h2
        cases ex : toP S2 dep (.ref n) with
        | none => rw [ex] at h2; exact False.elim h2
        | some dl =>
          rw [ex] at h2
          cases dl with
          | list es =>
            dsimp only at h2
            cases ef : es.findIdx? (fun z => PyData.eqv z d) with
            | none => rw [ef] at h2; exact False.elim h2
            | some j =>
              rw [ef] at h2
              obtain ⟨d1, c1, p1⟩ := dp_of s2 _ _ _ _ q2 ey
              obtain ⟨d2, c2, p2⟩ := dp_of s2 _ _ _ _ q1 ex
              obtain ⟨hj, hz, hno⟩ := List.findIdx?_eq_some_iff_getElem.mp ef
              rw [← hK] at d1 d2
              exact ⟨a, w, d, es, j, es[j], rfl, rfl, d2, d1, shaped_of c2 p2, shaped_of c1 p1, List.getElem?_eq_getElem hj, hz, fun m z' hm hz' => by
                obtain ⟨hm', rfl⟩ := List.getElem?_eq_some_iff.mp hz'
                simpa using hno m hm, Run.now h2 s2 rfl⟩
          | _ => exact False.elim h2
  | _ => exact False.elim h1
/-! ### sorted -/
theorem intKeys_eq : ∀ {ks : List Key} {ns : List Int}, intKeys ks = some ns → ks = ns.map Sum.inl
  | [], ns, h => by cases h; rfl
  | k :: ks, ns, h => by
    cases k with
    | inl i =>
      have e1 : intKeys (.inl i :: ks) = (intKeys ks).map (i :: ·) := rfl
      rw [e1] at h
      cases e2 : intKeys ks with
      | none => rw [e2] at h; cases h
      | some r => rw [e2] at h; cases h; rw [intKeys_eq e2]; rfl
    | inr x => cases h
theorem sL_srt (hc : X.calm = true) (hK : X.K = G.K) (hg : Gl X "sorted") (hm : X.mg "sorted" = none) (hv : bootBuiltins "sorted" = some (.builtin "sorted")) (ha : PE X a (dE G W eva)) (he : starEach [a] X.env = [(false, eval a X.env)]) :
    PE X (.Call (.Name "sorted" p) [a] [] pos) (dL G W fun ρ S => (eva ρ S).bind srtD) := by
  have hA : PA X [a] (tCons (dE G W eva) tNil) := pa_cons ha pa_nil he
  refine (pe_callB ((CallR.or cr_sortedI cr_sortedB).or (call_sortedDI hc)) hg hm hv hA (by decide) (by decide) he rfl).weak fun σ H Q ⟨ρ, S, μ, hE, hS, h⟩ => ?_
  refine ⟨ρ, S, μ, hE, hS, h.stepL fun x S1 v H1 μ1 l1 s1 q1 h1 => ?_⟩
  cases x with
  | ref n =>
    obtain ⟨a, rfl, g⟩ := q1
    dsimp only [srtD] at h1
    split at h1
    · rename_i xs e
      obtain ⟨p, vs, e1, e2, r, z⟩ := s1.lst (lstAt_of e)
      rw [g] at e1; cases e1
      cases es : sortD xs with
      | none => rw [es] at h1; exact False.elim h1
      | some ys =>
        rw [es] at h1
        refine .inl (sort_read hK es (.inl (.inl e2)) r fun ws p rr hl hp => ?_)
        exact Run.fresh (S' := S1) (Run.later l1 h1) s1 hp (back s1 l1 hp) rr (by rw [hl]; exact z)
    · rename_i kvs e
      obtain ⟨a', e1, ws, e2, e3, r3, z⟩ := s1.at e
      rw [g] at e1; cases e1
      cases ek : intKeys (kvs.map (·.1)) with
      | none => rw [ek] at h1; exact False.elim h1
      | some ks =>
        rw [ek] at h1
        dsimp only at h1
        by_cases c : ks.length < 64
        · rw [if_pos c] at h1
          refine .inr ⟨a, ws, ks, rfl, .inl e2, by rw [e3, intKeys_eq ek], c, fun ys p hp hw hn => ?_⟩
          have := sortI_uniq hp hw
          subst this
          refine Run.fresh (S' := S1) (Run.later l1 h1) s1 hn (back s1 l1 hn) (ints_repL _) ?_
          rw [List.length_map, (sortI_perm ks).length_eq, sizeLine_eq]; omega
        · rw [if_neg c] at h1; exact False.elim h1
    · exact False.elim h1
  | _ => exact False.elim h1
theorem sL_srtL (hK : X.K = G.K) (hg : Gl X "sorted") (hm : X.mg "sorted" = none) (hv : bootBuiltins "sorted" = some (.builtin "sorted")) (ha : PE X a (dL G W evs)) (he : starEach [a] X.env = [(false, eval a X.env)]) :
    PE X (.Call (.Name "sorted" p) [a] [] pos) (dL G W fun ρ S => (evs ρ S).bind srtLD) := by
  have hA : PA X [a] (tCons (dL G W evs) tNil) := pa_cons ha pa_nil he
  refine (pe_callB (CallR.or cr_sortedI cr_sortedB) hg hm hv hA (by decide) (by decide) he rfl).weak fun σ H Q ⟨ρ, S, μ, hE, hS, h⟩ => ?_
  refine ⟨ρ, S, μ, hE, hS, h.stepL fun xs S1 v H1 μ1 l1 s1 q1 h1 => ?_⟩
  obtain ⟨a, vs, rfl, h0, ha, hn, r, z⟩ := q1
  unfold srtLD at h1
  cases es : sortD xs with
  | none => rw [es] at h1; exact False.elim h1
  | some ys =>
    rw [es] at h1
    refine sort_read hK es (.inl (.inl ha)) r fun ws p rr hl hp => ?_
    exact Run.fresh (S' := S1) (Run.later l1 h1) s1 hp (back s1 l1 hp) rr (by rw [hl]; exact z)
/-! ### calls of the text's own defs -/
/-- a def's promise: what its tree gives -/
def spF (G : Pl) (ev : List D → Sto → R D) (n : Nat) : Sp := fun vs H Q E => vs.length = n ∧ ∃ μ S ds, RelS G H μ S ∧ RepL G H μ ds vs ∧ Run G (fun cls d _ H => E cls d H) [] H μ (ev ds S) (Rep G) Q
theorem sE_call {k n : Nat} {f : Addr} {fd : FuncData} {ps : List Str} {ev : List D → Sto → R D} (F : FnOk X.prog X.w X.K X.mg X.base (L2.CX X.prog X.w) k f fd ps (spF G ev n)) (hr : Room k X.A) (hg : Gl X x) (hm : X.mg x = some (.ref f)) (hk : PySem.W.keepIn X.K (.ref f) = true)
    (hb : Binds X.K fd ps []) (tk : Takes X W) (hn : ∀ ds S, ds.length ≠ n → ev ds S = .bad) (ha : PA X (e :: es) (dA G W evs)) (hdb : (x == ("__debug__" : Str)) = false) (he : starEach (e :: es) X.env = (false, eval e X.env) :: starEach es X.env) (hpl : (backTo pos (starEach es X.env)).any (·.1) = false) :
    PE X (.Call (.Name x p) (e :: es) [] pos) (dE G W fun ρ S => (evs ρ S).bind ev) := by
  refine (pe_callS F hr hg hm hk hb (fun σ => passAt tk σ) ha hdb he hpl).weak fun σ H Q ⟨ρ, S, μ, hE, hS, h⟩ => ?_
  refine ⟨ρ, S, μ, hE, hS, h.step fun xs S1 vs H1 μ1 l1 s1 q1 h1 => ⟨?_, μ1, S1, xs, s1, q1, ?_⟩⟩
  · by_cases z : xs.length = n
    · rw [← RepL.len q1]; exact z
    · rw [hn xs S1 z] at h1; exact False.elim h1
  · cases e0 : ev xs S1 with
    | ok d S2 => rw [e0] at h1; exact h1
    | err c S2 => rw [e0] at h1; exact h1
    | bad => rw [e0] at h1; exact h1
end
end SB

/-! what is walked, targets, comprehensions -/
namespace SB
open PySem PySem.Spec PyProof.Rows L2
open Classical
section
variable {X : Cx} {G : Pl} {W : WX} {σ : L2.St} {H : Hp} {μ : List Addr} {S : Sto} {Q : VK} {a b c e tg iter : PySem.Expr} {es : List PySem.Expr} {pos p : Pos} {eva evb evc : En → Sto → R D} {evs evs2 : En → Sto → R (List D)} {x : Str}
/-! ### what is walked -/
def RepI (G : Pl) : Hp → List Addr → (List D × (Sto → Prop)) → L2.It → Prop := fun H1 μ1 p J => p.1.length ≤ sizeLine ∧ ∀ H μ S, Later H1 μ1 H μ → RelS G H μ S → p.2 S → ∀ i : Nat,
  (∀ d, p.1[i]? = some d → J.go i H ∧ ∀ x H', J.yld i H x H' → H' = H ∧ Rep G H μ d x) ∧ (p.1.length ≤ i → J.stop i H)
def dI (G : Pl) (W : WX) (ev : En → Sto → R (List D × (Sto → Prop))) : TI := fun σ H Q => ∃ ρ S μ, RelE G H μ ρ σ ∧ RelS G H μ S ∧ Run G W σ H μ (ev ρ S) (RepI G) Q
theorem _root_.L2.PI.weak {t u : TI} (h : PI X tg iter t) (k : ∀ σ H Q, u σ H Q → t σ H Q) : PI X tg iter u := ⟨fun pins s σ H Q I q => h.run pins s σ H Q I (k σ H Q q)⟩
theorem _root_.L2.PI.or {t u : TI} (h : PI X tg iter t) (h' : PI X tg iter u) : PI X tg iter (fun σ H Q => t σ H Q ∨ u σ H Q) := ⟨fun pins s σ H Q I q => by
  rcases q with q | q
  · exact h.run pins s σ H Q I q
  · exact h'.run pins s σ H Q I q⟩
theorem repI_list {xs : List D} {a : Addr} {ok : Sto → Prop} (hz : xs.length ≤ sizeLine) (h : ∀ H' μ' S', Later H μ H' μ' → RelS G H' μ' S' → ok S' → ∃ vs, SqL G.K H' a vs ∧ RepL G H' μ' xs vs) : RepI G H μ (xs, ok) (Itl G.K a) := by
  refine ⟨hz, fun H' μ' S' l s k i => ?_⟩
  obtain ⟨vs, h1, r⟩ := h H' μ' S' l s k
  refine ⟨fun d e => ?_, fun hi => ⟨vs, h1, by rw [← RepL.len r]; exact hi⟩⟩
  obtain ⟨v, e2, q⟩ := r.get e
  refine ⟨⟨vs, v, h1, e2⟩, fun x H2 y => ⟨y.1, ?_⟩⟩
  have := y.2 vs h1
  rw [e2] at this; cases this
  exact q
theorem repI_tup {xs : List D} {vs : List V} {a : Addr} (hz : xs.length ≤ sizeLine) (h : SqT G.K H a vs) (r : RepL G H μ xs vs) : RepI G H μ (xs, fun _ => True) (Itt G.K a) := by
  refine ⟨hz, fun H' μ' S' l s k i => ⟨fun d e => ?_, fun hi => ⟨vs, l.up.sqT h, by rw [← RepL.len r]; exact hi⟩⟩⟩
  obtain ⟨v, e2, q⟩ := r.get e
  refine ⟨⟨vs, v, l.up.sqT h, e2⟩, fun x H2 y => ⟨y.1, ?_⟩⟩
  have := y.2 vs (l.up.sqT h)
  rw [e2] at this; cases this
  exact q.later l
theorem repI_rng {lo hi : Int} (hz : hi - lo < sizeLine) : RepI G H μ (rangeD lo hi, fun _ => True) (Itr lo (hi - lo).toNat) := by
  have hl : (rangeD lo hi).length = (hi - lo).toNat := by unfold rangeD; rw [List.length_map, List.length_range]
  have e0 : sizeLine = 16777216 := sizeLine_eq
  refine ⟨by rw [hl]; omega, fun H' μ' S' l s k i => ⟨fun d e => ?_, fun hi => by rw [hl] at hi; exact hi⟩⟩
  have hi : i < (hi - lo).toNat := by rw [← hl]; exact (List.getElem?_eq_some_iff.mp e).1
  refine ⟨hi, fun x H2 y => ⟨y.1, ?_⟩⟩
  have e1 : d = .int (lo + (i : Nat)) := by
    unfold rangeD at e
    rw [List.getElem?_map, List.getElem?_range hi] at e
    cases e; rfl
  rw [e1]
  exact y.2
abbrev vItV (eva : En → Sto → R D) : En → Sto → R (List D × (Sto → Prop)) := fun ρ S => (eva ρ S).bind valI
theorem sI_val (hK : X.K = G.K) (ha : PE X iter (dE G W eva)) : PI X tg iter (dI G W (vItV eva)) := by
  refine ((pi_list ha).or (pi_tup ha)).weak fun σ H Q ⟨ρ, S, μ, hE, hS, h⟩ => ?_
  -- which kind: by the outcome
  have main : (∀ x S1, eva ρ S = .ok x S1 → (∀ xs, x ≠ .tup xs)) ∨ (∃ xs S1, eva ρ S = .ok (.tup xs) S1) := by
    cases e : eva ρ S with
    | ok x S1 =>
      cases x with
      | tup xs => exact .inr ⟨xs, S1, rfl⟩
      | _ => exact .inl fun y S2 e2 xs z => by cases e2; cases z
    | _ => exact .inl fun y S2 e2 => by cases e2
  rcases main with hn | ⟨xs0, S0, e0⟩
  · refine .inl ⟨ρ, S, μ, hE, hS, ?_⟩
    have hx : ∀ x S1, eva ρ S = .ok x S1 → (∀ xs, x ≠ .tup xs) := hn
    cases e : eva ρ S with
    | bad => unfold vItV at h; rw [e] at h; exact False.elim h
    | err k S1 => unfold vItV at h; rw [e] at h; exact h
    | ok x S1 =>
      unfold vItV at h
      rw [e] at h
      intro v H1 μ1 l1 s1 q1
      have h1 := Run.later l1 h
      cases x with
      | tup xs => exact absurd rfl (hx _ _ e xs)
      | fzl xs =>
        obtain ⟨a, vs, rfl, sq, r, z⟩ := q1
        refine ⟨a, rfl, ⟨vs, by rw [hK]; exact sq.sq⟩, ?_⟩
        rw [hK]
        exact Run.now (show Run G W σ H1 μ1 (.ok (xs, fun _ => True) S1) (RepI G) Q from h1) s1 (repI_list z fun H' μ' S' l s _ => ⟨vs, (l.up.sqF sq).sq, RepL.later l _ _ r⟩)
      | ref n =>
        obtain ⟨a, rfl, g⟩ := q1
        have h2 : Run G W σ H1 μ1 (match lstAt S1 n with | some xs => R.ok (xs, fun S2 => lstAt S2 n = some xs) S1 | none => .bad) (RepI G) Q := h1
        cases e2 : lstAt S1 n with
        | none => rw [e2] at h2; exact False.elim h2
        | some xs =>
          rw [e2] at h2
          obtain ⟨p, vs, e3, e4, r, z⟩ := s1.lst e2
          rw [g] at e3; cases e3
          refine ⟨a, rfl, ⟨vs, .inl (.inl e4)⟩, ?_⟩
          rw [hK]
          refine Run.now h2 s1 (repI_list z fun H' μ' S' l s k => ?_)
          obtain ⟨p', ws, e5, e6, r2, z2⟩ := s.lst (show lstAt S' n = some xs from k)
          rw [l.up.at g] at e5; cases e5
          exact ⟨ws, .inl (.inl e6), r2⟩
      | _ => exact False.elim h1
  · refine .inr ⟨ρ, S, μ, hE, hS, ?_⟩
    unfold vItV at h
    rw [e0] at h ⊢
    intro v H1 μ1 l1 s1 q1
    obtain ⟨a, vs, rfl, sq, r, z⟩ := q1
    refine ⟨a, rfl, ⟨vs, by rw [hK]; exact sq.1⟩, ?_⟩
    rw [hK]
    exact Run.now (show Run G W σ H1 μ1 (.ok (xs0, fun _ => True) S0) (RepI G) Q from Run.later l1 h) s1 (repI_tup z sq.1 r)
theorem sI_lst (hK : X.K = G.K) (ha : PE X iter (dL G W evs)) : PI X tg iter (dI G W fun ρ S => (evs ρ S).bind fun xs S1 => .ok (xs, fun _ => True) S1) := by
  refine (pi_list ha).weak fun σ H Q ⟨ρ, S, μ, hE, hS, h⟩ => ?_
  refine ⟨ρ, S, μ, hE, hS, h.step fun xs S1 v H1 μ1 l1 s1 q1 h1 => ?_⟩
  obtain ⟨a, vs, rfl, h0, ha, hn, r, z⟩ := q1
  refine ⟨a, rfl, ⟨vs, .inl (.inl ha)⟩, ?_⟩
  rw [hK]
  exact Run.now h1 s1 (repI_list z fun H' μ' S' l s _ => ⟨vs, .inl (.inl (l.frame a _ ha hn)), RepL.later l _ _ r⟩)
theorem sI_rg1 (hg : Gl X "range") (hm : X.mg "range" = none) (ha : PE X a (dE G W eva)) (he : starEach [a] X.env = [(false, eval a X.env)]) :
    PI X tg (.Call (.Name "range" p) [a] [] pos) (dI G W fun ρ S => (eva ρ S).bind rgI1) := by
  refine (pi_range1 hg hm (pa_cons ha pa_nil he) he).weak fun σ H Q ⟨ρ, S, μ, hE, hS, h⟩ => ?_
  refine ⟨ρ, S, μ, hE, hS, h.step fun x S1 v H1 μ1 l1 s1 q1 h1 => ?_⟩
  cases x with
  | int j =>
    dsimp only [rgI1] at h1
    by_cases z : smallI j ∧ j < sizeLine
    · rw [if_pos z] at h1
      cases (show v = .int j from q1)
      refine ⟨j, rfl, z.1.1, z.1.2, ?_⟩
      have := repI_rng (G := G) (H := H1) (μ := μ1) (lo := 0) (hi := j) (by omega)
      rw [show (j - 0).toNat = j.toNat by omega] at this
      exact Run.now h1 s1 this
    · rw [if_neg z] at h1; exact False.elim h1
  | _ => exact False.elim h1
theorem sI_rg2 (hg : Gl X "range") (hm : X.mg "range" = none) (ha : PE X a (dE G W eva)) (hb : PE X b (dE G W evb)) (he : starEach [a, b] X.env = [(false, eval a X.env), (false, eval b X.env)]) (he2 : starEach [b] X.env = [(false, eval b X.env)]) :
    PI X tg (.Call (.Name "range" p) [a, b] [] pos) (dI G W fun ρ S => (eva ρ S).bind fun x S1 => (evb ρ S1).bind fun y S2 => rgI2 x y S2) := by
  refine (pi_range2 hg hm (pa_cons ha (pa_cons hb pa_nil he2) (by rw [he, he2])) he he2).weak fun σ H Q ⟨ρ, S, μ, hE, hS, h⟩ => ?_
  refine ⟨ρ, S, μ, hE, hS, h.step fun x S1 v H1 μ1 l1 s1 q1 h1 => ?_⟩
  refine ⟨ρ, S1, μ1, hE.later l1, s1, h1.step fun y S2 w H2 μ2 l2 s2 q2 h2 => ?_⟩
  cases x with
  | int i =>
    cases y with
    | int j =>
      dsimp only [rgI2] at h2
      by_cases z : smallI i ∧ smallI j ∧ j - i < sizeLine
      · rw [if_pos z] at h2
        cases (show v = .int i from q1)
        cases (show w = .int j from q2)
        exact ⟨i, j, rfl, ⟨z.1.1, z.1.2, z.2.1.1, z.2.1.2⟩, Run.now h2 s2 (repI_rng (G := G) (H := H2) (μ := μ2) z.2.2)⟩
      · rw [if_neg z] at h2; exact False.elim h2
    | _ => exact False.elim h2
  | _ => exact False.elim h2
/-! ### targets -/
/-- apart from the places ws the slots are the same -/
def Agree (ws : List Nat) (σ σ' : L2.St) : Prop := σ'.length = σ.length ∧ ∀ i, i ∉ ws → σ'[i]? = σ[i]?
theorem Agree.refl {ws : List Nat} {σ : L2.St} : Agree ws σ σ := ⟨rfl, fun _ _ => rfl⟩
theorem Agree.trans {ws vs : List Nat} {σ σ1 σ2 : L2.St} (a : Agree ws σ σ1) (b : Agree vs σ1 σ2) : Agree (ws ++ vs) σ σ2 :=
  ⟨b.1.trans a.1, fun i h => by
    rw [List.mem_append] at h
    rw [b.2 i fun z => h (.inr z), a.2 i fun z => h (.inl z)]⟩
mutual
def tgSlots : Tg → List Nat
  | .nm i => [i]
  | .tp ts => tgsSlots ts
  | .sub _ _ => []
  | .fld _ _ => []
def tgsSlots : Tgs → List Nat
  | .nil => []
  | .cons t ts => tgSlots t ++ tgsSlots ts
end
def TgOk (G : Pl) (H : Hp) (μ : List Addr) (ws : List Nat) (σ : L2.St) (r : R En) (Q : L2.St → Hp → Prop) : Prop := match r with
  | .ok ρ' S' => ∀ σ' H' μ', Later H μ H' μ' → RelS G H' μ' S' → RelE G H' μ' ρ' σ' → Agree ws σ σ' → Q σ' H'
  | _ => False
def dG (G : Pl) (ws : List Nat) (ev : D → En → Sto → R En) : TG := fun v σ H Q => ∃ d ρ S μ, RelE G H μ ρ σ ∧ RelS G H μ S ∧ Rep G H μ d v ∧ TgOk G H μ ws σ (ev d ρ S) Q
def dGs (G : Pl) (ws : List Nat) (ev : List D → En → Sto → R En) : TGs := fun v σ H Q => ∃ d ρ S μ, RelE G H μ ρ σ ∧ RelS G H μ S ∧ RepL G H μ d v ∧ TgOk G H μ ws σ (ev d ρ S) Q
theorem _root_.L2.PG.weak {t u : TG} (h : PG X tg t) (k : ∀ v σ H Q, u v σ H Q → t v σ H Q) : PG X tg u := ⟨fun pins s σ H v w Q I r q => h.run pins s σ H v w Q I r (k v σ H Q q)⟩
theorem _root_.L2.PGs.weak {t u : TGs} (h : PGs X es t) (k : ∀ v σ H Q, u v σ H Q → t v σ H Q) : PGs X es u := ⟨fun pins s σ H v w Q I r q => h.run pins s σ H v w Q I r (k v σ H Q q)⟩
theorem RelE.set {ρ : En} {σ : L2.St} {i : Nat} {d : D} {v : V} (h : RelE G H μ ρ σ) (r : Rep G H μ d v) : RelE G H μ (ρ.set i (some d)) (σ.set i (some v)) := by
  refine ⟨by rw [List.length_set, List.length_set]; exact h.1, fun j d' e => ?_⟩
  by_cases hj : j = i
  · subst hj
    have hl : j < ρ.length := by
      have := (List.getElem?_eq_some_iff.mp e).1
      rw [List.length_set] at this; exact this
    rw [List.getElem?_set_self hl] at e
    cases e
    exact ⟨v, by rw [List.getElem?_set_self (by rw [← h.1]; exact hl)], r⟩
  · rw [List.getElem?_set_ne (Ne.symm hj)] at e ⊢
    exact h.2 j d' e
theorem RelE.del {ρ : En} {σ : L2.St} {i : Nat} {o : Option V} (h : RelE G H μ ρ σ) : RelE G H μ (ρ.set i none) (σ.set i o) := by
  refine ⟨by rw [List.length_set, List.length_set]; exact h.1, fun j d' e => ?_⟩
  by_cases hj : j = i
  · subst hj
    have hl : j < ρ.length := by
      have := (List.getElem?_eq_some_iff.mp e).1
      rw [List.length_set] at this; exact this
    rw [List.getElem?_set_self hl] at e
    cases e
  · rw [List.getElem?_set_ne (Ne.symm hj)] at e ⊢
    exact h.2 j d' e
theorem agree_set {σ : L2.St} {i : Nat} {o : Option V} : Agree [i] σ (σ.set i o) := ⟨List.length_set, fun j h => List.getElem?_set_ne fun z => h (by rw [z]; exact List.mem_singleton.mpr rfl)⟩
theorem sG_nm {i : Nat} (h : PG X tg (gName i)) : PG X tg (dG G [i] fun d ρ S => .ok (ρ.set i (some d)) S) :=
  h.weak fun v σ H Q ⟨d, ρ, S, μ, hE, hS, r, q⟩ => q _ H μ .refl hS (hE.set r) agree_set
theorem sG_nil : PGs X [] (dGs G [] fun xs ρ S => match xs with | [] => .ok ρ S | _ => .bad) :=
  pgs_nil.weak fun v σ H Q ⟨d, ρ, S, μ, hE, hS, r, q⟩ => by
    cases d with
    | nil => cases (show v = [] from r); exact ⟨rfl, q σ H μ .refl hS hE .refl⟩
    | cons x xs => exact False.elim q
theorem sG_cons {evt : D → En → Sto → R En} {evts : List D → En → Sto → R En} {ws vs : List Nat} {e : PySem.Expr} (h1 : PG X e (dG G ws evt)) (h2 : PGs X es (dGs G vs evts)) (hs : (assignEach (e :: es) X.env).map (·.2) = assign e X.env :: (assignEach es X.env).map (·.2)) :
    PGs X (e :: es) (dGs G (ws ++ vs) fun xs ρ S => match xs with | x :: xs => (evt x ρ S).bind fun ρ1 S1 => evts xs ρ1 S1 | _ => .bad) :=
  (pgs_cons h1 h2 hs).weak fun v σ H Q ⟨d, ρ, S, μ, hE, hS, r, q⟩ => by
    cases d with
    | nil => exact False.elim q
    | cons x xs =>
      obtain ⟨w, us, rfl, r1, r2⟩ := r
      refine ⟨w, us, rfl, x, ρ, S, μ, hE, hS, r1, ?_⟩
      have q' : TgOk G H μ (ws ++ vs) σ ((evt x ρ S).bind fun ρ1 S1 => evts xs ρ1 S1) Q := q
      cases e1 : evt x ρ S with
      | bad => rw [e1] at q'; exact False.elim q'
      | err _ _ => rw [e1] at q'; exact False.elim q'
      | ok ρ1 S1 =>
        rw [e1] at q'
        intro σ1 H1 μ1 l1 s1 g1 a1
        refine ⟨xs, ρ1, S1, μ1, g1, s1, RepL.later l1 _ _ r2, ?_⟩
        have q2 : TgOk G H μ (ws ++ vs) σ (evts xs ρ1 S1) Q := q'
        cases e2 : evts xs ρ1 S1 with
        | bad => rw [e2] at q2; exact False.elim q2
        | err _ _ => rw [e2] at q2; exact False.elim q2
        | ok ρ2 S2 =>
          rw [e2] at q2
          exact fun σ2 H2 μ2 l2 s2 g2 a2 => q2 σ2 H2 μ2 (l1.trans l2) s2 g2 (a1.trans a2)
theorem sG_tp {evts : List D → En → Sto → R En} {ws : List Nat} {k n : Nat} (hK : X.K = G.K) (hc : X.calm = true) (h : PGs X es (dGs G ws evts)) (hn : (assignEach es X.env).length = n) (hst : (assignEach es X.env).findIdx? (·.1) = none)
    (hl : ∀ xs ρ S, xs.length ≠ n → ∀ ρ' S', evts xs ρ S ≠ .ok ρ' S') : PG X (.Tuple es k pos) (dG G ws fun d ρ S => match d with | .tup xs => evts xs ρ S | _ => .bad) :=
  (pg_tup hc h hn hst).weak fun v σ H Q ⟨d, ρ, S, μ, hE, hS, r, q⟩ => by
    cases d with
    | tup xs =>
      obtain ⟨a, vs, rfl, sq, r, z⟩ := r
      refine ⟨a, vs, rfl, by rw [hK]; exact sq.1, ?_, xs, ρ, S, μ, hE, hS, r, q⟩
      by_cases k : xs.length = n
      · rw [← RepL.len r]; exact k
      · have q' : TgOk G H μ ws σ (evts xs ρ S) Q := q
        cases e : evts xs ρ S with
        | ok ρ' S' => exact absurd e (hl xs ρ S k ρ' S')
        | bad => rw [e] at q'; exact False.elim q'
        | err _ _ => rw [e] at q'; exact False.elim q'
    | _ => exact False.elim q
theorem PSet.or {t u : TSet} (h : PSet X t) (h' : PSet X u) : PSet X fun o i v H Q => t o i v H Q ∨ u o i v H Q := by
  intro pins s σ H x y v ux uy uv Q I rx ry rv q
  rcases q with q | q
  · exact h pins s σ H x y v ux uy uv Q I rx ry rv q
  · exact h' pins s σ H x y v ux uy uv Q I rx ry rv q
def rSetD : TSet := fun o i v H Q => ∃ a H', o = .ref a ∧ DPut H a i v H' ∧ Q H'
theorem set_dict (hu : X.A.units + 1 < cLine) : PSet X rSetD := by
  intro pins s σ H o i v ov iv u Q I ro ri rv h
  obtain ⟨a, H', rfl, g, q⟩ := h
  obtain rfl : ov = Value.ref a := ro
  exact d_setItem hu I g ri rv fun s' I' => ⟨H', I', q⟩
theorem sG_sub (hu : X.A.units + 1 < cLine) (ha : PE X a (dE G (fun _ _ _ _ => False) eva)) (hb : PE X b (dE G (fun _ _ _ _ => False) evb)) (hs : ∀ v, assign (.Subscript a b pos) X.env v = (do
      let ov ← holding [v] (eval a X.env)
      let iv ← holding [v, ov] (eval b X.env)
      standAt pos
      holding [v, ov, iv] (setItem ov iv v)
      release [v, ov, iv] [])) : PG X (.Subscript a b pos) (dG G [] fun d ρ S => (eva ρ S).bind fun x S1 => (evb ρ S1).bind fun y S2 => setD x y d ρ S2) :=
  (pg_sub ha hb (SB.PSet.or set_list (set_dict hu)) hs).weak fun v σ H Q ⟨d, ρ, S, μ, hE, hS, r, q⟩ => by
    dsimp only at q
    cases e1 : eva ρ S with
    | bad => rw [e1] at q; exact False.elim q
    | err _ _ => rw [e1] at q; exact False.elim q
    | ok x S1 =>
      rw [e1] at q
      refine ⟨ρ, S, μ, hE, hS, ?_⟩
      rw [e1]
      intro v1 H1 μ1 l1 s1 r1
      have q1 : TgOk G H μ [] σ ((evb ρ S1).bind fun y S2 => setD x y d ρ S2) Q := q
      cases e2 : evb ρ S1 with
      | bad => rw [e2] at q1; exact False.elim q1
      | err _ _ => rw [e2] at q1; exact False.elim q1
      | ok y S2 =>
        rw [e2] at q1
        refine ⟨ρ, S1, μ1, hE.later l1, s1, ?_⟩
        rw [e2]
        intro v2 H2 μ2 l2 s2 r2
        have q2 : TgOk G H μ [] σ (setD x y d ρ S2) Q := q1
        unfold setD at q2
        by_cases z : isDic S2 x = true
        · rw [if_pos z] at q2
          cases e3 : putO x y d S2 with
          | none => rw [e3] at q2; exact False.elim q2
          | some S3 =>
            rw [e3] at q2
            obtain ⟨a', H3, rfl, g, L, s3⟩ := putO_rep s2 (r1.later l2) r2 (r.later (l1.trans l2)) e3
            exact .inr ⟨a', H3, rfl, g, q2 σ H3 μ2 ((l1.trans l2).trans L) s3 (hE.later ((l1.trans l2).trans L)) .refl⟩
        · rw [if_neg z] at q2
          refine .inl ?_
          cases x with
          | ref n =>
            cases y with
            | int k =>
              cases (show v2 = .int k from r2)
              obtain ⟨p, rfl, g⟩ := r1
              dsimp only [setS] at q2
              cases e3 : lstAt S2 n with
              | none => rw [e3] at q2; exact False.elim q2
              | some xs =>
                rw [e3] at q2
                obtain ⟨p', vs, e4, e5, r5, z⟩ := s2.lst e3
                rw [l2.up.at g] at e4; cases e4
                dsimp only at q2
                cases e6 : ixN xs.length k with
                | none => rw [e6] at q2; exact False.elim q2
                | some j =>
                  rw [e6] at q2
                  refine ⟨p, vs, k, j, rfl, rfl, e5, by rw [← RepL.len r5]; exact e6, ?_⟩
                  have L : Later H μ (upd H2 p (.lst (vs.set j v))) μ2 := (l1.trans l2).trans (Later.write s2 (l2.up.at g))
                  have W2 : Later H2 μ2 (upd H2 p (.lst (vs.set j v))) μ2 := Later.write s2 (l2.up.at g)
                  exact q2 σ _ μ2 L (s2.write (l2.up.at g) ⟨_, upd_same, RepL.set (r.later L) j (RepL.later W2 _ _ r5), by rw [List.length_set]; exact z⟩) (hE.later L) .refl
            | _ => exact False.elim q2
          | _ => exact False.elim q2
end
end SB

/-! comprehensions, statements -/
namespace SB
open PySem PySem.Spec PyProof.Rows L2
open Classical
abbrev NoW : WX := fun _ _ _ _ => False
section
variable {X : Cx} {G : Pl} {W : WX} {σ : L2.St} {H : Hp} {μ : List Addr} {S : Sto} {Q : VK} {a b c e tg iter : PySem.Expr} {es : List PySem.Expr} {pos p : Pos} {eva evb evc : En → Sto → R D} {evs evs2 : En → Sto → R (List D)} {x : Str}
/-! ### comprehensions -/
theorem RelE.wipe {ρ : En} {σ : L2.St} (h : RelE G H μ ρ σ) : ∀ vs : List Nat, RelE G H μ (wipeE ρ vs) (L2.wipe σ vs)
  | [] => h
  | v :: vs => RelE.del (RelE.wipe h vs)
theorem wipe_at {σ : L2.St} {i : Nat} : ∀ {vs : List Nat}, i ∈ vs → i < σ.length → (L2.wipe σ vs)[i]? = some none
  | v :: vs, h, hl => by
    show ((L2.wipe σ vs).set v none)[i]? = some none
    by_cases e : i = v
    · subst e
      rw [List.getElem?_set_self (by rw [wipe_length]; exact hl)]
    · rw [List.getElem?_set_ne (Ne.symm e)]
      rcases List.mem_cons.mp h with h | h
      · exact absurd h e
      · exact wipe_at h hl
theorem wipe_agree {σ σ2 : L2.St} {ws vs : List Nat} (h : Agree ws (L2.wipe σ vs) σ2) (hs : ∀ i ∈ ws, i ∈ vs) : L2.wipe σ2 vs = L2.wipe σ vs := by
  apply List.ext_getElem?
  intro i
  by_cases hi : i ∈ vs
  · by_cases hl : i < σ.length
    · rw [wipe_at hi hl, wipe_at hi (by rw [h.1, wipe_length]; exact hl)]
    · rw [List.getElem?_eq_none (by rw [wipe_length, h.1, wipe_length]; omega), List.getElem?_eq_none (by rw [wipe_length]; omega)]
  · rw [wipe_out hi, h.2 i fun z => hi (hs i z)]
abbrev turnC (evt : D → En → Sto → R En) (evc : En → Sto → R Bool) (eve : En → Sto → R D) (own : List Nat) (ρ : En) : D → Sto → R (Option D) := fun x S2 => (evt x (wipeE ρ own) S2).bind fun ρ2 S3 => (evc ρ2 S3).bind fun k S4 =>
      if k = true then (eve ρ2 S4).bind fun d S5 => .ok (some d) S5 else .ok none S4
theorem Up.over {D : Addr} {vs : List V} {o : HO} (h : H D = some (.lst vs)) : Up H μ (upd H D o) μ :=
  ⟨List.prefix_refl _, fun a ws e => by rw [upd_ne (ne_of e h fun z => by cases z)]; exact e, fun a ob u e => by rw [upd_ne (ne_of e h fun z => by cases z)]; exact e⟩
theorem RelS.over {D : Addr} {vs : List V} {o : HO} (s : RelS G H μ S) (h : H D = some (.lst vs)) (hn : D ∉ μ) : RelS G (upd H D o) μ S :=
  ⟨s.len, s.nd, fun i u a e1 e2 => (s.obj i u a e1 e2).up (Up.over h) (upd_ne fun z => hn (by rw [← z]; exact List.mem_of_getElem? e2))⟩
theorem Later.over {H1 : Hp} {μ1 : List Addr} {D : Addr} {o : HO} (l : Later H1 μ1 H μ) (h1 : H1 D = none) (hn : D ∉ μ) : Later H1 μ1 (upd H D o) μ :=
  ⟨l.pre, fun a ws e => by rw [upd_ne (ne_of_none e h1)]; exact l.tup a ws e, fun a ob u e => by rw [upd_ne (ne_of_none e h1)]; exact l.frz a ob u e, fun a u e n => by rw [upd_ne (ne_of_none e h1)]; exact l.frame a u e n, l.fresh⟩
theorem comp_read {evi : En → Sto → R (List D × (Sto → Prop))} {evt : D → En → Sto → R En} {evk : En → Sto → R Bool} {eve : En → Sto → R D} {ws own : List Nat} (hs : ∀ i ∈ ws, i ∈ own)
    (h : dL G W (fun ρ S => (evi ρ S).bind fun p S1 => compL p.2 (turnC evt evk eve own ρ) p.1 [] S1) σ H Q) : tLc (dI G W evi) (dG G ws evt) (dT G NoW evk) (dE G NoW eve) own σ H Q := by
  obtain ⟨ρ, S, μ, hE, hS, h⟩ := h
  refine ⟨ρ, S, μ, hE, hS, h.stepL fun p S1 J H1 μ1 l1 s1 q1 h1 => fun D hD => ?_⟩
  obtain ⟨hz, hJ⟩ := q1
  refine ⟨fun i m H' => m = p.1.length - i ∧ i ≤ p.1.length ∧ ∃ acc vs S2 μ2, Later H1 μ1 H' μ2 ∧ RelS G H' μ2 S2 ∧ H' D = some (.lst vs) ∧ RepL G H' μ2 acc vs ∧ D ∉ μ2 ∧ acc.length ≤ i ∧ Run G W σ H μ (compL p.2 (turnC evt evk eve own ρ) (p.1.drop i) acc S2) (RepN G H) Q,
    ⟨p.1.length, rfl, Nat.zero_le _, [], [], S1, μ1, Later.new hD, s1.new hD, upd_same, rfl, s1.not_none hD, Nat.zero_le _, h1⟩, ?_⟩
  rintro i m H' ⟨rfl, hi, acc, vs, S2, μ2, l2, s2, e2, r2, n2, z2, h2⟩
  by_cases hlt : i < p.1.length
  · have ed : p.1.drop i = p.1[i] :: p.1.drop (i + 1) := List.drop_eq_getElem_cons hlt
    rw [ed] at h2
    unfold compL at h2
    by_cases ok : p.2 S2
    · rw [if_pos ok] at h2
      have J1 := (hJ H' μ2 S2 l2 s2 ok i).1 p.1[i] (List.getElem?_eq_getElem hlt)
      refine .inr ⟨J1.1, fun H2 => i + 1 ≤ p.1.length ∧ ∃ acc vs S2 μ2, Later H1 μ1 H2 μ2 ∧ RelS G H2 μ2 S2 ∧ H2 D = some (.lst vs) ∧ RepL G H2 μ2 acc vs ∧ D ∉ μ2 ∧ acc.length ≤ i + 1 ∧ Run G W σ H μ (compL p.2 (turnC evt evk eve own ρ) (p.1.drop (i + 1)) acc S2) (RepN G H) Q,
        fun H2 n => ⟨p.1.length - (i + 1), by omega, rfl, n⟩, fun y H2 yl => ?_⟩
      obtain ⟨rfl, ry⟩ := J1.2 y H2 yl
      refine ⟨p.1[i], wipeE ρ own, S2, μ2, (hE.later (l1.trans l2)).wipe own, s2, ry, ?_⟩
      cases e3 : evt p.1[i] (wipeE ρ own) S2 with
      | bad => unfold turnC at h2; rw [e3] at h2; exact False.elim h2
      | err _ _ => unfold turnC at h2; rw [e3] at h2; exact False.elim h2
      | ok ρ2 S3 =>
        intro σ3 H3 μ3 l3 s3 g3 a3
        refine ⟨wipe_agree a3 hs, ρ2, S3, μ3, g3, s3, ?_⟩
        cases e4 : evk ρ2 S3 with
        | bad => unfold turnC at h2; rw [e3, R.bind_ok, e4] at h2; exact False.elim h2
        | err _ _ => unfold turnC at h2; rw [e3, R.bind_ok, e4] at h2; exact False.elim h2
        | ok k S4 =>
          intro k' H4 μ4 l4 s4 ek
          cases ek
          cases k with
          | false =>
            rw [if_neg Bool.false_ne_true]
            have h5 : Run G W σ H μ (compL p.2 (turnC evt evk eve own ρ) (p.1.drop (i + 1)) acc S4) (RepN G H) Q := by
              unfold turnC at h2
              rw [e3, R.bind_ok, e4, R.bind_ok, if_neg Bool.false_ne_true] at h2
              exact h2
            have L := l3.trans l4
            have nD : D ∉ μ4 := fun m => by
              have := L.fresh D m n2
              rw [e2] at this; cases this
            exact ⟨hlt, acc, vs, S4, μ4, l2.trans L, s4, L.frame D _ e2 n2, RepL.later L _ _ r2, nD, by omega, h5⟩
          | true =>
            rw [if_pos rfl]
            refine ⟨ρ2, S4, μ4, g3.later l4, s4, ?_⟩
            cases e5 : eve ρ2 S4 with
            | bad => unfold turnC at h2; rw [e3, R.bind_ok, e4, R.bind_ok, if_pos rfl, e5] at h2; exact False.elim h2
            | err _ _ => unfold turnC at h2; rw [e3, R.bind_ok, e4, R.bind_ok, if_pos rfl, e5] at h2; exact False.elim h2
            | ok d S5 =>
              intro y H5 μ5 l5 s5 r5
              have h5 : Run G W σ H μ (compL p.2 (turnC evt evk eve own ρ) (p.1.drop (i + 1)) (acc ++ [d]) S5) (RepN G H) Q := by
                unfold turnC at h2
                rw [e3, R.bind_ok, e4, R.bind_ok, if_pos rfl, e5, R.bind_ok] at h2
                exact h2
              have L := (l3.trans l4).trans l5
              have eD := L.frame D _ e2 n2
              have nD : D ∉ μ5 := fun m => by
                have := L.fresh D m n2
                rw [e2] at this; cases this
              refine ⟨vs, eD, ?_, hlt, acc ++ [d], vs ++ [y], S5, μ5, (l2.trans L).over hD nD, s5.over eD nD, upd_same, RepL.app (RepL.up (Up.over eD) _ _ (RepL.later L _ _ r2)) (RepL.one (r5.up (Up.over eD))), nD, ?_, h5⟩
              · rw [← RepL.len r2]; omega
              · rw [List.length_append]; show acc.length + 1 ≤ i + 1; omega
    · rw [if_neg ok] at h2; exact False.elim h2
  · have ei : i = p.1.length := by omega
    subst ei
    rw [List.drop_length] at h2
    unfold compL at h2
    by_cases ok : p.2 S2
    · rw [if_pos ok] at h2
      refine .inl ⟨(hJ H' μ2 S2 l2 s2 ok _).2 (Nat.le_refl _), ?_⟩
      exact h2 (.ref D) H' μ2 (l1.trans l2) s2 ⟨D, vs, rfl, back s1 l1 hD, e2, n2, r2, by omega⟩
    · rw [if_neg ok] at h2; exact False.elim h2
section
variable {elt : PySem.Expr} {ifs : List PySem.Expr} {scope : Scope} {own : List (Str × Nat)} {evi : En → Sto → R (List D × (Sto → Prop))} {evt : D → En → Sto → R En} {evk : En → Sto → R Bool} {eve : En → Sto → R D} {ws : List Nat}
theorem sL_comp (hc : X.calm = true) (hN : X.N.Nodup) (hi : PI X tg iter (dI G W evi)) (ok : BlkOk X.N X.env.scope scope own)
    (hg : ∀ (s : Shared) (H : Hp) (C : Addr) (cl : List (Str × Addr)) (fp : List Addr), PG (X.blk s H scope (compEnvC scope cl C X.env) fp) tg (dG G ws evt)) (ht : ∀ (s : Shared) (H : Hp) (C : Addr) (cl : List (Str × Addr)) (fp : List Addr), PTs (X.blk s H scope (compEnvC scope cl C X.env) fp) ifs (dT G NoW evk))
    (he : ∀ (s : Shared) (H : Hp) (C : Addr) (cl : List (Str × Addr)) (fp : List Addr), PE (X.blk s H scope (compEnvC scope cl C X.env) fp) elt (dE G NoW eve)) (hs : ∀ x, foldedSetIterable iter X.env x = pure x) (hw : ∀ i ∈ ws, i ∈ own.map (·.2)) :
    PE X (.ListComp elt [⟨tg, iter, ifs, 0⟩] scope pos) (dL G W fun ρ S => (evi ρ S).bind fun p S1 => compL p.2 (turnC evt evk eve (own.map (·.2)) ρ) p.1 [] S1) :=
  (pe_lc hc hN hi ok hg ht he hs).weak fun σ H Q h => comp_read hw h
end
/-! ### statements -/
end
def FlOk (G : Pl) (W : WX) (H : Hp) (μ : List Addr) (r : Fl) (D : Ends) : Prop := match r with
  | .nx ρ' S' => ∀ σ' H' μ', Later H μ H' μ' → RelS G H' μ' S' → RelE G H' μ' ρ' σ' → D.nx σ' H'
  | .bk ρ' S' => ∀ σ' H' μ', Later H μ H' μ' → RelS G H' μ' S' → RelE G H' μ' ρ' σ' → D.bk σ' H'
  | .ct ρ' S' => ∀ σ' H' μ', Later H μ H' μ' → RelS G H' μ' S' → RelE G H' μ' ρ' σ' → D.ct σ' H'
  | .rt d S' => ∀ v H' μ', Later H μ H' μ' → RelS G H' μ' S' → Rep G H' μ' d v → D.rt v H'
  | .er c ρ' S' => ∀ σ' H' μ', Later H μ H' μ' → RelS G H' μ' S' → RelE G H' μ' ρ' σ' → W (.ref (G.cl c)) none σ' H'
  | .bad => False
def dS (G : Pl) (W : WX) (ev : En → Sto → Fl) : TS := fun D σ H => ∃ ρ S μ, RelE G H μ ρ σ ∧ RelS G H μ S ∧ FlOk G W H μ (ev ρ S) D
theorem _root_.L2.PS.weak {X : Cx} {st : Stmt} {t u : TS} (h : PS X st t) (k : ∀ D σ H, u D σ H → t D σ H) : PS X st u := ⟨fun pins s σ H D I q => h.run pins s σ H D I (k D σ H q)⟩
theorem _root_.L2.PSs.weak {X : Cx} {st : List Stmt} {t u : TS} (h : PSs X st t) (k : ∀ D σ H, u D σ H → t D σ H) : PSs X st u := ⟨fun pins s σ H D I q => h.run pins s σ H D I (k D σ H q)⟩
section
variable {X : Cx} {G : Pl} {W : WX} {σ : L2.St} {H H' : Hp} {μ μ' : List Addr} {S : Sto} {Dn : Ends} {a b c e tg iter : PySem.Expr} {pos p : Pos} {eva evb evc : En → Sto → R D} {x : Str} {st : Stmt} {sts ots : List Stmt} {ev1 ev2 : En → Sto → Fl}
theorem FlOk.later {r : Fl} (l : Later H μ H' μ') (h : FlOk G W H μ r Dn) : FlOk G W H' μ' r Dn := by
  cases r with
  | bad => exact h
  | _ => exact fun σ2 H2 μ2 l2 => h σ2 H2 μ2 (l.trans l2)
theorem flow_step {α β : Type} {r : R α} {ρ : En} {f : α → Sto → Fl} {Rp : Hp → List Addr → α → β → Prop} {Q' : β → Hp → Prop} (h : FlOk G W H μ (r.flow ρ f) Dn) (hE : RelE G H μ ρ σ)
    (k : ∀ a S' b H' μ', Later H μ H' μ' → RelS G H' μ' S' → Rp H' μ' a b → FlOk G W H' μ' (f a S') Dn → Q' b H') : Run G W σ H μ r Rp Q' := by
  cases r with
  | ok a S' => exact fun b H2 μ2 l s q => k a S' b H2 μ2 l s q (FlOk.later l h)
  | err c S' => exact fun H2 μ2 l s => h σ H2 μ2 l s (hE.later l)
  | bad => exact h
theorem ss_nil : PSs X [] (dS G W fun ρ S => .nx ρ S) := pss_nil.weak fun D σ H ⟨ρ, S, μ, hE, hS, h⟩ => h σ H μ .refl hS hE
theorem ss_cons (h1 : PS X st (dS G W ev1)) (h2 : PSs X sts (dS G W ev2)) : PSs X (st :: sts) (dS G W fun ρ S => seqF (ev1 ρ S) fun ρ1 S1 => ev2 ρ1 S1) := by
  refine (pss_cons h1 h2).weak fun D σ H ⟨ρ, S, μ, hE, hS, h⟩ => ⟨ρ, S, μ, hE, hS, ?_⟩
  dsimp only at h
  cases e : ev1 ρ S with
  | nx ρ1 S1 => rw [e] at h; exact fun σ' H' μ' l s g => ⟨ρ1, S1, μ', g, s, FlOk.later l h⟩
  | rt d S1 => rw [e] at h; exact h
  | bk d S1 => rw [e] at h; exact h
  | ct d S1 => rw [e] at h; exact h
  | er k d S1 => rw [e] at h; exact h
  | bad => rw [e] at h; exact h
theorem ss_asg {evt : D → En → Sto → R En} {ws : List Nat} (he : PE X e (dE G W eva)) (hg : PG X tg (dG G ws evt)) (hs : swapsWithSole [tg] e pos.line X.env = pure false) (hw : swappedStores [tg] e X.env = pure none) (h1 : (assignEach [tg] X.env).map (·.2) = [assign tg X.env]) :
    PS X (.Assign [tg] e pos) (dS G W fun ρ S => (eva ρ S).flow ρ fun d S1 => R.calm (evt d ρ S1) fun ρ2 S2 => .nx ρ2 S2) := by
  refine (ps_asg he hg hs hw h1).weak fun D σ H ⟨ρ, S, μ, hE, hS, h⟩ => ⟨ρ, S, μ, hE, hS, flow_step h hE fun d S1 v H1 μ1 l1 s1 q1 h1 => ?_⟩
  refine ⟨d, ρ, S1, μ1, hE.later l1, s1, q1, ?_⟩
  dsimp only [R.calm] at h1
  cases e1 : evt d ρ S1 with
  | ok ρ2 S2 => rw [e1] at h1; exact fun σ' H' μ' l s g _ => h1 σ' H' μ' l s g
  | _ => rw [e1] at h1; exact h1
/-- name = [..]: the comprehension is stored by itself -/
theorem ss_setLc {i : Nat} {y : Str} {py spos : Pos} {elt : PySem.Expr} {ifs : List PySem.Expr} {scope : Scope} {own : List (Str × Nat)} {evi : En → Sto → R (List D × (Sto → Prop))} {evt : D → En → Sto → R En} {evk : En → Sto → R Bool} {eve : En → Sto → R D} {ws : List Nat}
    (hc : X.calm = true) (hN : X.N.Nodup) (hy : X.N[i]? = some y) (hyl : X.env.scope.names.lookup y = some .local) (hsw : swapsWith (.ListComp elt [⟨tg, iter, ifs, 0⟩] scope pos) (some (.Name y py)) spos.line X.env = pure true) (hi : PI X tg iter (dI G W evi)) (ok : BlkOk X.N X.env.scope scope own)
    (hg : ∀ (s : Shared) (H : Hp) (C : Addr) (cl : List (Str × Addr)) (fp : List Addr), PG (X.blk s H scope (compEnvC scope cl C X.env) fp) tg (dG G ws evt)) (ht : ∀ (s : Shared) (H : Hp) (C : Addr) (cl : List (Str × Addr)) (fp : List Addr), PTs (X.blk s H scope (compEnvC scope cl C X.env) fp) ifs (dT G NoW evk))
    (he : ∀ (s : Shared) (H : Hp) (C : Addr) (cl : List (Str × Addr)) (fp : List Addr), PE (X.blk s H scope (compEnvC scope cl C X.env) fp) elt (dE G NoW eve)) (hs : ∀ x, foldedSetIterable iter X.env x = pure x) (hw : ∀ i ∈ ws, i ∈ own.map (·.2)) :
    PS X (.Assign [.Name y py] (.ListComp elt [⟨tg, iter, ifs, 0⟩] scope pos) spos) (dS G W fun ρ S => (((evi ρ S).bind fun p S1 => compL p.2 (turnC evt evk eve (own.map (·.2)) ρ) p.1 [] S1).bind newD).flow ρ fun d S1 => .nx (ρ.set i (some d)) S1) := by
  refine (ps_setLc hc hN hy hyl hsw hi ok hg ht he hs).weak fun D σ H ⟨ρ, S, μ, hE, hS, h⟩ => ?_
  refine comp_read hw ⟨ρ, S, μ, hE, hS, ?_⟩
  dsimp only at h ⊢
  cases e : (evi ρ S).bind fun p S1 => compL p.2 (turnC evt evk eve (own.map (·.2)) ρ) p.1 [] S1 with
  | bad => rw [e] at h; exact False.elim h
  | err k S1 => rw [e] at h; exact fun H2 μ2 l s => h σ H2 μ2 l s (hE.later l)
  | ok xs S1 =>
    rw [e] at h
    intro v H1 μ1 l1 s1 q1
    obtain ⟨a, vs, rfl, h0, ha, hn, r, z⟩ := q1
    have u : Up H1 μ1 H1 (μ1 ++ [a]) := ⟨List.prefix_append _ _, fun _ _ h => h, fun _ _ _ h => h⟩
    have s2 : RelS G H1 (μ1 ++ [a]) (S1 ++ [.lst xs]) := s1.grow hn ⟨vs, ha, RepL.up u _ _ r, z⟩
    have l2 : Later H μ H1 (μ1 ++ [a]) := ⟨l1.pre.trans (List.prefix_append _ _), l1.tup, l1.frz, l1.frame, fun b m n => by
      rcases List.mem_append.mp m with m | m
      · exact l1.fresh b m n
      · cases List.mem_singleton.mp m; exact h0⟩
    refine h _ H1 (μ1 ++ [a]) l2 s2 ((hE.later l2).set ⟨a, rfl, ?_⟩)
    rw [← s1.len, List.getElem?_append_right (Nat.le_refl _)]
    simp
theorem ss_par {i j : Nat} {x y : Str} {px py pt : Pos} {kt k2 : Nat} {pt2 : Pos} (hc : X.calm = true) (hN : X.N.Nodup) (hi : X.N[i]? = some x) (hj : X.N[j]? = some y) (hij : i ≠ j)
    (hx : X.env.scope.names.lookup x = some .local) (hy : X.env.scope.names.lookup y = some .local) (ha : PE X a (dE G W eva)) (hb : PE X b (dE G W evb)) (he : starEach [a, b] X.env = [(false, eval a X.env), (false, eval b X.env)]) (he2 : starEach [b] X.env = [(false, eval b X.env)])
    (hw : swappedStores [.Tuple [.Name x px, .Name y py] kt pt] (.Tuple [a, b] k2 pt2) X.env = pure (some [x, y])) :
    PS X (.Assign [.Tuple [.Name x px, .Name y py] kt pt] (.Tuple [a, b] k2 pt2) pos) (dS G W fun ρ S => (eva ρ S).flow ρ fun x S1 => (evb ρ S1).flow ρ fun y S2 => .nx ((ρ.set i (some x)).set j (some y)) S2) := by
  refine (ps_par hc hN hi hj hij hx hy (pa_cons ha (pa_cons hb pa_nil he2) (by rw [he, he2])) hw).weak fun D σ H ⟨ρ, S, μ, hE, hS, h⟩ => ?_
  refine ⟨ρ, S, μ, hE, hS, flow_step h hE fun d S1 v H1 μ1 l1 s1 q1 h1 => ?_⟩
  refine ⟨ρ, S1, μ1, hE.later l1, s1, flow_step h1 (hE.later l1) fun d2 S2 w H2 μ2 l2 s2 q2 h2 => ?_⟩
  exact ⟨v, w, rfl, h2 _ H2 μ2 .refl s2 (((hE.later (l1.trans l2)).set (q1.later l2)).set q2)⟩
theorem ss_ex (he : PE X e (dE G W eva)) (hs : swapsWith e none pos.line X.env = pure false) : PS X (.Expr e pos) (dS G W fun ρ S => (eva ρ S).flow ρ fun _ S1 => .nx ρ S1) :=
  (ps_expr he hs).weak fun D σ H ⟨ρ, S, μ, hE, hS, h⟩ => ⟨ρ, S, μ, hE, hS, flow_step h hE fun d S1 v H1 μ1 l1 s1 q1 h1 => h1 σ H1 μ1 .refl s1 (hE.later l1)⟩
theorem ss_ret (he : PE X e (dE G W eva)) : PS X (.Return (some e) pos) (dS G W fun ρ S => (eva ρ S).flow ρ fun d S1 => .rt d S1) :=
  (ps_ret he).weak fun D σ H ⟨ρ, S, μ, hE, hS, h⟩ => ⟨ρ, S, μ, hE, hS, flow_step h hE fun d S1 v H1 μ1 l1 s1 q1 h1 => h1 v H1 μ1 .refl s1 q1⟩
theorem ss_retN : PS X (.Return none pos) (dS G W fun _ S => .rt .non S) := ps_retN.weak fun D σ H ⟨ρ, S, μ, hE, hS, h⟩ => h .non H μ .refl hS rfl
theorem ss_pass : PS X (.Pass pos) (dS G W fun ρ S => .nx ρ S) := ps_pass.weak fun D σ H ⟨ρ, S, μ, hE, hS, h⟩ => h σ H μ .refl hS hE
theorem ss_brk : PS X (.Break pos) (dS G W fun ρ S => .bk ρ S) := ps_break.weak fun D σ H ⟨ρ, S, μ, hE, hS, h⟩ => h σ H μ .refl hS hE
theorem ss_cont : PS X (.Continue pos) (dS G W fun ρ S => .ct ρ S) := ps_continue.weak fun D σ H ⟨ρ, S, μ, hE, hS, h⟩ => h σ H μ .refl hS hE
theorem ss_ite (hc : PT X c (dT G W (tb evc))) (ha : PSs X sts (dS G W ev1)) (hb : PSs X ots (dS G W ev2)) : PS X (.If c sts ots pos) (dS G W fun ρ S => ((evc ρ S).bind toB).flow ρ fun k S1 => if k = true then ev1 ρ S1 else ev2 ρ S1) := by
  refine (ps_if hc ha hb).weak fun D σ H ⟨ρ, S, μ, hE, hS, h⟩ => ⟨ρ, S, μ, hE, hS, flow_step h hE fun k S1 k' H1 μ1 l1 s1 q1 h1 => ?_⟩
  cases q1
  cases k with
  | true => rw [if_pos rfl] at h1 ⊢; exact ⟨ρ, S1, μ1, hE.later l1, s1, h1⟩
  | false => rw [if_neg Bool.false_ne_true] at h1 ⊢; exact ⟨ρ, S1, μ1, hE.later l1, s1, h1⟩
theorem ss_for {evi : En → Sto → R (List D × (Sto → Prop))} {evt : D → En → Sto → R En} {ws : List Nat} (hp : PassesOwn (model X.prog X.w) X.A X.env X.xe) (hc : X.calm = true) (hi : PI X tg iter (dI G W evi)) (hg : PG X tg (dG G ws evt)) (hb : PSs X sts (dS G W ev1)) (hs : ∀ x, foldedSetIterable iter X.env x = pure x) :
    PS X (.For tg iter sts [] pos) (dS G W fun ρ S => (evi ρ S).flow ρ fun p S1 => forL p.2 (fun x ρ1 S2 => R.calm (evt x ρ1 S2) fun ρ2 S3 => ev1 ρ2 S3) p.1 ρ S1) := by
  refine (ps_for hp hc hi hg hb hs).weak fun D σ H ⟨ρ, S, μ, hE, hS, h⟩ => ⟨ρ, S, μ, hE, hS, flow_step h hE fun p S1 J H1 μ1 l1 s1 q1 h1 => ?_⟩
  obtain ⟨hz, hJ⟩ := q1
  refine ⟨fun i m σ' H' => m = p.1.length - i ∧ i ≤ p.1.length ∧ ∃ ρ' S2 μ2, Later H1 μ1 H' μ2 ∧ RelS G H' μ2 S2 ∧ RelE G H' μ2 ρ' σ' ∧ FlOk G W H' μ2 (forL p.2 (fun x ρ1 S2 => R.calm (evt x ρ1 S2) fun ρ2 S3 => ev1 ρ2 S3) (p.1.drop i) ρ' S2) D,
    ⟨p.1.length, rfl, Nat.zero_le _, ρ, S1, μ1, .refl, s1, hE.later l1, h1⟩, ?_⟩
  rintro i m σ' H' ⟨rfl, hi, ρ', S2, μ2, l2, s2, g2, h2⟩
  by_cases hlt : i < p.1.length
  · have ed : p.1.drop i = p.1[i] :: p.1.drop (i + 1) := List.drop_eq_getElem_cons hlt
    rw [ed] at h2
    unfold forL at h2
    by_cases ok : p.2 S2
    · rw [if_pos ok] at h2
      have J1 := (hJ H' μ2 S2 l2 s2 ok i).1 p.1[i] (List.getElem?_eq_getElem hlt)
      refine .inr ⟨J1.1, fun σ2 H2 => i + 1 ≤ p.1.length ∧ ∃ ρ' S2 μ2, Later H1 μ1 H2 μ2 ∧ RelS G H2 μ2 S2 ∧ RelE G H2 μ2 ρ' σ2 ∧ FlOk G W H2 μ2 (forL p.2 (fun x ρ1 S2 => R.calm (evt x ρ1 S2) fun ρ2 S3 => ev1 ρ2 S3) (p.1.drop (i + 1)) ρ' S2) D,
        fun σ2 H2 n => ⟨p.1.length - (i + 1), by omega, rfl, n⟩, fun y H2 yl => ?_⟩
      obtain ⟨rfl, ry⟩ := J1.2 y H2 yl
      refine ⟨p.1[i], ρ', S2, μ2, g2, s2, ry, ?_⟩
      cases e3 : evt p.1[i] ρ' S2 with
      | bad => dsimp only [R.calm] at h2; rw [e3] at h2; exact False.elim h2
      | err _ _ => dsimp only [R.calm] at h2; rw [e3] at h2; exact False.elim h2
      | ok ρ2 S3 =>
        dsimp only [R.calm] at h2
        rw [e3] at h2
        intro σ3 H3 μ3 l3 s3 g3 a3
        refine ⟨ρ2, S3, μ3, g3, s3, ?_⟩
        dsimp only at h2
        cases e4 : ev1 ρ2 S3 with
        | nx ρ4 S4 => rw [e4] at h2; exact fun σ4 H4 μ4 l4 s4 g4 => ⟨hlt, ρ4, S4, μ4, (l2.trans l3).trans l4, s4, g4, FlOk.later (l3.trans l4) h2⟩
        | ct ρ4 S4 => rw [e4] at h2; exact fun σ4 H4 μ4 l4 s4 g4 => ⟨hlt, ρ4, S4, μ4, (l2.trans l3).trans l4, s4, g4, FlOk.later (l3.trans l4) h2⟩
        | bk ρ4 S4 => rw [e4] at h2; exact fun σ4 H4 μ4 l4 s4 g4 => h2 σ4 H4 μ4 (l3.trans l4) s4 g4
        | rt d S4 => rw [e4] at h2; exact fun v H4 μ4 l4 s4 g4 => h2 v H4 μ4 (l3.trans l4) s4 g4
        | er k ρ4 S4 => rw [e4] at h2; exact fun σ4 H4 μ4 l4 s4 g4 => h2 σ4 H4 μ4 (l3.trans l4) s4 g4
        | bad => rw [e4] at h2; exact h2
    · rw [if_neg ok] at h2; exact False.elim h2
  · have ei : i = p.1.length := by omega
    subst ei
    rw [List.drop_length] at h2
    unfold forL at h2
    by_cases ok : p.2 S2
    · rw [if_pos ok] at h2
      exact .inl ⟨(hJ H' μ2 S2 l2 s2 ok _).2 (Nat.le_refl _), h2 σ' H' μ2 .refl s2 g2⟩
    · rw [if_neg ok] at h2; exact False.elim h2
theorem ss_while {n : Nat} (hp : PassesOwn (model X.prog X.w) X.A X.env X.xe) (hc : PT X c (dT G W (tb evc))) (hb : PSs X sts (dS G W ev1)) : PS X (.While c sts [] pos) (dS G W fun ρ S => whileN (fun ρ1 S1 => (evc ρ1 S1).bind toB) (fun ρ1 S1 => ev1 ρ1 S1) n ρ S) := by
  refine (ps_while hp hc hb).weak fun D σ H ⟨ρ, S, μ, hE, hS, h⟩ => ?_
  refine ⟨fun m σ' H' => ∃ ρ' S2 μ2, RelS G H' μ2 S2 ∧ RelE G H' μ2 ρ' σ' ∧ FlOk G W H' μ2 (whileN (fun ρ1 S1 => (evc ρ1 S1).bind toB) (fun ρ1 S1 => ev1 ρ1 S1) m ρ' S2) D, ⟨n, ρ, S, μ, hS, hE, h⟩, ?_⟩
  rintro m σ' H' ⟨ρ', S2, μ2, s2, g2, h2⟩
  refine ⟨ρ', S2, μ2, g2, s2, ?_⟩
  cases m with
  | zero => exact False.elim h2
  | succ m =>
    unfold whileN at h2
    cases e : (evc ρ' S2).bind toB with
    | bad => rw [e] at h2; dsimp only [tb]; rw [e]; exact False.elim h2
    | err k S3 => rw [e] at h2; dsimp only [tb]; rw [e]; exact fun H3 μ3 l3 s3 => h2 σ' H3 μ3 l3 s3 (g2.later l3)
    | ok k S3 =>
      rw [e] at h2; dsimp only [tb]; rw [e]
      intro k' H3 μ3 l3 s3 ek
      cases ek
      cases k with
      | false =>
        rw [if_neg Bool.false_ne_true]
        exact h2 σ' H3 μ3 l3 s3 (g2.later l3)
      | true =>
        rw [if_pos rfl]
        refine ⟨fun σ4 H4 => ∃ ρ' S2 μ2, RelS G H4 μ2 S2 ∧ RelE G H4 μ2 ρ' σ4 ∧ FlOk G W H4 μ2 (whileN (fun ρ1 S1 => (evc ρ1 S1).bind toB) (fun ρ1 S1 => ev1 ρ1 S1) m ρ' S2) D, fun σ4 H4 n => ⟨m, Nat.lt_succ_self m, n⟩, ρ', S3, μ3, g2.later l3, s3, ?_⟩
        dsimp only at h2
        cases e4 : ev1 ρ' S3 with
        | nx ρ4 S4 => rw [e4] at h2; exact fun σ4 H4 μ4 l4 s4 g4 => ⟨ρ4, S4, μ4, s4, g4, FlOk.later (l3.trans l4) h2⟩
        | ct ρ4 S4 => rw [e4] at h2; exact fun σ4 H4 μ4 l4 s4 g4 => ⟨ρ4, S4, μ4, s4, g4, FlOk.later (l3.trans l4) h2⟩
        | bk ρ4 S4 => rw [e4] at h2; exact fun σ4 H4 μ4 l4 s4 g4 => h2 σ4 H4 μ4 (l3.trans l4) s4 g4
        | rt d S4 => rw [e4] at h2; exact fun v H4 μ4 l4 s4 g4 => h2 v H4 μ4 (l3.trans l4) s4 g4
        | er k ρ4 S4 => rw [e4] at h2; exact fun σ4 H4 μ4 l4 s4 g4 => h2 σ4 H4 μ4 (l3.trans l4) s4 g4
        | bad => rw [e4] at h2; exact h2
end
end SB

/-! errors -/
namespace SB
open PySem PySem.Spec PyProof.Rows L2
open Classical
/-- a class of errors of the text -/
structure ExcOk (X : Cx) (x : Str) (C : Addr) : Prop where
  bm : ∃ bmB, ExcBaseFacts "ValueError" "ValueError.__new__" "ValueError.__init__" bmB ∧ PySem.W.excIn X.K C bmB "ValueError.__new__" = true
  mg : X.mg x = some (.ref C)
  kp : PySem.W.keepIn X.K (.ref C) = true
  rs : Raises X (.ref C)
section
variable {X : Cx} {G : Pl} {W : WX} {σ : L2.St} {H H' : Hp} {μ μ' : List Addr} {S : Sto} {Dn : Ends} {a b c e tg iter : PySem.Expr} {pos p : Pos} {eva evb evc : En → Sto → R D} {x : Str} {st : Stmt} {sts ots : List Stmt} {ev1 ev2 : En → Sto → Fl}
theorem ss_raise {k j : Nat} {m : Str} {p2 cpos : Pos} (hc : X.calm = true) (tk : Takes X W) (C : ExcOk X x (G.cl k)) (hg : Gl X x) (hdb : (x == ("__debug__" : Str)) = false) :
    PS X (.Raise (some (.Call (.Name x p) [.Constant (.str m) j p2] [] cpos)) none pos) (dS G W fun ρ S => .er k ρ S) := by
  obtain ⟨⟨bmB, F, q⟩, m1, m2, m3⟩ := C
  exact (ps_raise hc tk (pmk_own F q m1 m2 m3 hg hdb)).weak fun D σ H ⟨ρ, S, μ, hE, hS, h⟩ => h σ H μ .refl hS hE
/-- the same with an error in hand -/
abbrev Pl.with (G : Pl) (e : Option (Addr × Nat)) : Pl := { G with ex := e }
mutual
theorem Rep.put {e : Option (Addr × Nat)} (h0 : G.ex = none) : ∀ (d : D) (v : V), Rep G H μ d v → Rep (G.with e) H μ d v
  | .non, _, h => h
  | .bl _, _, h => h
  | .int _, _, h => h
  | .str _, _, h => h
  | .tup xs, v, ⟨a, vs, e, s, r, z⟩ => ⟨a, vs, e, s, RepL.put h0 xs vs r, z⟩
  | .fzl xs, v, ⟨a, vs, e, s, r, z⟩ => ⟨a, vs, e, s, RepL.put h0 xs vs r, z⟩
  | .ref n, v, h => h
  | .exc c, v, ⟨a, _, h⟩ => by rw [h0] at h; cases h
  | .kt ks, v, h => h
theorem RepL.put {e : Option (Addr × Nat)} (h0 : G.ex = none) : ∀ (xs : List D) (vs : List V), RepL G H μ xs vs → RepL (G.with e) H μ xs vs
  | [], _, h => h
  | x :: xs, vs, ⟨w, ws, e, r, t⟩ => ⟨w, ws, e, Rep.put h0 x w r, RepL.put h0 xs ws t⟩
end
mutual
theorem Rep.drop {e : Option (Addr × Nat)} : ∀ (d : D) (v : V), d.noE → Rep (G.with e) H μ d v → Rep G H μ d v
  | .non, _, _, h => h
  | .bl _, _, _, h => h
  | .int _, _, _, h => h
  | .str _, _, _, h => h
  | .tup xs, v, n, ⟨a, vs, e, s, r, z⟩ => ⟨a, vs, e, s, RepL.dropE xs vs n r, z⟩
  | .fzl xs, v, n, ⟨a, vs, e, s, r, z⟩ => ⟨a, vs, e, s, RepL.dropE xs vs n r, z⟩
  | .ref n, v, _, h => h
  | .exc c, v, n, h => False.elim n
  | .kt ks, v, _, h => h
theorem RepL.dropE {e : Option (Addr × Nat)} : ∀ (xs : List D) (vs : List V), Ds.noE xs → RepL (G.with e) H μ xs vs → RepL G H μ xs vs
  | [], _, _, h => h
  | x :: xs, vs, n, ⟨w, ws, e, r, t⟩ => ⟨w, ws, e, Rep.drop x w n.1 r, RepL.dropE xs ws n.2 t⟩
end
mutual
theorem Rep.noE (h0 : G.ex = none) : ∀ (d : D) (v : V), Rep G H μ d v → d.noE
  | .non, _, _ => trivial
  | .bl _, _, _ => trivial
  | .int _, _, _ => trivial
  | .str _, _, _ => trivial
  | .tup xs, v, ⟨a, vs, e, s, r, z⟩ => RepL.noE h0 xs vs r
  | .fzl xs, v, ⟨a, vs, e, s, r, z⟩ => RepL.noE h0 xs vs r
  | .ref n, v, _ => trivial
  | .exc c, v, ⟨a, _, h⟩ => by rw [h0] at h; cases h
  | .kt ks, v, _ => trivial
theorem RepL.noE (h0 : G.ex = none) : ∀ (xs : List D) (vs : List V), RepL G H μ xs vs → Ds.noE xs
  | [], _, _ => trivial
  | x :: xs, vs, ⟨w, ws, e, r, t⟩ => ⟨Rep.noE h0 x w r, RepL.noE h0 xs ws t⟩
end
theorem RepO.put {e : Option (Addr × Nat)} {a : Addr} (h0 : G.ex = none) : ∀ {o : O}, RepO G H μ a o → RepO (G.with e) H μ a o
  | .lst xs, ⟨vs, h, r, z⟩ => ⟨vs, h, RepL.put h0 _ _ r, z⟩
  | .dic kvs, ⟨ws, h, e, r, z⟩ => ⟨ws, h, e, RepL.put h0 _ _ r, z⟩
  | .dit kvs, ⟨ws, h, e, r, z⟩ => ⟨ws, h, e, RepL.put h0 _ _ r, z⟩
  | .ins C fs, ⟨dx, ws, h, e, r, z⟩ => ⟨dx, ws, h, e, RepL.put h0 _ _ r, z⟩
theorem RepO.dropE {e : Option (Addr × Nat)} {a : Addr} {H0 : Hp} {μ0 : List Addr} {a0 : Addr} (h0 : G.ex = none) : ∀ {o : O}, RepO G H0 μ0 a0 o → RepO (G.with e) H μ a o → RepO G H μ a o
  | .lst xs, ⟨_, _, r0, _⟩, ⟨vs, h, r, z⟩ => ⟨vs, h, RepL.dropE _ _ (RepL.noE h0 _ _ r0) r, z⟩
  | .dic kvs, ⟨_, _, _, r0, _⟩, ⟨ws, h, e, r, z⟩ => ⟨ws, h, e, RepL.dropE _ _ (RepL.noE h0 _ _ r0) r, z⟩
  | .dit kvs, ⟨_, _, _, r0, _⟩, ⟨ws, h, e, r, z⟩ => ⟨ws, h, e, RepL.dropE _ _ (RepL.noE h0 _ _ r0) r, z⟩
  | .ins C fs, ⟨_, _, _, _, r0, _⟩, ⟨dx, ws, h, e, r, z⟩ => ⟨dx, ws, h, e, RepL.dropE _ _ (RepL.noE h0 _ _ r0) r, z⟩
theorem RelS.put {e : Option (Addr × Nat)} (h0 : G.ex = none) (s : RelS G H μ S) : RelS (G.with e) H μ S := ⟨s.len, s.nd, fun i o a e1 e2 => (s.obj i o a e1 e2).put h0⟩
theorem RelS.dropE {e : Option (Addr × Nat)} {H0 : Hp} {μ0 : List Addr} (h0 : G.ex = none) (s0 : RelS G H0 μ0 S) (s : RelS (G.with e) H μ S) : RelS G H μ S := ⟨s.len, s.nd, fun i o a e1 e2 => by
  obtain ⟨a0, _, q⟩ := s0.at e1
  exact RepO.dropE h0 q (s.obj i o a e1 e2)⟩
theorem RelE.put {e : Option (Addr × Nat)} {ρ : En} (h0 : G.ex = none) (s : RelE G H μ ρ σ) : RelE (G.with e) H μ ρ σ := ⟨s.1, fun i d h => by
  obtain ⟨v, h1, h2⟩ := s.2 i d h
  exact ⟨v, h1, h2.put h0⟩⟩
section
variable {bd hd : En → Sto → Fl} {k i : Nat} {b₀ : Stmt} {suite body : List Stmt} {np pos' : Pos} {n : Str} {sub : Nat → Nat → Option Bool}
theorem ss_try (h0 : G.ex = none) (hK : X.K = G.K) (hs : X.stack = X.env :: X.outer) (hf : X.env.frame = some X.env.locals) (hc : Names X x (.ref (G.cl k))) (tk : Takes X W) (hsub : ∀ j b, sub j k = some b → PySem.W.exmOne X.K (.ref (G.cl j)) (.ref (G.cl k)) = some b)
    (hb : ∀ (W : WX) (pn : List (Addr × Obj)) (xe : Value → Shared → Prop), Takes (X.tr pn xe) W → PassesOwn (model X.prog X.w) X.A X.env xe → PSs (X.tr pn xe) body (dS G W bd))
    (hsu : ∀ (a : Addr) (oe : Obj) (cls : Value) (d : Option Addr) (pn : List (Addr × Obj)), Zc cls d oe → (∃ vs, oe.data = .fields vs) → PSs (X.suite a ((a, oe) :: pn)) (b₀ :: suite) (dS G NoW hd)) :
    PS X (.Try body [.ExceptHandler (some (.Name x np)) none (b₀ :: suite) pos'] [] [] pos) (dS G W fun ρ S => tryF sub k (bd ρ S) fun j ρ1 S1 => noEr (hd ρ1 S1)) := by
  refine (ps_try_only hs hf hc tk (tb := fun W => dS G W bd) (ts := fun _ _ _ => dS G NoW hd) hb hsu).weak fun D σ H ⟨ρ, S, μ, hE, hS, h⟩ => ⟨ρ, S, μ, hE, hS, ?_⟩
  dsimp only at h
  unfold tryF at h
  cases e : bd ρ S with
  | er j ρ1 S1 =>
    rw [e] at h
    intro σ1 H1 μ1 l1 s1 g1
    dsimp only at h
    cases e2 : sub j k with
    | none => rw [e2] at h; exact False.elim h
    | some bb =>
      rw [e2] at h
      refine ⟨bb, hsub j bb e2, fun z a ha => ?_, fun z => ?_⟩
      · subst z
        refine ⟨ρ1, S1, μ1, g1, s1, ?_⟩
        dsimp only [noEr, rtOnly] at h
        cases e3 : hd ρ1 S1 with
        | er _ _ _ => rw [e3] at h; exact False.elim h
        | nx ρ4 S4 => rw [e3] at h; exact FlOk.later (r := .nx ρ4 S4) (W := NoW) l1 h
        | bk ρ4 S4 => rw [e3] at h; exact FlOk.later (r := .bk ρ4 S4) (W := NoW) l1 h
        | ct ρ4 S4 => rw [e3] at h; exact FlOk.later (r := .ct ρ4 S4) (W := NoW) l1 h
        | rt ρ4 S4 => rw [e3] at h; exact FlOk.later (r := .rt ρ4 S4) (W := NoW) l1 h
        | bad => rw [e3] at h; exact False.elim h
      · subst z
        exact h σ1 H1 μ1 l1 s1 g1
  | nx ρ4 S4 => rw [e] at h; exact h
  | bk ρ4 S4 => rw [e] at h; exact h
  | ct ρ4 S4 => rw [e] at h; exact h
  | rt ρ4 S4 => rw [e] at h; exact h
  | bad => rw [e] at h; exact h
theorem ss_tryAs (h0 : G.ex = none) (hK : X.K = G.K) (hs : X.stack = X.env :: X.outer) (hf : X.env.frame = some X.env.locals) (hN : X.N.Nodup) (hi : X.N[i]? = some n) (hln : X.env.kindOf n = some .local) (hc : Names X x (.ref (G.cl k))) (tk : Takes X W) (hsub : ∀ j b, sub j k = some b → PySem.W.exmOne X.K (.ref (G.cl j)) (.ref (G.cl k)) = some b ∧ ExcC X.K (G.cl j))
    (hb : ∀ (W : WX) (pn : List (Addr × Obj)) (xe : Value → Shared → Prop), Takes (X.tr pn xe) W → PassesOwn (model X.prog X.w) X.A X.env xe → PSs (X.tr pn xe) body (dS G W bd))
    (hsu : ∀ (a : Addr) (oe : Obj) (j : Nat) (pn : List (Addr × Obj)), Zc (.ref (G.cl j)) none oe → (∃ vs, oe.data = .fields vs) → ExcC X.K (G.cl j) → PSs (X.suite a ((a, oe) :: pn)) (b₀ :: suite) (dS (G.with (some (a, j))) NoW hd)) :
    PS X (.Try body [.ExceptHandler (some (.Name x np)) (some n) (b₀ :: suite) pos'] [] [] pos) (dS G W fun ρ S => tryF sub k (bd ρ S) fun j ρ1 S1 => rtOnly S1 (hd (ρ1.set i (some (.exc j))) S1)) := by
  let ts : Addr → Value → Option Addr → TS := fun a cls d => fun D σ H => ∃ j, cls = .ref (G.cl j) ∧ d = none ∧ ExcC X.K (G.cl j) ∧ dS (G.with (some (a, j))) NoW hd D σ H
  refine (ps_try_as hs hf hN hi hln hc tk (tb := fun W => dS G W bd) (ts := ts) hb fun a oe cls d pn z f => ⟨fun pins s σ H D I hq => ?_⟩).weak fun D σ H ⟨ρ, S, μ, hE, hS, h⟩ => ⟨ρ, S, μ, hE, hS, ?_⟩
  · obtain ⟨j, rfl, rfl, q, r⟩ := hq
    exact (hsu a oe j pn z f q).run pins s σ H D I r
  dsimp only at h
  unfold tryF at h
  cases e : bd ρ S with
  | er j ρ1 S1 =>
    rw [e] at h
    intro σ1 H1 μ1 l1 s1 g1
    dsimp only at h
    cases e2 : sub j k with
    | none => rw [e2] at h; exact False.elim h
    | some bb =>
      rw [e2] at h
      obtain ⟨q1, q2⟩ := hsub j bb e2
      refine ⟨bb, q1, fun z a ha => ?_, fun z => ?_⟩
      · subst z
        refine ⟨j, rfl, rfl, q2, ρ1.set i (some (.exc j)), S1, μ1, (RelE.put h0 g1).set ⟨a, rfl, rfl⟩, RelS.put h0 s1, ?_⟩
        dsimp only [noEr, rtOnly] at h
        cases e3 : hd (ρ1.set i (some (.exc j))) S1 with
        | rt d S2 =>
          rw [e3] at h
          dsimp only at h
          by_cases w : SB.D.noE d ∧ S2 = S1
          · rw [if_pos w] at h
            obtain ⟨w1, rfl⟩ := w
            exact fun v H2 μ2 l2 s2 r2 => h v H2 μ2 (l1.trans l2) (RelS.dropE h0 s1 s2) (Rep.drop d v w1 r2)
          · rw [if_neg w] at h; exact False.elim h
        | er _ _ _ => rw [e3] at h; exact False.elim h
        | nx _ _ => rw [e3] at h; exact False.elim h
        | bk _ _ => rw [e3] at h; exact False.elim h
        | ct _ _ => rw [e3] at h; exact False.elim h
        | bad => rw [e3] at h; exact False.elim h
      · subst z
        exact h σ1 H1 μ1 l1 s1 g1
  | nx ρ4 S4 => rw [e] at h; exact h
  | bk ρ4 S4 => rw [e] at h; exact h
  | ct ρ4 S4 => rw [e] at h; exact h
  | rt ρ4 S4 => rw [e] at h; exact h
  | bad => rw [e] at h; exact h
/-- del o[i] -/
theorem ss_del (ho : PE X a (dE G W eva)) (hi : PE X b (dE G W evb)) : PS X (.Delete [.Subscript a b p] pos) (dS G W fun ρ S => (eva ρ S).flow ρ fun x S1 => (evb ρ S1).flow ρ fun y S2 => (delD x y S2).flow ρ fun _ S3 => .nx ρ S3) := by
  refine (ps_ddel ho hi).weak fun D σ H ⟨ρ, S, μ, hE, hS, h⟩ => ?_
  refine ⟨ρ, S, μ, hE, hS, flow_step h hE fun x S1 v H1 μ1 l1 s1 q1 h1 => ?_⟩
  refine ⟨ρ, S1, μ1, hE.later l1, s1, flow_step h1 (hE.later l1) fun y S2 w H2 μ2 l2 s2 q2 h2 => ?_⟩
  have q1' := q1.later l2
  cases x with
  | ref n =>
    obtain ⟨a', rfl, ha'⟩ := q1'
    dsimp only [delD] at h2
    split at h2
    · rename_i kvs k e1 e2
      obtain ⟨a2, f1, ws, f2, f3, r, z⟩ := s2.at e1
      rw [ha'] at f1; cases f1
      have := key_rep q2 e2
      subst this
      by_cases c : (valD kvs k).isSome = true
      · rw [if_pos c] at h2
        refine ⟨a', ws, k, rfl, f2, rfl, ?_, ?_⟩
        · obtain ⟨d, hd⟩ := Option.isSome_iff_exists.mp c
          obtain ⟨u, hu, _⟩ := (val_rep k f3 r).1 d hd
          rw [hu]; rfl
        · have l : Later H2 μ2 (upd H2 a' (.dK (dropK ws k))) μ2 := Later.write s2 ha'
          obtain ⟨p1, p2⟩ := drop_rep k f3 r
          exact h2 σ _ μ2 l (s2.write ha' ⟨_, upd_same, p1, RepL.later l _ _ p2, Nat.le_trans drop_len z⟩) (hE.later ((l1.trans l2).trans l))
      · rw [if_neg c] at h2; exact False.elim h2
    · exact False.elim h2
  | _ => exact False.elim h2
/-- isinstance(e, C) in a suite -/
theorem sE_isE {T : Str} {p2 : Pos} {aq : Addr} {jq : Nat} (hex : G.ex = some (aq, jq)) (hr : CallR X (.builtin "isinstance") (rIsE X.K (G.cl jq) aq)) (hg : Gl X "isinstance") (hm : X.mg "isinstance" = none) (ha : PE X a (dE G W eva)) (hT : PE X (.Name T p2) (tC (.ref (G.cl k))))
    (he : starEach [a, .Name T p2] X.env = (false, eval a X.env) :: starEach [.Name T p2] X.env) (hsub : ∀ b, sub jq k = some b → PySem.W.kitOne X.K (.ref (G.cl jq)) (.ref (G.cl k)) = some b) :
    PE X (.Call (.Name "isinstance" p) [a, .Name T p2] [] pos) (dE G W fun ρ S => (eva ρ S).bind (excD sub k)) := by
  have hA : PA X [a, .Name T p2] (tCons (dE G W eva) (tCons (tC (.ref (G.cl k))) tNil)) := pa_cons ha (pa_cons hT pa_nil rfl) he
  refine (pe_callB hr hg hm boot_isinstance hA (by decide) (by decide) he rfl).weak fun σ H Q ⟨ρ, S, μ, hE, hS, h⟩ => ?_
  refine ⟨ρ, S, μ, hE, hS, h.step fun x S1 v H1 μ1 l1 s1 q1 h1 => ?_⟩
  cases x with
  | exc j =>
    obtain ⟨a', rfl, e2⟩ := q1
    rw [hex] at e2; cases e2
    dsimp only [excD] at h1
    cases e3 : sub jq k with
    | none => rw [e3] at h1; exact False.elim h1
    | some b =>
      rw [e3] at h1
      exact ⟨.ref (G.cl k), .ref (G.cl k), b, rfl, fun u r => r, hsub b e3, Run.now h1 s1 rfl⟩
  | _ => exact False.elim h1
end
end
end SB

/-! an own def that a suite calls with the error in hand -/
namespace SB
open PySem PySem.Spec PyProof.Rows L2
open Classical
/-- isinstance(e, C), e's object pinned -/
theorem isE_pin {X : Cx} {a D : Addr} {oe : Obj} (hp : (a, oe) ∈ X.pn) (C : ExcC X.K D) (hz : Zc (.ref D) none oe) (hf : ∃ vs, oe.data = .fields vs) : CallR X (.builtin "isinstance") (rIsE X.K D a) := by
  intro ps s σ H xs us Q I rv hh
  obtain ⟨cc, cv, b, exs, hcv, ek, qq⟩ := hh
  subst exs
  cases rv with
  | cons r0 rv =>
    cases rv with
    | cons r1 rv =>
      cases rv
      cases r0
      cases hcv _ r1
      have got := (I.pin (a, oe) (List.mem_append_left _ hp)).1
      obtain ⟨vs, hv⟩ := hf
      obtain ⟨oc, od, dt, sl⟩ := oe
      have e1 : oc = Value.ref D := hz.1
      have e2 : od = none := hz.2
      have e3 : dt = Data.fields vs := hv
      subst e1 e2 e3
      have at_ : PySem.W.InstAt s.heap a ⟨.ref D, none, .fields vs, sl⟩ D none := ⟨got, rfl, rfl, trivial⟩
      have kx := PySem.W.handS_kitx_exc (x := a) (ox := ⟨.ref D, none, .fields vs, sl⟩) C.hg C.hk C.hs C.hd C.ha C.hn C.ht C.hm
      exact PySem.W.kia_one kx I.kIn at_ ek (fun z => nomatch z) fun k => ⟨V.bl b, H, I.kept (t' := k) (fun _ _ w => w), rfl, qq⟩
/-- what the def's answer is -/
def spH (G : Pl) (a : Addr) (z : Str) : List V → Hp → VK → Prop := fun vs H Q => vs = [.ref a] ∧ ∃ μ S, RelS G H μ S ∧ ∀ H' μ', Later H μ H' μ' → RelS G H' μ' S → Q (.str z) H'
theorem call_hot {X : Cx} {x qual y : Str} {st : Stmt} {f a : Addr} {fd : FuncData} {N : List Str} {oe : Obj} {z : Str} {G : Pl} (Fn : Fun X.K x qual st f fd) (sc : FnScope N [y] (defScope st)) (hb : Binds X.K fd [y] []) (hp : (a, oe) ∈ X.pn) (dp : X.A.depth < recursionLimit)
    (hbody : ∀ (cdv : Value) (s : Shared) (H : Hp) (E : XK) (Q : VK), spH G a z [.ref a] H Q →
      ∃ t, PSs (L2H.cxH (L2.CX X.prog X.w) X.prog X.w X.K X.mg X.base N qual (defScope st) f cdv X.A X.stack s H E (a, oe)) (defBody st) t ∧ t { nx := fun _ H' => Q .non H', rt := Q } (L2.start N [.ref a]) H) :
    CallR X (.ref f) (spH G a z) := by
  intro ps s σ H xs us Q I rv hh
  obtain ⟨exs, hh2⟩ := id hh
  subst exs
  cases rv with
  | cons r0 rv =>
  cases rv
  rename_i u0
  have bd := hb s [u0] I.kIn rfl
  rw [List.append_nil] at bd
  have pi := I.pin (a, oe) (List.mem_append_left _ hp)
  have po : L2H.PinOk X.stack H s (a, oe) := ⟨pi.1, pi.2.1, fun m => by
    rcases List.mem_cons.mp (I.stkSub a m) with q | q
    · exact pi.2.2.1 q
    · exact pi.2.2.2.1 q, pi.2.2.2.2⟩
  have e0 := I.env0
  obtain ⟨oc, od, kV, doc, pm, an, cdv, ct, osl, efd, lk, hcd⟩ := Fn.ex
  subst efd
  have kx : X.K.In s.heap := I.kIn
  have nl : s.heap.NoLimit := e0.mod.nolimit.keeps fun b o q => (e0.bs b o q).1
  have kinds : ∀ w ∈ [y].zip [u0], (defScope st).names.lookup w.1 = some .local ∨ ((defScope st).names.lookup w.1 = some .cell ∧ ((cellsFrom (s.heap.objs.size + 1) (defScope st).names []).lookup w.1).isSome = true) := fun w hw => by
    have := (List.of_mem_zip hw).1
    rcases sc.par w.1 this with q | q
    · left; exact q
    · right; exact ⟨q, PySem.W.cellsFrom_some _ _ _ (.inl q)⟩
  obtain ⟨t, ht, hq⟩ := hbody cdv s H (fun _ _ _ => False) Q hh
  have goal : codeAny (model X.prog X.w) X.A (.call (.ref f) ⟨[u0], []⟩) (CR (L2.CX X.prog X.w) X.stack X.prog X.w H s Q fun _ _ _ => False) s := by
    refine (codeAny_call_function dp (kx _ _ lk) rfl sc.co sc.gen rfl (PySem.W.codeRec_of kx hcd) (bd _ _ _ _ ?_))
    refine wpAny_newFunctionEnv_cells sc.kind kinds fun ev he s1 hx => ?_
    cases he
    refine ⟨nl.keeps hx.toInCall.keep, codeAny_func ?_⟩
    have J := L2H.inv_startH (CX := L2.CX X.prog X.w) (E := fun _ _ _ => False) (cd := cdv) sc po e0 rfl (.cons r0 .nil) hx
    refine wpAny_mono (ht.run [] s1 _ H _ J hq) (fun fl s2 h2 => ?_) (fun _ _ w => w)
    cases fl with
    | ret u =>
      obtain ⟨v, σ2, H2, J2, r2, q2⟩ := h2
      exact ⟨v, H2, J2.os, J2.bare, J2.base, J2.hok, r2, q2⟩
    | next =>
      obtain ⟨σ2, H2, J2, q2⟩ := h2
      exact ⟨V.non, H2, J2.os, J2.bare, J2.base, J2.hok, rfl, q2⟩
    | brk => exact (show False from h2.elim fun _ q => q.elim fun _ q => q.2).elim
    | cont => exact (show False from h2.elim fun _ q => q.elim fun _ q => q.2).elim
  refine wpAny_call (codeAny_mono goal fun r s2 h2 => ?_)
  cases r with
  | error e =>
    obtain ⟨_, _, _, _, _, _, _, _, _, _, _, _, w⟩ := h2
    exact w.elim
  | ok fl => cases fl with
    | ret u => exact I.after h2
    | next => exact h2.elim
    | brk => exact h2.elim
    | cont => exact h2.elim
/-- the call in a suite -/
theorem sE_hot {X : Cx} {G : Pl} {W : WX} {f a : Addr} {j i : Nat} {x : Str} {p pos : Pos} {e : PySem.Expr} {eva : En → Sto → R D} {c : Cfg} {eh : E} (hex : G.ex = some (a, j)) (hi : c.hot i = some eh) (hg : Gl X x) (hdb : (x == ("__debug__" : Str)) = false) (hm : X.mg x = some (.ref f)) (hk : PySem.W.keepIn X.K (.ref f) = true)
    (hr : ∀ z, evH c.sub eh (.exc j) = some (.str z) → CallR X (.ref f) (spH G a z)) (hs : ∀ d, evH c.sub eh (.exc j) = some d → ∃ z, d = .str z) (ha : PE X e (dE G W eva)) (he : starEach [e] X.env = [(false, eval e X.env)]) :
    PE X (.Call (.Name x p) [e] [] pos) (dE G W fun ρ S => (eva ρ S).bind fun v S1 => hotD c i v S1) := by
  refine ⟨fun pins s σ H Q I ⟨ρ, S, μ, hE, hS, h⟩ => ?_⟩
  refine wpAny_Call_Name_kw (ld_glob I hg hm ?_ hdb)
  have hA : PA X [e] (tCons (dE G W eva) tNil) := pa_cons ha pa_nil he
  have q : tCons (dE G W eva) tNil σ H fun vs H1 => ∃ z, evH c.sub eh (.exc j) = some (.str z) ∧ spH G a z vs H1 Q := by
    refine ⟨ρ, S, μ, hE, hS, h.step fun v S1 w H1 μ1 l1 s1 q1 h1 => ?_⟩
    cases v with
    | exc j' =>
      obtain ⟨a', rfl, e2⟩ := q1
      rw [hex] at e2
      cases e2
      dsimp only [hotD] at h1
      rw [hi] at h1
      dsimp only at h1
      cases ev : evH c.sub eh (.exc j) with
      | none => rw [ev] at h1; exact False.elim h1
      | some d =>
        obtain ⟨z, rfl⟩ := hs d ev
        rw [ev] at h1
        exact ⟨z, rfl, rfl, μ1, S1, s1, fun H2 μ2 l2 s2 => h1 (.str z) H2 μ2 l2 s2 rfl⟩
    | _ => exact False.elim h1
  refine PySem.W.callWith_K (h₀ := X.base) I.ok.mod.kin hk (thn (hA.run pos pins s σ H _ I q) fun us s1 ⟨vs, H1, I1, r1, z, ez, q1⟩ => ⟨I1.kIn, ?_⟩) he rfl
  exact hr z ez pins s1 σ H1 vs us Q I1 r1 q1
end SB

/-! instances: fields, methods, new ones -/
namespace SB
open PySem PySem.Spec PyProof.Rows L2
open Classical
section
variable {G : Pl} {H : Hp} {μ : List Addr}
theorem fld_rep {f : Str} : ∀ {fs : List (Str × D)} {ws : List (Str × V)}, ws.map (·.1) = fs.map (·.1) → RepL G H μ (fs.map (·.2)) (ws.map (·.2)) → (∀ d, fs.lookup f = some d → ∃ w, ws.lookup f = some w ∧ Rep G H μ d w) ∧ (fs.lookup f = none → ws.lookup f = none)
  | [], [], _, _ => ⟨fun d h => (by cases h), fun _ => rfl⟩
  | [], _ :: _, h, _ => by cases h
  | _ :: _, [], h, _ => by cases h
  | (g, x) :: fs, (g', y) :: ws, h, r => by
    obtain ⟨w, us, e, r1, r2⟩ := r
    injection e with e1 e2
    injection h with h1 h2
    have e1 : y = w := e1
    have h1 : g' = g := h1
    subst e1 h1
    rw [← e2] at r2
    obtain ⟨i1, i2⟩ := fld_rep (f := f) h2 r2
    rw [List.lookup_cons, List.lookup_cons]
    cases f == g' with
    | true => exact ⟨fun d h => (by cases h; exact ⟨y, rfl, r1⟩), fun h => (by cases h)⟩
    | false => exact ⟨i1, i2⟩
theorem putF_rep {f : Str} {d : D} {v : V} (q : Rep G H μ d v) : ∀ {fs : List (Str × D)} {ws : List (Str × V)}, ws.map (·.1) = fs.map (·.1) → RepL G H μ (fs.map (·.2)) (ws.map (·.2)) →
    (putF f v ws).map (·.1) = (putFD f d fs).map (·.1) ∧ RepL G H μ ((putFD f d fs).map (·.2)) ((putF f v ws).map (·.2)) ∧ (putFD f d fs).length ≤ fs.length + 1
  | [], [], _, _ => ⟨rfl, ⟨v, [], rfl, q, rfl⟩, by simp [putFD]⟩
  | [], _ :: _, h, _ => by cases h
  | _ :: _, [], h, _ => by cases h
  | (g, x) :: fs, (g', y) :: ws, h, r => by
    obtain ⟨w, us, e, r1, r2⟩ := r
    injection e with e1 e2
    injection h with h1 h2
    have e1 : y = w := e1
    have h1 : g' = g := h1
    subst e1 h1
    rw [← e2] at r2
    unfold putF putFD
    by_cases c : g' = f
    · rw [if_pos c, if_pos c]
      exact ⟨by simpa using h2, ⟨v, _, rfl, q, r2⟩, by simp⟩
    · rw [if_neg c, if_neg c]
      obtain ⟨i1, i2, i3⟩ := putF_rep (f := f) q h2 r2
      exact ⟨by simpa using i1, ⟨y, _, rfl, r1, i2⟩, by simpa using i3⟩
end
section
variable {X : Cx} {G : Pl} {W : WX} {a b c e o : PySem.Expr} {es : List PySem.Expr} {pos pos' apos p : Pos} {eva evb evc : En → Sto → R D} {evs : En → Sto → R (List D)} {x f m : Str}
theorem sE_fld {t : Nat → Str → Bool} (hT : ∀ C, t C f = true → Cls X.K (G.cl C) ∧ NoAttr X.K (G.cl C) f) (ha : PE X a (dE G W eva)) (hb : attributeBase a f X.env (eval a X.env) = eval a X.env) : PE X (.Attribute a f pos) (dE G W fun ρ S => (eva ρ S).bind (fldD t f)) := by
  refine (pe_fld ha hb).weak fun σ H Q ⟨ρ, S, μ, hE, hS, h⟩ => ?_
  refine ⟨ρ, S, μ, hE, hS, h.step fun x S1 v H1 μ1 l1 s1 q1 h1 => ?_⟩
  cases x with
  | ref n =>
    obtain ⟨a', rfl, ha'⟩ := q1
    unfold fldD insAt at h1
    dsimp only at h1
    cases e1 : S1[n]? with
    | none => rw [e1] at h1; exact False.elim h1
    | some ob =>
      rw [e1] at h1
      cases ob with
      | ins C fs =>
        dsimp only at h1
        by_cases ht : t C f = true
        · rw [if_pos ht] at h1
          obtain ⟨c1, c2⟩ := hT C ht
          cases e2 : fs.lookup f with
          | none => rw [e2] at h1; exact False.elim h1
          | some d =>
            rw [e2] at h1
            obtain ⟨a2, f1, dx, ws, f2, f3, r, z⟩ := s1.at e1
            rw [ha'] at f1; cases f1
            obtain ⟨w, hw, rw'⟩ := (fld_rep (f := f) f3 r).1 d e2
            exact ⟨a', G.cl C, dx, ws, w, rfl, f2, c1, c2, hw, Run.now h1 s1 rw'⟩
        · rw [if_neg ht] at h1; exact False.elim h1
      | _ => exact False.elim h1
  | _ => exact False.elim h1
theorem ss_fld {t : Nat → Str → Bool} (hT : ∀ C, t C f = true → Cls X.K (G.cl C) ∧ NoAttr X.K (G.cl C) f) (ha : PE X a (dE G NoW eva)) (hb : PE X b (dE G W evb)) (hs : swapsWith b (some (.Attribute a f pos')) pos.line X.env = pure false) :
    PS X (.Assign [.Attribute a f pos'] b pos) (dS G W fun ρ S => (evb ρ S).flow ρ fun d S1 => R.calm ((eva ρ S1).bind fun x S2 => setFD t x f d ρ S2) fun ρ2 S2 => .nx ρ2 S2) := by
  refine (ps_fld ha hb hs).weak fun D σ H ⟨ρ, S, μ, hE, hS, h⟩ => ?_
  refine ⟨ρ, S, μ, hE, hS, flow_step h hE fun d S1 v H1 μ1 l1 s1 q1 h1 => ?_⟩
  have hE1 := hE.later l1
  refine ⟨ρ, S1, μ1, hE1, s1, ?_⟩
  cases e0 : eva ρ S1 with
  | bad => rw [e0] at h1; exact False.elim h1
  | err _ _ => rw [e0] at h1; exact False.elim h1
  | ok x S2 =>
    rw [e0, R.bind_ok] at h1
    intro w H2 μ2 l2 s2 q2
    have q1' := q1.later l2
    cases x with
    | ref n =>
      obtain ⟨a', rfl, ha'⟩ := q2
      unfold setFD at h1
      dsimp only at h1
      cases e1 : S2[n]? with
      | none => rw [e1] at h1; exact False.elim h1
      | some ob =>
        rw [e1] at h1
        cases ob with
        | ins C fs =>
          dsimp only at h1
          by_cases ht : t C f = true ∧ fs.length < 1000
          · rw [if_pos ht] at h1
            obtain ⟨c1, c2⟩ := hT C ht.1
            obtain ⟨a2, f1, dx, ws, f2, f3, r, z⟩ := s2.at e1
            rw [ha'] at f1; cases f1
            have hl : ws.length < 1000 := by
              have := congrArg List.length f3
              rw [List.length_map, List.length_map] at this
              omega
            have l : Later H2 μ2 (upd H2 a' (.ins (G.cl C) dx (putF f v ws))) μ2 := Later.write s2 ha'
            obtain ⟨p1, p2, p3⟩ := putF_rep (f := f) q1' f3 r
            refine ⟨a', G.cl C, dx, ws, rfl, f2, c1, c2, hl, ?_⟩
            exact h1 σ _ μ2 (l2.trans l) (s2.write ha' ⟨dx, _, upd_same, p1, RepL.later l _ _ p2, by omega⟩) (hE1.later (l2.trans l))
          · rw [if_neg ht] at h1; exact False.elim h1
        | _ => exact False.elim h1
    | _ => exact False.elim h1
end
end SB
namespace SB
open PySem PySem.Spec PyProof.Rows L2
open Classical
def isStarE : PySem.Expr → Bool | .Starred _ _ => true | _ => false
/-- a method call's tree, when nothing is starred -/
theorem all_back {env : PySem.Env} {pos : Pos} : ∀ {es : List PySem.Expr}, es.all (fun e => !isStarE e) = true → (backTo pos (starEach es env)).all (fun x => !x.1) = true
  | [], _ => rfl
  | e :: es, h => by
    rw [List.all_cons, Bool.and_eq_true] at h
    have ih := all_back (env := env) (pos := pos) h.2
    have h1 : isStarE e = false := by simpa using h.1
    have e1 : starEach (e :: es) env = (false, eval e env) :: starEach es env := by
      cases e <;> first | rfl | cases h1
    rw [e1]
    show (!false && (backTo pos (starEach es env)).all (fun x => !x.1)) = true
    rw [ih]; rfl
/-- what a method's class and def promise -/
def MethR (X : Cx) (G : Pl) (k : Nat) (ev : Nat → List D → Sto → R D) (pf : Nat → Option Nat) (C : Nat) (m : Str) (i : Nat) : Prop :=
  ∃ (f : Addr) (fd : FuncData) (ps : List Str) (n : Nat), Cls X.K (G.cl C) ∧ Meth X.K (G.cl C) m f ∧ Binds X.K fd ps [] ∧ FnOk X.prog X.w X.K X.mg X.base (L2.CX X.prog X.w) k f fd ps (spF G (ev i) n) ∧ ∀ ds S, ds.length ≠ n → ev i ds S = .bad
section
variable {X : Cx} {G : Pl} {W : WX} {a b c e o : PySem.Expr} {es : List PySem.Expr} {pos pos' apos p : Pos} {eva evb evc : En → Sto → R D} {evs : En → Sto → R (List D)} {x f m : Str}
theorem call_eq {env : PySem.Env} (hb : attributeBase o m env (eval o env) = eval o env) (hst : es.all (fun e => !isStarE e) = true) (hn : es.length < 30) (hline : (apos.endLine == pos.line) = true) :
    eval (.Call (.Attribute o m apos) es [] pos) env = (do
      let ov ← eval o env
      standAt apos.atName
      let (f, first) ← holding [ov] (getMethod ov m (do return (← importBound o env).getD true))
      callWith pos f first (backTo pos (starEach es env)) (backToKw pos (keywordEach [] env))) := by
  have h1 : methodCallForm (es.length + ([] : List Keyword).length) (backTo pos (starEach es env)) (backToKw pos (keywordEach [] env)) = true := by
    unfold methodCallForm
    rw [all_back hst]
    simp only [Bool.true_and, Bool.and_eq_true, decide_eq_true_eq]
    exact ⟨rfl, by show es.length + 0 + 0 < 30; omega⟩
  have h0 : eval (.Call (.Attribute o m apos) es [] pos) env = (do
      let ov ← attributeBase o m env (eval o env)
      standAt apos.atName
      methodCall o m apos pos env ov (es.length + ([] : List Keyword).length) (backTo pos (starEach es env)) (backToKw pos (keywordEach [] env))) := rfl
  rw [h0, hb]
  unfold methodCall calleeOf methodCallPos
  rw [h1]
  simp only [hline, Bool.not_true, Bool.false_or, if_true, pure_bind, bind_assoc]
theorem sE_meth {k : Nat} {ev : Nat → List D → Sto → R D} {pf : Nat → Option Nat} {t : Nat → Str → Option Nat} (hM : ∀ C i, t C m = some i → MethR X G k ev pf C m i) (hr : Room k X.A) (tk : Takes X W)
    (ho : PE X o (dE G W eva)) (ha : PA X es (dA G W evs)) (hb : attributeBase o m X.env (eval o X.env) = eval o X.env) (hst : es.all (fun e => !isStarE e) = true) (hn : es.length < 30) (hline : (apos.endLine == pos.line) = true)
    (hpl : (backTo pos (starEach es X.env)).any (·.1) = false) (hnil : es = [] → evs = fun _ S => .ok [] S) :
    PE X (.Call (.Attribute o m apos) es [] pos) (dE G W fun ρ S => (eva ρ S).bind fun x S1 => (methD t m x S1).bind fun f S1 => (evs ρ S1).bind fun xs S2 => ev f (x :: xs) S2) := by
  refine ⟨fun pins s σ H Q I h => ?_⟩
  obtain ⟨ρ, S, μ, hE, hS, h⟩ := h
  refine PySem.W.methodCall_KW (pl := (do return (← importBound o X.env).getD true)) (thn (ho.run pins s σ H (fun v H1 => ∃ (C i : Nat) (a dx : Addr) (fs : List (Str × V)) (q : MethR X G k ev pf C m i) , v = .ref a ∧ H1 a = some (.ins (G.cl C) dx fs) ∧ fs.lookup m = none ∧
      dA G W evs σ H1 fun vs H2 => spF G (ev i) (vs.length + 1) (.ref a :: vs) H2 Q (WE W σ)) I ?_) fun u s1 ⟨x, H1, I1, rx, C, i, a, dx, fs, hq, ex, ea, l, q⟩ => ?_) (call_eq hb hst hn hline)
  · refine ⟨ρ, S, μ, hE, hS, h.step fun x S1 v H1 μ1 l1 s1 q1 h1 => ?_⟩
    cases x with
    | ref n =>
      obtain ⟨a', rfl, ha'⟩ := id q1
      unfold methD insAt at h1
      dsimp only at h1
      cases e1 : S1[n]? with
      | none => rw [e1] at h1; exact False.elim h1
      | some ob =>
        rw [e1] at h1
        cases ob with
        | ins C fs =>
          dsimp only at h1
          cases e2 : fs.lookup m with
          | some d => rw [e2] at h1; exact False.elim h1
          | none =>
            rw [e2] at h1
            cases e3 : t C m with
            | none => rw [e3] at h1; exact False.elim h1
            | some i =>
              rw [e3] at h1
              dsimp only at h1
              rw [R.bind_ok] at h1
              obtain ⟨a2, f1, dx, ws, f2, f3, r, z⟩ := s1.at e1
              rw [ha'] at f1; cases f1
              have lw := (fld_rep (f := m) f3 r).2 e2
              refine ⟨C, i, a', dx, ws, hM C i e3, rfl, f2, lw, ρ, S1, μ1, hE.later l1, s1, h1.step fun xs S2 vs H2 μ2 l2 s2 q2 h2 => ?_⟩
              refine ⟨rfl, μ2, S2, .ref n :: xs, s2, ⟨.ref a', vs, rfl, q1.later l2, q2⟩, ?_⟩
              cases e0 : ev i (.ref n :: xs) S2 with
              | ok d S2 => rw [e0] at h2; exact h2
              | err c S2 => rw [e0] at h2; exact h2
              | bad => rw [e0] at h2; exact h2
        | _ => exact False.elim h1
    | _ => exact False.elim h1
  · subst ex
    obtain rfl : u = Value.ref a := rx
    obtain ⟨f, fd, ps, n, hc, hm, hbd, F, hlen⟩ := hq
    refine getmeth_ok I1 ea hc hm l ?_
    have fin : ∀ {us : List Value} {vs : List V} {H2 : Hp} {s2 : Shared}, Inv X pins σ H2 s2 → Vals vs us → spF G (ev i) (vs.length + 1) (.ref a :: vs) H2 Q (WE W σ) → wpAny (model X.prog X.w) X.A (call (.ref f) (.ref a :: us)) (EP X pins σ Q) X.xe s2 := fun {us vs H2 s2} I2 r q2 => by
      refine run_fnS F hr hbd (passAt tk σ) I2 (vs := .ref a :: vs) (us := .ref a :: us) (.cons rfl r) ?_
      obtain ⟨_, μ', S', ds, hS', hd, hrun⟩ := q2
      refine ⟨?_, μ', S', ds, hS', hd, hrun⟩
      by_cases z : ds.length = n
      · rw [← RepL.len hd]; exact z
      · rw [hlen ds S' z] at hrun; exact False.elim hrun
    cases es with
    | nil =>
      rw [hnil rfl] at q
      obtain ⟨ρ2, S2, μ2, _, hS2, h2⟩ := q
      have q2 := Run.now h2 hS2 (b := []) rfl
      exact PySem.W.callWith_K0 (first := [.ref a]) I1.kIn hm.kp (fin I1 .nil q2)
    | cons e es =>
      have hs1 : starEach (e :: es) X.env = (false, eval e X.env) :: starEach es X.env := by
        rw [List.all_cons, Bool.and_eq_true] at hst
        have h1 : isStarE e = false := by simpa using hst.1
        cases e <;> first | rfl | cases h1
      refine PySem.W.callWith_K (first := [.ref a]) (h₀ := X.base) I1.ok.mod.kin hm.kp (thn (ha.run pos pins s1 σ H1 _ I1 q) fun us s2 ⟨vs, H2, I2, r, q2⟩ => ⟨I2.kIn, ?_⟩) hs1 (by rw [hs1] at hpl; simpa [backTo] using hpl)
      exact fin I2 r q2
/-- a class that can be called -/
def MakeR (X : Cx) (G : Pl) (k : Nat) (ev1 : Nat → List D → Sto → R D) (C i : Nat) : Prop :=
  (∃ (f : Addr) (fd : FuncData) (ps : List Str), Mk X.K (G.cl C) f ∧ Binds X.K fd ps [] ∧ (∀ k', k = k' + 1 → ∃ n, FnOk X.prog X.w X.K X.mg X.base (L2.CX X.prog X.w) k' f fd ps (spF G (ev1 i) n) ∧ ∀ ds S, ds.length ≠ n → ev1 i ds S = .bad)) ∧ (k = 0 → ∀ ds S, ev1 i ds S = .bad)
theorem run_makeS {CX : CXT} {k : Nat} {f C : Addr} {fd : FuncData} {ps : List Str} {sp : Sp} {E : L2.St → XK} {pins : List (Addr × Obj)} {σ : L2.St} {H : Hp} {s : Shared} {Q : VK} {us : List Value} {vs : List V} (M : Mk X.K C f) (F : FnOk X.prog X.w X.K X.mg X.base CX k f fd ps sp) (hr : Room (k + 1) X.A) (hb : Binds X.K fd ps [])
    (hx : PassesAt CX X σ (E σ)) (I : Inv X pins σ H s) (r : Vals vs us)
    (h : ∀ x dx, H x = none → H dx = none → dx ≠ x → sp (.ref x :: vs) (upd (upd H dx (.own x)) x (.ins C dx [])) (fun v H2 => v = .non ∧ Q (.ref x) H2) (E σ)) :
    wpAny (model X.prog X.w) X.A (call (.ref C) us) (EP X pins σ Q) X.xe s := by
  have hq := h (s.heap.objs.size + 1) s.heap.objs.size (I.hok.fresh (Nat.le_succ _)) (I.hok.fresh (Nat.le_refl _)) (Nat.ne_of_lt (Nat.lt_succ_self _))
  have I2 := Inv.made (C := C) I
  have r2 : Vals (V.ref (s.heap.objs.size + 1) :: vs) (Value.ref (s.heap.objs.size + 1) :: us) := .cons rfl r
  have hl : (Value.ref (s.heap.objs.size + 1) :: us).length = ps.length := by
    have e := r2.length
    rw [F.len _ _ _ _ hq] at e
    exact e.symm
  have b := hb _ (Value.ref (s.heap.objs.size + 1) :: us) I2.kIn (by rw [List.append_nil]; exact hl)
  rw [List.append_nil] at b
  refine wpAny_call (make_map (f := f) I.kIn M.makes M.init (beq_iff_eq.mp M.fn) (codeAny_mono (F.run _ X.stack _ _ ⟨Value.ref (s.heap.objs.size + 1) :: us, []⟩ (Value.ref (s.heap.objs.size + 1) :: us) _ _ (E σ) (hr.make C us [])
    (I2.env0.make C us []) b r2 hq) fun r s' hq' => ?_))
  cases r with
  | error e => exact hx pins _ _ e s' I2 hq'
  | ok fl =>
    cases fl with
    | ret u =>
      obtain ⟨v, H', I3, rv, ev, q3⟩ := I2.after hq'
      subst ev
      exact ⟨rv, ⟨V.ref (s.heap.objs.size + 1), H', I3, rfl, q3⟩⟩
    | next => exact False.elim hq'
    | brk => exact False.elim hq'
    | cont => exact False.elim hq'
theorem sE_make {k C i : Nat} {ev1 : Nat → List D → Sto → R D} (hM : MakeR X G k ev1 C i) (hr : Room k X.A) (tk : Takes X W) (hg : Gl X x) (hm : X.mg x = some (.ref (G.cl C))) (hdb : (x == ("__debug__" : Str)) = false)
    (ha : PA X es (dA G W evs)) (hst : es.all (fun e => !isStarE e) = true) (hpl : (backTo pos (starEach es X.env)).any (·.1) = false) (hnil : es = [] → evs = fun _ S => .ok [] S) :
    PE X (.Call (.Name x p) es [] pos) (dE G W fun ρ S => (evs ρ S).bind fun xs S1 => (ev1 i (.ref S1.length :: xs) (S1 ++ [.ins C []])).bind fun d S2 => nonD S1.length d S2) := by
  obtain ⟨⟨f, fd, ps, M, hb, hk⟩, h0⟩ := hM
  refine ⟨fun pins s σ H Q I h => ?_⟩
  obtain ⟨ρ, S, μ, hE, hS, h⟩ := h
  -- what the call promises, from what the arguments give
  let T : List V → Hp → Prop := fun vs H1 => ∃ (k' : Nat) (n : Nat), k = k' + 1 ∧ FnOk X.prog X.w X.K X.mg X.base (L2.CX X.prog X.w) k' f fd ps (spF G (ev1 i) n) ∧ ∀ y dx, H1 y = none → H1 dx = none → dx ≠ y → spF G (ev1 i) n (.ref y :: vs) (upd (upd H1 dx (.own y)) y (.ins (G.cl C) dx [])) (fun v H2 => v = .non ∧ Q (.ref y) H2) (WE W σ)
  have main : dA G W evs σ H T := by
    refine ⟨ρ, S, μ, hE, hS, h.step fun xs S1 vs H1 μ1 l1 s1 q1 h1 => ?_⟩
    cases k with
    | zero => rw [h0 rfl] at h1; exact False.elim h1
    | succ k' =>
      obtain ⟨n, F, hlen⟩ := hk k' rfl
      refine ⟨k', n, rfl, F, fun y dx hy hdx hne => ?_⟩
      have hl1 : (upd H1 dx (.own y)) y = none := by rw [upd_ne (Ne.symm hne)]; exact hy
      have L1 : Later H1 μ1 (upd H1 dx (.own y)) μ1 := Later.new hdx
      have L2' : Later (upd H1 dx (.own y)) μ1 (upd (upd H1 dx (.own y)) y (.ins (G.cl C) dx [])) (μ1 ++ [y]) := Later.place hl1
      have L := L1.trans L2'
      have s2 : RelS G (upd (upd H1 dx (.own y)) y (.ins (G.cl C) dx [])) (μ1 ++ [y]) (S1 ++ [.ins C []]) := by
        refine RelS.grow ((s1.new hdx).new hl1) (s1.not_none hy) ⟨dx, [], upd_same, rfl, rfl, Nat.zero_le _⟩
      have ry : Rep G (upd (upd H1 dx (.own y)) y (.ins (G.cl C) dx [])) (μ1 ++ [y]) (.ref S1.length) (.ref y) := ⟨y, rfl, by rw [← s1.len, List.getElem?_append_right (Nat.le_refl _)]; simp⟩
      refine ⟨?_, μ1 ++ [y], S1 ++ [.ins C []], .ref S1.length :: xs, s2, ⟨.ref y, vs, rfl, ry, RepL.later L _ _ q1⟩, ?_⟩
      · by_cases z : (D.ref S1.length :: xs).length = n
        · rw [← z, List.length_cons, List.length_cons, RepL.len q1]
        · rw [hlen _ _ z] at h1; exact False.elim h1
      · cases e0 : ev1 i (.ref S1.length :: xs) (S1 ++ [.ins C []]) with
        | bad => rw [e0] at h1; exact False.elim h1
        | err c S2 =>
          rw [e0] at h1
          exact fun H' μ' l s => h1 H' μ' (L.trans l) s
        | ok d S2 =>
          rw [e0, R.bind_ok] at h1
          cases d with
          | non =>
            intro v H' μ' l s r
            refine ⟨r, ?_⟩
            exact h1 (.ref y) H' μ' (L.trans l) s (ry.later l)
          | _ => exact False.elim h1
  have fin : ∀ {us : List Value} {vs : List V} {H2 : Hp} {s2 : Shared}, Inv X pins σ H2 s2 → Vals vs us → T vs H2 → wpAny (model X.prog X.w) X.A (call (.ref (G.cl C)) us) (EP X pins σ Q) X.xe s2 := fun {us vs H2 s2} I2 r q2 => by
    obtain ⟨k', n, rfl, F, q⟩ := q2
    exact run_makeS (E := WE W) M F hr hb (passAt tk σ) I2 r q
  refine wpAny_Call_Name_kw (ld_glob I hg hm ?_ hdb)
  cases es with
  | nil =>
    rw [hnil rfl] at main
    obtain ⟨ρ2, S2, μ2, _, hS2, h2⟩ := main
    exact PySem.W.callWith_K0 I.kIn M.kp (fin I .nil (Run.now h2 hS2 (b := []) rfl))
  | cons e es =>
    have hs1 : starEach (e :: es) X.env = (false, eval e X.env) :: starEach es X.env := by
      rw [List.all_cons, Bool.and_eq_true] at hst
      have h1 : isStarE e = false := by simpa using hst.1
      cases e <;> first | rfl | cases h1
    refine PySem.W.callWith_K (h₀ := X.base) I.ok.mod.kin M.kp (thn (ha.run pos pins s σ H _ I main) fun us s1 ⟨vs, H1, I1, r, q⟩ => ⟨I1.kIn, ?_⟩) hs1 (by rw [hs1] at hpl; simpa [backTo] using hpl)
    exact fin I1 r q
end
end SB

/-! from the library's trees to the small ones -/
namespace SB
open PySem PySem.Spec PyProof.Rows L2
structure Tab where
  fns : List (Str × Nat)
  consts : List (Str × D)
  clss : List (Str × Nat)
  blt : List Str
  gcd : Bool
  dts : List Nat := []
  mks : List (Str × Nat) := []
  hots : List (Str × Nat) := []
structure Blk where
  N : List Str
  sc : Scope
  fn : Str → Bool
  calm : Bool
  stm : Bool
def idx : List Str → Str → Option Nat
  | [], _ => none
  | y :: ys, x => if y = x then some 0 else (idx ys x).map (· + 1)
theorem idx_get : ∀ {N : List Str} {x : Str} {i : Nat}, idx N x = some i → N[i]? = some x
  | [], _, _, h => by cases h
  | y :: ys, x, i, h => by
    unfold idx at h
    split at h
    · rename_i e; cases h; rw [e]; rfl
    · cases e2 : idx ys x with
      | none => rw [e2] at h; cases h
      | some j => rw [e2] at h; cases h; show ys[j]? = some x; exact idx_get e2
def okn (x : Str) : Bool := !(x == ("__debug__" : Str)) && !(x == ("__classdict__" : Str)) && !(x == ("__name__" : Str))
def isVis (B : Blk) (x : Str) : Bool := match B.sc.names.lookup x with | some .local => true | some .cell => true | some .free => true | _ => false
def isLoc (B : Blk) (x : Str) : Bool := match B.sc.names.lookup x with | some .local => true | some .cell => B.fn x | _ => false
def isGl (B : Blk) (x : Str) : Bool := match B.sc.names.lookup x with | some .globalImplicit => true | _ => false
def isStar : PySem.Expr → Bool | .Starred _ _ => true | _ => false
def isSet : PySem.Expr → Bool | .Set _ _ _ => true | _ => false
def isIf : PySem.Expr → Bool | .IfExp _ _ _ _ => true | _ => false
def isVal : PySem.Expr → Bool | .UnaryOp .Not _ _ => false | .BoolOp _ _ _ => false | .IfExp _ _ _ _ => false | .Compare _ _ _ _ => false | _ => true
def isCall : PySem.Expr → Bool | .Call _ _ _ _ => true | _ => false
def isSlice : PySem.Expr → Bool | .Slice _ _ _ _ => true | _ => false
def isCp : PySem.Expr → Bool | .ListComp _ _ _ _ => true | .SetComp _ _ _ _ => true | .DictComp _ _ _ _ _ => true | _ => false
def sureL (T : Tab) : Nat → PySem.Expr → Bool
  | n + 1, .BinOp a .Add b _ => sureL T n a || sureL T n b
  | _, .List _ _ => true
  | _, .ListComp _ _ _ _ => true
  | _, .BinOp (.List [_] _) .Mult _ _ => true
  | _, .Call (.Name f _) [_] [] _ => (f == ("list" : Str) || f == ("sorted" : Str)) && T.blt.contains f
  | _, _ => false
def opOf : Operator → Option Op
  | .Add => some .add | .Sub => some .sub | .Mult => some .mul | .FloorDiv => some .fdiv | .Mod => some .mod | .Pow => some .pow | _ => none
def cmOf : CmpOp → Option Cm
  | .Eq => some .eq | .NotEq => some .ne | .Lt => some .lt | .LtE => some .le | .Gt => some .gt | .GtE => some .ge | .Is => some .is | .IsNot => some .ns | _ => none
def ownOf (N : List Str) : List (Str × NameKind) → List (Str × Nat)
  | [] => []
  | (x, k) :: r => match k, idx N x with
    | .local, some i => (x, i) :: ownOf N r
    | .cell, some i => (x, i) :: ownOf N r
    | _, _ => ownOf N r
def o2 {α β γ : Type} (f : α → β → γ) (a : Option α) (b : Option β) : Option γ := match a, b with | some x, some y => some (f x y) | _, _ => none
def tyOf (f : Str) : Option Bi := if f = ("int" : Str) then some .isInt else if f = ("bool" : Str) then some .isBool else if f = ("tuple" : Str) then some .isTuple else if f = ("str" : Str) then some .isStr else none
/-- a built-in by its name: with one argument, with two -/
def biOf (B : Blk) (f : Str) : Option Bi :=
  if f = ("len" : Str) then some .len else if f = ("abs" : Str) then some .abs else if f = ("int" : Str) then some .int else if f = ("tuple" : Str) then some .tuple
  else if f = ("any" : Str) then (if B.calm then some .any else none) else if f = ("all" : Str) then (if B.calm then some .all else none)
  else if f = ("max" : Str) then (if B.calm then some .max else none) else if f = ("min" : Str) then (if B.calm then some .min else none) else none
def blOf (B : Blk) (f : Str) : Option Bl :=
  if f = ("len" : Str) then some .len else if f = ("tuple" : Str) then some .tuple
  else if f = ("any" : Str) then (if B.calm then some .any else none) else if f = ("all" : Str) then (if B.calm then some .all else none)
  else if f = ("sum" : Str) then (if B.calm then some .sum else none) else none
/-- the key of a dict: a tuple that is written there is made to be one -/
def tupEs : PySem.Expr → List PySem.Expr | .Tuple es _ _ => es | _ => []
def isTup : PySem.Expr → Bool | .Tuple _ _ _ => true | _ => false
def kyOf (b : PySem.Expr) (f : Option Es) (g : Option E) : Option E := if isTup b = true then f.map .ktp else g
def inBlk (B : Blk) (scope : Scope) : Blk := { N := B.N, sc := relS scope B.sc, fn := fun x => scope.names.lookup x == some .cell, calm := B.calm, stm := false }
section
variable (T : Tab)
mutual
def cE : Nat → Blk → PySem.Expr → Option E
  | 0, _, _ => none
  | n + 1, B, e => match cL n B e with
    | some l => some (.new l)
    | none => match e with
      | .Name x _ => if okn x then (if isVis B x then (idx B.N x).map .var else if isGl B x then (T.consts.lookup x).map .cst else none) else none
      | .Constant (.int i) _ _ => some (.cst (.int i))
      | .Constant (.bool b) _ _ => some (.cst (.bl b))
      | .Constant .none _ _ => some (.cst .non)
      | .Constant (.str s) _ _ => some (.cst (.str s))
      | .BinOp a o b _ => match opOf o with | some p => o2 (.bin p) (cE n B a) (cE n B b) | none => none
      | .UnaryOp .USub a _ => (cE n B a).map .neg
      | .UnaryOp .Not a _ => if isIf a then none else (cE n B a).map .no
      | .BoolOp o es _ => cB n B o es
      | .Compare a [o] [b] _ => match o, b with
        | .Is, .Constant .none _ _ => (cE n B a).map (.isN false)
        | .IsNot, .Constant .none _ _ => (cE n B a).map (.isN true)
        | .In, b => if isSet b then none else o2 (.mem false) (cE n B a) (cE n B b)
        | .NotIn, b => if isSet b then none else o2 (.mem true) (cE n B a) (cE n B b)
        | o, b => match cmOf o with | some p => o2 (.cmp p) (cE n B a) (cE n B b) | none => none
      | .Compare a [o, p] [b, c] _ => match cmOf o, cmOf p, cE n B a with
        | some o', some p', some a' => o2 (fun b' c' => .chn o' p' a' b' c') (cE n B b) (cE n B c)
        | _, _, _ => none
      | .IfExp t a b _ => if isIf t then none else match cE n B t with | some t' => o2 (.ite t') (cE n B a) (cE n B b) | none => none
      | .Tuple es _ _ => (cEs n B es).map .tup
      | .Subscript a (.Slice lo hi none _) _ => match cE n B a with | some a' => o2 (.sl a') (cO n B lo) (cO n B hi) | none => none
      | .Subscript a (.Slice none none (some (.UnaryOp .USub (.Constant (.int 1) _ _) _)) _) _ => (cE n B a).map .rev
      | .Subscript a (.Slice _ _ (some _) _) _ => none
      | .Subscript a b _ => o2 .ix (cE n B a) (kyOf b (cEs n B (tupEs b)) (cE n B b))
      | .Call (.Name f _) args [] _ => match T.mks.lookup f with
        | some C => if okn f && isGl B f && B.calm then (cEs n B args).map (.make C) else none
        | none => if okn f && isGl B f then
          (match T.fns.lookup f with
          | some i => if B.calm && !args.isEmpty then (cEs n B args).map (.call i) else none
          | none => if (T.hots.lookup f).isSome then (match T.hots.lookup f, args with
            | some i, [.Name x _] => if !B.calm && okn x && isVis B x then (idx B.N x).map fun j => .hot i (.var j) else none
            | _, _ => none) else if T.gcd && f == ("gcd" : Str) then (match args with | [_, _] => (cEs n B args).map (.bi .gcd) | _ => none)
            else if T.blt.contains f then
              (if f = ("isinstance" : Str) then (match args with
                | [a, .Name t _] => if okn t && isGl B t then (match T.clss.lookup t with
                    | some c => if B.calm then none else (match a with | .Name x _ => if okn x && isVis B x then (idx B.N x).map fun i => .isE c (.var i) else none | _ => none)
                    | none => if T.blt.contains t then (match tyOf t with | some b => (cE n B a).map fun a' => .bi b (.cons a' .nil) | none => none) else none) else none
                | _ => none)
              else match args with
                | [a] => if sureL T n a then o2 .bil (blOf B f) (cL n B a) else o2 .bi (biOf B f) (cEs n B [a])
                | [_, _] => if f = ("max" : Str) ∨ f = ("min" : Str) then o2 .bi (biOf B f) (cEs n B args) else none
                | _ => none)
            else none) else none
      | .Dict [] [] pos => some (.dnew (T.dts.contains pos.line))
      | .Call (.Attribute o "get" apos) [a] [] pos => if isStar a || isCall o || !(apos.endLine == pos.line) then none else o2 .dget1 (cE n B o) (kyOf a (cEs n B (tupEs a)) (cE n B a))
      | .Call (.Attribute o "get" apos) [a, b] [] pos => if isStar a || isStar b || isCall o || !(apos.endLine == pos.line) then none else (match cE n B o with | some o' => o2 (.dget o') (kyOf a (cEs n B (tupEs a)) (cE n B a)) (cE n B b) | none => none)
      | .Call (.Attribute o "pop" apos) [a] [] pos => if isStar a || isCall o || !(apos.endLine == pos.line) then none else o2 .dpop (cE n B o) (cE n B a)
      | .Call (.Attribute o "pop" apos) [a, b] [] pos => if isStar a || isStar b || isCall o || !(apos.endLine == pos.line) then none else (match cE n B o with | some o' => o2 (.dpop2 o') (cE n B a) (cE n B b) | none => none)
      | .Call (.Attribute o "append" apos) [a] [] pos => if isStar a then none else if isCall o then none else if apos.endLine == pos.line then o2 .app (cE n B o) (cE n B a) else none
      | .Call (.Attribute o "index" apos) [a] [] pos => if isStar a || isCall o || !(apos.endLine == pos.line) then none else o2 .idx (cE n B o) (cE n B a)
      | .Call (.Attribute o m apos) args [] pos => if isCall o || !(apos.endLine == pos.line) || !decide (args.length < 30) || !B.calm then none else o2 (.meth m) (cE n B o) (cEs n B args)
      | .Attribute o f _ => if isCall o then none else (cE n B o).map (.fld f)
      | _ => none
def cB : Nat → Blk → BoolOp → List PySem.Expr → Option E
  | 0, _, _, _ => none
  | n + 1, B, o, es => match es with
    | [] => none
    | [e] => if isIf e then none else cE n B e
    | e :: f :: r => if isIf e then none else match o with | .And => o2 .and (cE n B e) (cB n B o (f :: r)) | .Or => o2 .or (cE n B e) (cB n B o (f :: r))
def cEs : Nat → Blk → List PySem.Expr → Option Es
  | 0, _, _ => none
  | n + 1, B, es => match es with
    | [] => some .nil
    | e :: r => if isStar e then none else o2 .cons (cE n B e) (cEs n B r)
def cO : Nat → Blk → Option PySem.Expr → Option Eo
  | 0, _, _ => none
  | n + 1, B, o => match o with
    | none => some .none
    | some e => (cE n B e).map .some
def cCut : Nat → Blk → PySem.Expr → Option L
  | 0, _, _ => none
  | n + 1, B, e => match e with
    | .Subscript a (.Slice lo hi none _) _ => match cE n B a with | some a' => o2 (.cut a') (cO n B lo) (cO n B hi) | none => none
    | _ => none
def cL : Nat → Blk → PySem.Expr → Option L
  | 0, _, _ => none
  | n + 1, B, e => match e with
    | .List es _ => (cEs n B es).map .disp
    | .ListComp elt [⟨tg, iter, ifs, as⟩] scope _ => if as = 0 ∧ isSet iter = false ∧ B.calm = true ∧ blkC B.N B.sc scope (ownOf B.N scope.names) = true then
        (match cSrc n B iter, cTg n (inBlk B scope) tg, cIfs n (inBlk B scope) ifs, cE n (inBlk B scope) elt with
        | some it, some t, some c, some d => if (tgSlots t).all (fun i => (ownOf B.N scope.names).any fun p => p.2 == i) then some (.comp d t it c ((ownOf B.N scope.names).map (·.2))) else none
        | _, _, _, _ => none) else none
    | .BinOp a .Add b _ => match sureL T n a, sureL T n b with
      | true, true => o2 .cat (cL n B a) (cL n B b)
      | true, false => (match cCut n B b with | some b' => (cL n B a).map (.cat · b') | none => o2 .catLE (cL n B a) (cE n B b))
      | false, true => (match cCut n B a with | some a' => (cL n B b).map (.cat a') | none => o2 .catEL (cE n B a) (cL n B b))
      | false, false => none
    | .BinOp (.List [a] _) .Mult b _ => if isStar a then none else o2 .rep (cE n B a) (cE n B b)
    | .Call (.Name f _) [a] [] _ => if isStar a = false ∧ okn f = true ∧ isGl B f = true ∧ T.fns.lookup f = none ∧ f = ("list" : Str) ∧ T.blt.contains f = true then (cE n B a).map .copy
      else if isStar a = false ∧ okn f = true ∧ isGl B f = true ∧ T.fns.lookup f = none ∧ f = ("sorted" : Str) ∧ T.blt.contains f = true ∧ B.calm = true then (if sureL T n a then (cL n B a).map .srtL else (cE n B a).map .srt) else none
    | _ => none
def cIfs : Nat → Blk → List PySem.Expr → Option Eo
  | 0, _, _ => none
  | n + 1, B, es => match es with
    | [] => some .none
    | [e] => if isIf e then none else (cE n B e).map .some
    | _ => none
def cSrc : Nat → Blk → PySem.Expr → Option Src
  | 0, _, _ => none
  | n + 1, B, e => match e with
    | .Call (.Name f _) args [] _ => if f = ("range" : Str) ∧ okn f = true ∧ isGl B f = true ∧ T.blt.contains f = true then
        (match args with
        | [a] => if isStar a then none else (cE n B a).map .rg1
        | [a, b] => if isStar a || isStar b then none else o2 .rg2 (cE n B a) (cE n B b)
        | _ => none)
      else (match cL n B e with | some l => some (.lst l) | none => (cE n B e).map .val)
    | e => match cL n B e with | some l => some (.lst l) | none => (cE n B e).map .val
def cTg : Nat → Blk → PySem.Expr → Option Tg
  | 0, _, _ => none
  | n + 1, B, e => match e with
    | .Name x _ => if isLoc B x then (idx B.N x).map .nm else none
    | .Tuple es _ _ => if B.calm then (cTgs n B es).map .tp else none
    | .Subscript o i _ => if B.stm then o2 .sub (cE n B o) (kyOf i (cEs n B (tupEs i)) (cE n B i)) else none
    | _ => none
def cTgs : Nat → Blk → List PySem.Expr → Option Tgs
  | 0, _, _ => none
  | n + 1, B, es => match es with
    | [] => some .nil
    | e :: r => if isStar e then none else o2 .cons (cTg n B e) (cTgs n B r)
end
def isName : PySem.Expr → Bool | .Name _ _ => true | _ => false
def lineOf (e : PySem.Expr) : Nat := e.pos.line
mutual
def cS : Nat → Blk → Stmt → Option St
  | 0, _, _ => none
  | n + 1, B, s => match s with
    | .Pass _ => some .pass
    | .Delete [.Subscript o i _] _ => o2 .del (cE T n B o) (cE T n B i)
    | .Break _ => some .brk
    | .Continue _ => some .cont
    | .Return none _ => some .retN
    | .Return (some e) _ => (cE T n B e).map .ret
    | .Expr (.Constant (.str _) _ _) _ => some .pass
    | .Expr e _ => if isCp e then none else (cE T n B e).map .ex
    | .If c a b _ => if isIf c then none else match cE T n B c with | some c' => o2 (.ite c') (cSs n B a) (cSs n B b) | none => none
    | .For t it b [] _ => if isSet it = false ∧ B.calm = true ∧ B.stm = true then (match cTg T n B t, cSrc T n B it with | some t', some it' => (cSs n B b).map (.forr t' it') | _, _ => none) else none
    | .While c b [] _ => if isIf c = false ∧ B.stm = true then o2 .whl (cE T n B c) (cSs n B b) else none
    | .Raise (some (.Call (.Name x _) [.Constant (.str _) _ _] [] _)) none _ => if okn x = true ∧ isGl B x = true ∧ B.calm = true then (T.clss.lookup x).map .raise else none
    | .Assign [.Tuple [.Name x px, .Name y py] _ _] (.Tuple [a, b] _ _) _ =>
        if B.calm = true ∧ B.sc.names.lookup x = some .local ∧ B.sc.names.lookup y = some .local ∧ px.line = py.line ∧ isStar a = false ∧ isStar b = false ∧ x ≠ y ∧ ([a, b].all (foldedForSure 8)) = false ∧ ([a, b].all (constantsAlone 8)) = false then
          (match idx B.N x, idx B.N y, cE T n B a with | some i, some j, some a' => (cE T n B b).map (.par i j a') | _, _, _ => none) else none
    | .Assign [.Attribute o f _] e _ => if isCall o = true then none else o2 (fun o' e' => .asg (.fld o' f) e') (cE T n B o) (cE T n B e)
    | .Assign [t] e _ => if isCp e = true then
        (match t, e with
        | .Name y py, .ListComp elt [g] scope pos => (match B.sc.names.lookup y with
          | some .local => if py.line = pos.line ∧ (scope.names.any fun (n, k) => n == y && (k == .local || k == .cell)) = false then o2 (fun i l => .asg (.nm i) (.new l)) (idx B.N y) (cL T n B e) else none
          | some .cell => if B.fn y = true then o2 (fun i l => .asg (.nm i) (.new l)) (idx B.N y) (cL T n B e) else none
          | _ => none)
        | .Subscript _ _ _, .ListComp _ _ _ _ => o2 .asg (cTg T n B t) (cE T n B e)
        | _, _ => none)
      else (match t, e with
        | .Tuple ts _ _, .Tuple vs _ _ => if ts.all isName = false then o2 .asg (cTg T n B t) (cE T n B e) else none
        | .Tuple _ _ _, .Starred _ _ => none
        | .List _ _, _ => none
        | t, e => o2 .asg (cTg T n B t) (cE T n B e))
    | .Try body [.ExceptHandler (some (.Name x _)) nm (b₀ :: suite) _] [] [] _ => if okn x = true ∧ isGl B x = true ∧ B.stm = true ∧ B.calm = true then
        (match T.clss.lookup x, cSs n B body, cSs n { B with calm := false, stm := false } (b₀ :: suite) with
        | some c, some b, some h => (match nm with
          | none => some (.tryE b c none h)
          | some y => if B.sc.names.lookup y = some .local then (idx B.N y).map fun i => .tryE b c (some i) h else none)
        | _, _, _ => none) else none
    | _ => none
def cSs : Nat → Blk → List Stmt → Option Ss
  | 0, _, _ => none
  | n + 1, B, ss => match ss with
    | [] => some .nil
    | s :: r => o2 .cons (cS n B s) (cSs n B r)
end
end
end SB

/-! the small trees tell the truth -/
namespace SB
open PySem PySem.Spec PyProof.Rows L2
open Classical
/-! ### side conditions by the tree's head -/
theorem star_cons {e : PySem.Expr} {es : List PySem.Expr} {env : PySem.Env} (h : isStar e = false) : starEach (e :: es) env = (false, eval e env) :: starEach es env := by
  cases e <;> first | rfl | cases h
theorem star_any {env : PySem.Env} {pos : Pos} : ∀ {es : List PySem.Expr}, es.all (fun e => !isStar e) = true → (backTo pos (starEach es env)).any (·.1) = false
  | [], _ => rfl
  | e :: es, h => by
    rw [List.all_cons, Bool.and_eq_true] at h
    have h1 : isStar e = false := by simpa using h.1
    rw [star_cons h1]
    show (false || (backTo pos (starEach es env)).any (·.1)) = false
    rw [star_any h.2]; rfl
theorem assign_cons {e : PySem.Expr} {es : List PySem.Expr} {env : PySem.Env} (h : isStar e = false) : assignEach (e :: es) env = (false, assign e env) :: assignEach es env := by
  cases e <;> first | rfl | cases h
theorem assign_len {env : PySem.Env} : ∀ {es : List PySem.Expr}, (assignEach es env).length = es.length
  | [] => rfl
  | e :: es => by
    have : (assignEach (e :: es) env).length = (assignEach es env).length + 1 := by cases e <;> rfl
    rw [this, assign_len]; rfl
theorem assign_idx {env : PySem.Env} : ∀ {es : List PySem.Expr}, es.all (fun e => !isStar e) = true → (assignEach es env).findIdx? (·.1) = none
  | [], _ => rfl
  | e :: es, h => by
    rw [List.all_cons, Bool.and_eq_true] at h
    have h1 : isStar e = false := by simpa using h.1
    rw [assign_cons h1, List.findIdx?_cons]
    rw [if_neg (by simp), assign_idx h.2]; rfl
theorem sw_none {e : PySem.Expr} {t : Option PySem.Expr} {l : Nat} {env : PySem.Env} (h : isCp e = false) : swapsWith e t l env = pure false := by
  cases e <;> first | rfl | cases h
theorem isTrue_val {e : PySem.Expr} {env : PySem.Env} (h : isVal e = true) :
    ∀ whole, isTrue e env whole = (do let v ← whole; standAt e.pos; holding [v] (truthy v)) := by
  intro whole
  cases e <;> first
    | rfl
    | cases h
    | (rename_i o a p; cases o <;> first | rfl | cases h)
theorem fold_set {e : PySem.Expr} {env : PySem.Env} (h : isSet e = false) : ∀ x, foldedSetIterable e env x = pure x := by
  intro x
  cases e <;> first | rfl | cases h
theorem marks_set {o : CmpOp} {e : PySem.Expr} (h : isSet e = false) : behindInMarks o e = false := by
  cases e <;> first | rfl | cases h
theorem marks_cm {o : CmpOp} {p : Cm} {e : PySem.Expr} (h : cmOf o = some p) : behindInMarks o e = false := by
  cases o <;> first | exact nobehind _ (by decide) (by decide) | cases h
theorem plain_ix {e : PySem.Expr} (h : isSlice e = false) : PlainIx e := by
  intro o i
  cases e <;> first | rfl | cases h
theorem attr_base {e : PySem.Expr} {x : Str} {env : PySem.Env} (h : isCall e = false) : attributeBase e x env (eval e env) = eval e env := by
  cases e <;> first | rfl | cases h
/-! ### where a tree stands -/
/-- a def that suites call with the error in hand -/
def HotAt (T : Tab) (P : Prg) (X : Cx) (x : Str) (i : Nat) : Prop := ∃ (f : Addr) (fd : FuncData) (qual y : Str) (st : Stmt) (N : List Str) (m : Nat) (e : E), X.mg x = some (.ref f) ∧ PySem.W.keepIn X.K (.ref f) = true ∧ Fun X.K x qual st f fd ∧ Binds X.K fd [y] [] ∧ FnScope N [y] (defScope st) ∧ P.hot i = some e ∧
    N = [y] ∧ cSs { T with hots := [] } m ⟨N, defScope st, fun _ => true, false, false⟩ (defBody st) = some (.cons (.ret e) .nil)
structure Ctx (T : Tab) (P : Prg) (G : Pl) (k : Nat) (B : Blk) (X : Cx) : Prop where
  N : X.N = B.N
  nd : B.N.Nodup
  sc : X.env.scope = B.sc
  fn : ∀ x, B.fn x = true → X.fn x = true
  K : X.K = G.K
  calm : B.calm = true → X.calm = true
  room : B.calm = true → Room k X.A
  ex : B.calm = true → G.ex = none
  units : X.A.units + 65 < cLine
  fns : ∀ x i, T.fns.lookup x = some i → ∃ f fd ps F, X.mg x = some (.ref f) ∧ PySem.W.keepIn X.K (.ref f) = true ∧ Binds X.K fd ps [] ∧ P.fn i = some F ∧ FnOk X.prog X.w X.K X.mg X.base (L2.CX X.prog X.w) k f fd ps (spF (G.with none) (evF P k i) F.ps)
  consts : ∀ x d, T.consts.lookup x = some d → ∃ v u, X.mg x = some u ∧ RelV v u ∧ ∀ H μ, Rep G H μ d v
  clss : ∀ x c, T.clss.lookup x = some c → ExcOk X x (G.cl c)
  blt : ∀ x, T.blt.contains x = true → X.mg x = none
  gcd : T.gcd = true → X.mg "gcd" = some (.builtin "math.gcd")
  fok : ∀ C f, P.fok C f = true → Cls X.K (G.cl C) ∧ NoAttr X.K (G.cl C) f
  meth : ∀ C m i, P.meth C m = some i → MethR X (G.with none) k (evF P k) (fun _ => none) C m i
  make : ∀ x C, T.mks.lookup x = some C → ∃ i, P.init C = some i ∧ X.mg x = some (.ref (G.cl C)) ∧ MakeR X (G.with none) k (evF1 P k) C i
  sub : ∀ j k b, P.sub j k = some b → PySem.W.exmOne X.K (.ref (G.cl j)) (.ref (G.cl k)) = some b ∧ PySem.W.kitOne X.K (.ref (G.cl j)) (.ref (G.cl k)) = some b ∧ ExcC X.K (G.cl j)
  exq : ∀ a j, G.ex = some (a, j) → CallR X (.builtin "isinstance") (rIsE X.K (G.cl j) a)
  hots : ∀ x i, T.hots.lookup x = some i → HotAt T P X x i
  hot : ∀ x i, T.hots.lookup x = some i → ∀ a j, G.ex = some (a, j) → ∃ f e, P.hot i = some e ∧ X.mg x = some (.ref f) ∧ PySem.W.keepIn X.K (.ref f) = true ∧ ∀ z, evH P.sub e (.exc j) = some (.str z) → CallR X (.ref f) (spH G a z)
  stm : B.stm = true → X.stack = X.env :: X.outer ∧ X.env.frame = some X.env.locals ∧ PassesOwn (model X.prog X.w) X.A X.env X.xe
noncomputable abbrev cfg (P : Prg) (k : Nat) : Cfg := ⟨evF P k, P.sub, P.w, evF1 P k, P.init, P.meth, P.prop, P.hot, P.fok⟩
section
variable {T : Tab} {P : Prg} {G : Pl} {k : Nat} {B : Blk} {X : Cx}
theorem Ctx.gl (C : Ctx T P G k B X) {x : Str} (h : isGl B x = true) : Gl X x := by
  unfold isGl at h
  show X.env.scope.names.lookup x = some .globalImplicit
  rw [C.sc]
  split at h
  · assumption
  · cases h
theorem Ctx.vis (C : Ctx T P G k B X) {x : Str} (h : isVis B x = true) : Vis X.env.scope x := by
  unfold isVis at h
  rw [C.sc]
  split at h
  · exact .inl (by assumption)
  · exact .inr (.inl (by assumption))
  · exact .inr (.inr (by assumption))
  · cases h
theorem Ctx.loc (C : Ctx T P G k B X) {x : Str} (h : isLoc B x = true) : Loc X.env.scope x ∧ (X.fn x = true ∨ X.env.scope.names.lookup x = some .local) := by
  unfold isLoc at h
  rw [C.sc]
  split at h
  · exact ⟨.inl (by assumption), .inr (by assumption)⟩
  · exact ⟨.inr (by assumption), .inl (C.fn x h)⟩
  · cases h
theorem Ctx.blk (C : Ctx T P G k B X) (hc : B.calm = true) (s : Shared) (H : Hp) (scope : Scope) (cl : List (Str × Addr)) (Cc : Addr) (fp : List Addr) : Ctx T P G k (inBlk B scope) (X.blk s H scope (compEnvC scope cl Cc X.env) fp) where
  N := C.N
  nd := C.nd
  sc := by
    show relabel scope X.env = relS scope B.sc
    rw [← C.sc]; rfl
  fn := fun _ h => h
  K := C.K
  calm := C.calm
  room := C.room
  ex := C.ex
  units := C.units
  fns := C.fns
  consts := C.consts
  clss := fun x c h => let ⟨a, b, d, e⟩ := C.clss x c h; ⟨a, b, d, e⟩
  blt := C.blt
  gcd := C.gcd
  fok := C.fok
  meth := C.meth
  make := C.make
  sub := C.sub
  exq := fun a j h => by rw [C.ex hc] at h; cases h
  hots := C.hots
  hot := fun x i _ a j h => by rw [C.ex hc] at h; cases h
  stm := fun h => by cases h
theorem o2_some {α β γ : Type} {f : α → β → γ} {a : Option α} {b : Option β} {r : γ} (h : o2 f a b = some r) : ∃ x y, a = some x ∧ b = some y ∧ r = f x y := by
  unfold o2 at h
  split at h
  · cases h; exact ⟨_, _, rfl, rfl, rfl⟩
  · cases h
theorem map_some {α β : Type} {f : α → β} {a : Option α} {r : β} (h : a.map f = some r) : ∃ x, a = some x ∧ r = f x := by
  cases a with
  | none => cases h
  | some x => cases h; exact ⟨x, rfl, rfl⟩
theorem okn_of {x : Str} (h : okn x = true) : (x == ("__debug__" : Str)) = false ∧ (x == ("__classdict__" : Str)) = false ∧ x ≠ "__name__" := by
  unfold okn at h
  simp only [Bool.and_eq_true, Bool.not_eq_true'] at h
  exact ⟨h.1.1, h.1.2, fun e => by rw [e] at h; simp at h⟩
/-- what is claimed of trees of depth n -/
structure Snd (T : Tab) (P : Prg) (k n : Nat) : Prop where
  e : ∀ {G : Pl} {B : Blk} {X : Cx} {W : WX} {e : PySem.Expr} {e' : E}, cE T n B e = some e' → Ctx T P G k B X → Takes X W → PE X e (dE G W (evE (cfg P k) e')) ∧ (isIf e = false → PT X e (dT G W (tb (evE (cfg P k) e'))))
  b : ∀ {G : Pl} {B : Blk} {X : Cx} {W : WX} {o : BoolOp} {es : List PySem.Expr} {e' : E} {pos : Pos}, cB T n B o es = some e' → Ctx T P G k B X → Takes X W → PE X (.BoolOp o es pos) (dE G W (evE (cfg P k) e')) ∧ PW X (.BoolOp o es pos) (dT G W (tb (evE (cfg P k) e')))
  es : ∀ {G : Pl} {B : Blk} {X : Cx} {W : WX} {es : List PySem.Expr} {e' : Es}, cEs T n B es = some e' → Ctx T P G k B X → Takes X W → PA X es (dA G W (evEs (cfg P k) e')) ∧ es.all (fun e => !isStar e) = true
  o : ∀ {G : Pl} {B : Blk} {X : Cx} {W : WX} {o : Option PySem.Expr} {e' : Eo}, cO T n B o = some e' → Ctx T P G k B X → Takes X W → PO X o (dO G W (evO (cfg P k) e'))
  cut : ∀ {G : Pl} {B : Blk} {X : Cx} {W : WX} {e : PySem.Expr} {e' : L}, cCut T n B e = some e' → Ctx T P G k B X → Takes X W → PE X e (dL G W (evL (cfg P k) e'))
  l : ∀ {G : Pl} {B : Blk} {X : Cx} {W : WX} {e : PySem.Expr} {e' : L}, cL T n B e = some e' → Ctx T P G k B X → Takes X W → PE X e (dL G W (evL (cfg P k) e'))
  ifs : ∀ {G : Pl} {B : Blk} {X : Cx} {W : WX} {es : List PySem.Expr} {e' : Eo}, cIfs T n B es = some e' → Ctx T P G k B X → Takes X W → PTs X es (dT G W (evC (cfg P k) e'))
  src : ∀ {G : Pl} {B : Blk} {X : Cx} {W : WX} {e tg : PySem.Expr} {e' : Src}, cSrc T n B e = some e' → Ctx T P G k B X → Takes X W → PI X tg e (dI G W (evIt (cfg P k) e'))
  tg : ∀ {G : Pl} {B : Blk} {X : Cx} {e : PySem.Expr} {e' : Tg}, cTg T n B e = some e' → Ctx T P G k B X → PG X e (dG G (tgSlots e') (evT (cfg P k) e'))
  tgs : ∀ {G : Pl} {B : Blk} {X : Cx} {es : List PySem.Expr} {e' : Tgs}, cTgs T n B es = some e' → Ctx T P G k B X → PGs X es (dGs G (tgsSlots e') (evTs (cfg P k) e')) ∧ es.all (fun e => !isStar e) = true ∧ ∀ xs ρ S, xs.length ≠ es.length → ∀ ρ' S', evTs (cfg P k) e' xs ρ S ≠ .ok ρ' S'
theorem od_bop (hK : X.K = G.K) {o : Operator} {p : Op} (h : opOf o = some p) : OpD X G (binaryOp o) (bop p) := by
  cases o <;> cases h
  · exact od_add hK
  · exact od_sub
  · exact od_mul hK
  · exact od_mod
  · exact od_pow
  · exact od_fdiv
theorem od_cm (hK : X.K = G.K) (hu : X.A.units + 65 < cLine) {o : CmpOp} {p : Cm} (h : cmOf o = some p) : OpD X G (compareOp o) (cmpD p) := by
  cases o <;> cases h
  · exact od_eq hK (by omega)
  · exact od_ne hK (by omega)
  · exact od_lt hK (by omega)
  · exact od_le
  · exact od_gt hK (by omega)
  · exact od_ge
  · exact od_is
  · exact od_ns
theorem ty_ok {f : Str} {b : Bi} (h : tyOf f = some b) : ∃ T' : String, bootBuiltins f = some (.type T') ∧ ∀ (d : D) (S : Sto), (∃ n r, tyName d = some n ∧ kitB n T' = some r ∧ biD b [d] S = .ok (.bl r) S) ∨ biD b [d] S = .bad := by
  unfold tyOf at h
  split at h
  · rename_i e; subst e; cases h
    exact ⟨"int", by decide +kernel, fun d S => by cases d <;> first | exact .inr rfl | exact .inl ⟨_, _, rfl, by decide +kernel, rfl⟩⟩
  · split at h
    · rename_i e; subst e; cases h
      exact ⟨"bool", by decide +kernel, fun d S => by cases d <;> first | exact .inr rfl | exact .inl ⟨_, _, rfl, by decide +kernel, rfl⟩⟩
    · split at h
      · rename_i e; subst e; cases h
        exact ⟨"tuple", by decide +kernel, fun d S => by cases d <;> first | exact .inr rfl | exact .inl ⟨_, _, rfl, by decide +kernel, rfl⟩⟩
      · split at h
        · rename_i e; subst e; cases h
          exact ⟨"str", by decide +kernel, fun d S => by cases d <;> first | exact .inr rfl | exact .inl ⟨_, _, rfl, by decide +kernel, rfl⟩⟩
        · cases h
/-- the built-ins of values -/
theorem bi_ok (C : Ctx T P G k B X) {f : Str} {b : Bi} (h : biOf B f = some b) : (∃ id, bootBuiltins f = some (.builtin id) ∧ CaD X G (.builtin id) (biD b)) ∨ ∃ T', bootBuiltins f = some (.type T') ∧ CaD X G (.type T') (biD b) := by
  unfold biOf at h
  split at h
  · rename_i e; subst e; cases h; exact .inl ⟨"len", by decide +kernel, cd_len C.K⟩
  split at h
  · rename_i e; subst e; cases h; exact .inl ⟨"abs", by decide +kernel, cd_abs⟩
  split at h
  · rename_i e; subst e; cases h; exact .inr ⟨"int", by decide +kernel, cd_int⟩
  split at h
  · rename_i e; subst e; cases h; exact .inr ⟨"tuple", by decide +kernel, cd_tuple C.K⟩
  split at h
  · rename_i e; subst e
    split at h
    · cases h; exact .inl ⟨"any", by decide +kernel, cd_any (C.calm (by assumption)) C.K⟩
    · cases h
  split at h
  · rename_i e; subst e
    split at h
    · cases h; exact .inl ⟨"all", by decide +kernel, cd_all (C.calm (by assumption)) C.K⟩
    · cases h
  split at h
  · rename_i e; subst e
    split at h
    · cases h; exact .inl ⟨"max", by decide +kernel, cd_max (C.calm (by assumption))⟩
    · cases h
  split at h
  · rename_i e; subst e
    split at h
    · cases h; exact .inl ⟨"min", by decide +kernel, cd_min (C.calm (by assumption))⟩
    · cases h
  · cases h
theorem bil_ok (C : Ctx T P G k B X) {W : WX} {f : Str} {b : Bl} {e : PySem.Expr} {p pos : Pos} {evs : En → Sto → R (List D)} (h : blOf B f = some b) (hg : Gl X f) (hm : X.mg f = none) (ha : PE X e (dL G W evs)) (he : starEach [e] X.env = [(false, eval e X.env)]) :
    PE X (.Call (.Name f p) [e] [] pos) (dE G W fun ρ S => (evs ρ S).bind fun xs S1 => blD b xs S1) := by
  unfold blOf at h
  split at h
  · rename_i e; subst e; cases h; exact sE_bilLen hg hm (by decide +kernel) ha he
  split at h
  · rename_i e; subst e; cases h; exact sE_bilTuple hg hm (by decide +kernel) ha he
  split at h
  · rename_i e; subst e
    split at h
    · cases h; exact sE_bilAny (C.calm (by assumption)) hg hm (by decide +kernel) ha he
    · cases h
  split at h
  · rename_i e; subst e
    split at h
    · cases h; exact sE_bilAll (C.calm (by assumption)) hg hm (by decide +kernel) ha he
    · cases h
  split at h
  · rename_i e; subst e
    split at h
    · cases h; exact sE_bilSum (C.calm (by assumption)) hg hm (by decide +kernel) ha he
    · cases h
  · cases h
theorem cL_star {n : Nat} {e : PySem.Expr} {l : L} (h : cL T n B e = some l) : isStar e = false := by
  cases n with
  | zero => cases h
  | succ n => cases e <;> first | rfl | cases h
theorem cE_star {n : Nat} {e : PySem.Expr} {l : E} (h : cE T n B e = some l) : isStar e = false := by
  cases n with
  | zero => cases h
  | succ n =>
    cases e with
    | Starred v p =>
      unfold cE at h
      have : cL T n B (.Starred v p) = none := by cases n <;> rfl
      rw [this] at h
      cases h
    | _ => rfl
theorem cE_slice {n : Nat} {e : PySem.Expr} {l : E} (h : cE T n B e = some l) : isSlice e = false := by
  cases n with
  | zero => cases h
  | succ n =>
    cases e with
    | Slice a b c p =>
      unfold cE at h
      have : cL T n B (.Slice a b c p) = none := by cases n <;> rfl
      rw [this] at h
      cases h
    | _ => rfl
theorem ky_slice {n : Nat} {e : PySem.Expr} {l : E} (h : kyOf e (cEs T n B (tupEs e)) (cE T n B e) = some l) : isSlice e = false := by
  unfold kyOf at h
  split at h
  · rename_i ht
    cases e <;> first | rfl | cases ht
  · exact cE_slice h
theorem assign_sub {o i : PySem.Expr} {pos : Pos} {env : PySem.Env} (h : isSlice i = false) (v : Value) : assign (.Subscript o i pos) env v = (do
      let ov ← holding [v] (eval o env)
      let iv ← holding [v, ov] (eval i env)
      standAt pos
      holding [v, ov, iv] (setItem ov iv v)
      release [v, ov, iv] []) := by
  cases i <;> first | rfl | cases h
end
end SB

namespace SB
open PySem PySem.Spec PyProof.Rows L2
open Classical
theorem takesN {X : Cx} : Takes X NoW := takes0
section
variable {T : Tab} {P : Prg} {G : Pl} {k : Nat} {B : Blk} {X : Cx}
section
variable (c : Cfg)
theorem ev_var (i : Nat) : evE c (.var i) = fun ρ S => ro (ρ[i]?.join) S := by funext ρ S; simp only [evE]
theorem ev_hot (f : Nat) (a : E) : evE c (.hot f a) = fun ρ S => (evE c a ρ S).bind fun x S1 => hotD c f x S1 := by funext ρ S; simp only [evE]
theorem evH_str {sub : Nat → Nat → Option Bool} {x : D} : ∀ (e : E) {d : D}, evH sub e x = some d → ∃ z, d = .str z := by
  intro e d h
  unfold evH at h
  split at h
  · exact ⟨_, (Option.some.inj h).symm⟩
  · rename_i k s t j
    cases hs : sub j k with
    | none => rw [hs] at h; cases h
    | some b =>
      rw [hs] at h
      have h := (Option.some.inj h).symm
      cases b
      · exact ⟨t, h⟩
      · exact ⟨s, h⟩
  · split at h
    · split at h
      · exact ⟨_, (Option.some.inj h).symm⟩
      · cases h
    · cases h
  · cases h
theorem ev_isE (k : Nat) (a : E) : evE c (.isE k a) = fun ρ S => (evE c a ρ S).bind (excD c.sub k) := by funext ρ S; simp only [evE]
theorem ev_cst (d : D) : evE c (.cst d) = fun _ S => .ok d S := by funext ρ S; simp only [evE]
theorem ev_bin (o : Op) (a b : E) : evE c (.bin o a b) = fun ρ S => (evE c a ρ S).bind fun x S1 => (evE c b ρ S1).bind fun y S2 => bop o x y S2 := by funext ρ S; simp only [evE]
theorem ev_neg (a : E) : evE c (.neg a) = fun ρ S => (evE c a ρ S).bind negD := by funext ρ S; simp only [evE]
theorem ev_no (a : E) : evE c (.no a) = fun ρ S => ((evE c a ρ S).bind toB).bind fun b S1 => .ok (.bl (!b)) S1 := by funext ρ S; simp only [evE]
theorem ev_cmp (o : Cm) (a b : E) : evE c (.cmp o a b) = fun ρ S => (evE c a ρ S).bind fun x S1 => (evE c b ρ S1).bind fun y S2 => cmpD o x y S2 := by funext ρ S; simp only [evE]
theorem ev_chn (o p : Cm) (a b d : E) : evE c (.chn o p a b d) = fun ρ S => (evE c a ρ S).bind fun x S1 => (evE c b ρ S1).bind fun y S2 => ((cmpD o x y S2).bind toB).bind fun k S3 =>
      if k = true then (evE c d ρ S3).bind fun z S4 => cmpD p y z S4 else .ok (.bl false) S3 := by funext ρ S; simp only [evE]
theorem ev_isN (n : Bool) (a : E) : evE c (.isN n a) = vIsN n (evE c a) := by funext ρ S; simp only [evE]
theorem ev_mem (n : Bool) (a b : E) : evE c (.mem n a b) = fun ρ S => (evE c a ρ S).bind fun x S1 => (evE c b ρ S1).bind fun y S2 => memD n x y S2 := by funext ρ S; simp only [evE]
theorem ev_and (a b : E) : evE c (.and a b) = vAnd (evE c a) (evE c b) := by funext ρ S; simp only [evE, vAnd]
theorem ev_or (a b : E) : evE c (.or a b) = vOr (evE c a) (evE c b) := by funext ρ S; simp only [evE, vOr]
theorem ev_ite (t a b : E) : evE c (.ite t a b) = fun ρ S => ((evE c t ρ S).bind toB).bind fun k S1 => if k = true then evE c a ρ S1 else evE c b ρ S1 := by funext ρ S; simp only [evE]
theorem ev_tup (es : Es) : evE c (.tup es) = fun ρ S => (evEs c es ρ S).bind tupD := by funext ρ S; simp only [evE]
theorem ev_ix (a b : E) : evE c (.ix a b) = fun ρ S => (evE c a ρ S).bind fun x S1 => (evE c b ρ S1).bind fun y S2 => ixD x y S2 := by funext ρ S; simp only [evE]
theorem ev_sl (a : E) (lo hi : Eo) : evE c (.sl a lo hi) = fun ρ S => (evE c a ρ S).bind fun x S1 => (evO c lo ρ S1).bind fun l S2 => (evO c hi ρ S2).bind fun h S3 => slD x l h S3 := by funext ρ S; simp only [evE]
theorem ev_call (f : Nat) (es : Es) : evE c (.call f es) = fun ρ S => (evEs c es ρ S).bind (c.call f) := by funext ρ S; simp only [evE]
theorem ev_bi (b : Bi) (es : Es) : evE c (.bi b es) = fun ρ S => (evEs c es ρ S).bind (biD b) := by funext ρ S; simp only [evE]
theorem ev_new (l : L) : evE c (.new l) = fun ρ S => (evL c l ρ S).bind newD := by funext ρ S; simp only [evE]
theorem ev_rev (a : E) : evE c (.rev a) = fun ρ S => (evE c a ρ S).bind revD := by funext ρ S; simp only [evE]
theorem ev_bil (b : Bl) (l : L) : evE c (.bil b l) = fun ρ S => (evL c l ρ S).bind fun xs S1 => blD b xs S1 := by funext ρ S; simp only [evE]
theorem ev_app (a e : E) : evE c (.app a e) = fun ρ S => (evE c a ρ S).bind fun x S1 => (chkL x S1).bind fun _ S1 => (evE c e ρ S1).bind fun y S2 => appD x y S2 := by funext ρ S; simp only [evE]
theorem ev_fld (f : Str) (o : E) : evE c (.fld f o) = fun ρ S => (evE c o ρ S).bind (fldD c.fok f) := by funext ρ S; simp only [evE]
theorem ev_make (C : Nat) (es : Es) : evE c (.make C es) = fun ρ S => (evEs c es ρ S).bind fun xs S1 => makeD c C xs S1 := by funext ρ S; simp only [evE]
theorem ev_meth (m : Str) (o : E) (es : Es) : evE c (.meth m o es) = fun ρ S => (evE c o ρ S).bind fun x S1 => (methD c.meth m x S1).bind fun f S1 => (evEs c es ρ S1).bind fun xs S2 => c.call f (x :: xs) S2 := by funext ρ S; simp only [evE]
theorem ev_dnew (t : Bool) : evE c (.dnew t) = fun _ S => dnewD t S := by funext ρ S; simp only [evE]
theorem ev_dget1 (a b : E) : evE c (.dget1 a b) = fun ρ S => (evE c a ρ S).bind fun x S1 => (isDicU x S1).bind fun _ S1 => (evE c b ρ S1).bind fun y S2 => dget1D x y S2 := by funext ρ S; simp only [evE]
theorem ev_dget (a b d : E) : evE c (.dget a b d) = fun ρ S => (evE c a ρ S).bind fun x S1 => (isDicU x S1).bind fun _ S1 => (evE c b ρ S1).bind fun y S2 => (evE c d ρ S2).bind fun w S3 => dgetD x y w S3 := by funext ρ S; simp only [evE]
theorem ev_dpop (a b : E) : evE c (.dpop a b) = fun ρ S => (evE c a ρ S).bind fun x S1 => (isDicU x S1).bind fun _ S1 => (evE c b ρ S1).bind fun y S2 => dpopD x y none S2 := by funext ρ S; simp only [evE]
theorem ev_dpop2 (a b d : E) : evE c (.dpop2 a b d) = fun ρ S => (evE c a ρ S).bind fun x S1 => (isDicU x S1).bind fun _ S1 => (evE c b ρ S1).bind fun y S2 => (evE c d ρ S2).bind fun w S3 => dpopD x y (some w) S3 := by funext ρ S; simp only [evE]
theorem ev_idx (a b : E) : evE c (.idx a b) = fun ρ S => (evE c a ρ S).bind fun x S1 => (chkL x S1).bind fun _ S1 => (evE c b ρ S1).bind fun y S2 => idxD x y S2 := by funext ρ S; simp only [evE]
theorem ev_ktp (es : Es) : evE c (.ktp es) = fun ρ S => (evEs c es ρ S).bind ktpD := by funext ρ S; simp only [evE]
theorem evl_srt (a : E) : evL c (.srt a) = fun ρ S => (evE c a ρ S).bind srtD := by funext ρ S; simp only [evL]
theorem evl_srtL (l : L) : evL c (.srtL l) = fun ρ S => (evL c l ρ S).bind srtLD := by funext ρ S; simp only [evL]
theorem evs_nil : evEs c .nil = fun _ S => .ok [] S := by funext ρ S; simp only [evEs]
theorem evs_cons (e : E) (es : Es) : evEs c (.cons e es) = fun ρ S => (evE c e ρ S).bind fun x S1 => (evEs c es ρ S1).bind fun xs S2 => .ok (x :: xs) S2 := by funext ρ S; simp only [evEs]
theorem evo_none : evO c .none = fun _ S => .ok none S := by funext ρ S; simp only [evO]
theorem evo_some (e : E) : evO c (.some e) = fun ρ S => (evE c e ρ S).bind intO := by funext ρ S; simp only [evO]
theorem evc_none : evC c .none = fun _ S => .ok true S := by funext ρ S; simp only [evC]
theorem evc_some (e : E) : evC c (.some e) = tb (evE c e) := by funext ρ S; simp only [evC, tb]
theorem evl_disp (es : Es) : evL c (.disp es) = fun ρ S => (evEs c es ρ S).bind lstD := by funext ρ S; simp only [evL]
theorem evl_comp (d : E) (t : Tg) (it : Src) (k : Eo) (own : List Nat) : evL c (.comp d t it k own) = fun ρ S => (evIt c it ρ S).bind fun p S1 => compL p.2 (turnC (evT c t) (evC c k) (evE c d) own ρ) p.1 [] S1 := by funext ρ S; simp only [evL]
theorem evl_cat (a b : L) : evL c (.cat a b) = fun ρ S => (evL c a ρ S).bind fun xs S1 => (evL c b ρ S1).bind fun ys S2 => catD xs ys S2 := by funext ρ S; simp only [evL]
theorem evl_catEL (a : E) (b : L) : evL c (.catEL a b) = fun ρ S => (evE c a ρ S).bind fun x S1 => (evL c b ρ S1).bind fun ys S2 => catEL x ys S2 := by funext ρ S; simp only [evL]
theorem evl_catLE (a : L) (b : E) : evL c (.catLE a b) = fun ρ S => (evL c a ρ S).bind fun xs S1 => (evE c b ρ S1).bind fun y S2 => catLE xs y S2 := by funext ρ S; simp only [evL]
theorem evl_copy (a : E) : evL c (.copy a) = fun ρ S => (evE c a ρ S).bind copyD := by funext ρ S; simp only [evL]
theorem evl_cut (a : E) (lo hi : Eo) : evL c (.cut a lo hi) = fun ρ S => (evE c a ρ S).bind fun x S1 => (evO c lo ρ S1).bind fun l S2 => (evO c hi ρ S2).bind fun h S3 => cutL S3 x l h := by funext ρ S; simp only [evL]
theorem evl_rep (a b : E) : evL c (.rep a b) = fun ρ S => (evE c a ρ S).bind fun x S1 => (evE c b ρ S1).bind fun k S2 => repD x k S2 := by funext ρ S; simp only [evL]
theorem evi_val (a : E) : evIt c (.val a) = vItV (evE c a) := by funext ρ S; simp only [evIt]
theorem evi_lst (l : L) : evIt c (.lst l) = fun ρ S => (evL c l ρ S).bind fun xs S1 => .ok (xs, fun _ => True) S1 := by funext ρ S; simp only [evIt]
theorem evi_rg1 (a : E) : evIt c (.rg1 a) = fun ρ S => (evE c a ρ S).bind rgI1 := by funext ρ S; simp only [evIt]
theorem evi_rg2 (a b : E) : evIt c (.rg2 a b) = fun ρ S => (evE c a ρ S).bind fun x S1 => (evE c b ρ S1).bind fun y S2 => rgI2 x y S2 := by funext ρ S; simp only [evIt]
theorem evt_nm (i : Nat) : evT c (.nm i) = fun d ρ S => .ok (ρ.set i (some d)) S := by funext d ρ S; simp only [evT]
theorem evt_tp (ts : Tgs) : evT c (.tp ts) = fun d ρ S => match d with | .tup xs => evTs c ts xs ρ S | _ => .bad := by funext d ρ S; cases d <;> simp only [evT]
theorem evt_sub (a b : E) : evT c (.sub a b) = fun d ρ S => (evE c a ρ S).bind fun x S1 => (evE c b ρ S1).bind fun y S2 => setD x y d ρ S2 := by funext d ρ S; simp only [evT]
theorem evts_nil : evTs c .nil = fun xs ρ S => match xs with | [] => .ok ρ S | _ => .bad := by funext xs ρ S; cases xs <;> simp only [evTs]
theorem evts_cons (t : Tg) (ts : Tgs) : evTs c (.cons t ts) = fun xs ρ S => match xs with | x :: xs => (evT c t x ρ S).bind fun ρ1 S1 => evTs c ts xs ρ1 S1 | _ => .bad := by funext xs ρ S; cases xs <;> simp only [evTs]
end
theorem m1_ok {X : Cx} {o e : PySem.Expr} {m : Str} {apos pos : Pos} (h1 : isStar e = false) (h2 : isCall o = false) (h3 : (apos.endLine == pos.line) = true) : M1 X o m apos e pos := by
  have hst : starEach [e] X.env = [(false, eval e X.env)] := star_cons (es := []) h1
  exact ⟨attr_base h2, by rw [hst]; rfl, h3, by rw [hst]; rfl⟩
theorem m2_ok {X : Cx} {o e f : PySem.Expr} {m : Str} {apos pos : Pos} (h1 : isStar e = false) (h1' : isStar f = false) (h2 : isCall o = false) (h3 : (apos.endLine == pos.line) = true) : M2 X o m apos e f pos := by
  have hst : starEach [e, f] X.env = [(false, eval e X.env), (false, eval f X.env)] := by rw [star_cons h1, star_cons (es := []) h1']; rfl
  exact ⟨attr_base h2, by rw [hst]; rfl, h3, by rw [hst]; rfl⟩
theorem starE_all {es : List PySem.Expr} (h : es.all (fun e => !isStar e) = true) : es.all (fun e => !isStarE e) = true := by
  rw [List.all_eq_true] at h ⊢
  intro e he
  have := h e he
  cases e <;> first | rfl | exact this
theorem es_nil {n : Nat} {es' : Es} (h : cEs T n B [] = some es') : (evEs (cfg P k) es' : En → Sto → R (List D)) = fun _ S => .ok [] S := by
  cases n with
  | zero => cases h
  | succ n => cases h; funext ρ S; simp only [evEs]
theorem snd_zero : Snd T P k 0 := ⟨fun h => (by cases h), fun h => (by cases h), fun h => (by cases h), fun h => (by cases h), fun h => (by cases h), fun h => (by cases h), fun h => (by cases h), fun h => (by cases h), fun h => (by cases h), fun h => (by cases h)⟩
theorem pe_pt {e : PySem.Expr} {W : WX} {ev : En → Sto → R D} (h : PE X e (dE G W ev)) (hv : isVal e = true) :
    PE X e (dE G W ev) ∧ (isIf e = false → PT X e (dT G W (tb ev))) := ⟨h, fun _ => sT_val (isTrue_val hv) h⟩
/-- calls by a name -/
theorem snd_call {n : Nat} (I : Snd T P k n) {W : WX} {f : Str} {p pos : Pos} {args : List PySem.Expr} {e' : E} (C : Ctx T P G k B X) (tk : Takes X W) (h : (if okn f && isGl B f then
          (match T.fns.lookup f with
          | some i => if B.calm && !args.isEmpty then (cEs T n B args).map (.call i) else none
          | none => if (T.hots.lookup f).isSome then (match T.hots.lookup f, args with
            | some i, [.Name x _] => if !B.calm && okn x && isVis B x then (idx B.N x).map fun j => .hot i (.var j) else none
            | _, _ => none) else if T.gcd && f == ("gcd" : Str) then (match args with | [_, _] => (cEs T n B args).map (.bi .gcd) | _ => none)
            else if T.blt.contains f then
              (if f = ("isinstance" : Str) then (match args with
                | [a, .Name t _] => if okn t && isGl B t then (match T.clss.lookup t with
                    | some c => if B.calm then none else (match a with | .Name x _ => if okn x && isVis B x then (idx B.N x).map fun i => .isE c (.var i) else none | _ => none)
                    | none => if T.blt.contains t then (match tyOf t with | some b => (cE T n B a).map fun a' => .bi b (.cons a' .nil) | none => none) else none) else none
                | _ => none)
              else match args with
                | [a] => if sureL T n a then o2 .bil (blOf B f) (cL T n B a) else o2 .bi (biOf B f) (cEs T n B [a])
                | [_, _] => if f = ("max" : Str) ∨ f = ("min" : Str) then o2 .bi (biOf B f) (cEs T n B args) else none
                | _ => none)
            else none) else none) = some e') : PE X (.Call (.Name f p) args [] pos) (dE G W (evE (cfg P k) e')) := by
  split at h
  · rename_i hf
    rw [Bool.and_eq_true] at hf
    obtain ⟨n1, n2, n3⟩ := okn_of hf.1
    have hg := C.gl hf.2
    split at h
    · -- an own def
      rename_i i hi
      split at h
      · rename_i hc
        rw [Bool.and_eq_true] at hc
        obtain ⟨es', e1, rfl⟩ := map_some h
        obtain ⟨a1, fd, ps, F, m1, m2, m3, m4, m5⟩ := C.fns f i hi
        obtain ⟨hA, hst⟩ := I.es e1 C tk
        cases args with
        | nil => cases hc.2
        | cons a as =>
          rw [List.all_cons, Bool.and_eq_true] at hst
          have hs1 : isStar a = false := by simpa using hst.1
          have hex : G.with none = G := by
            have := C.ex hc.1
            cases G; cases this; rfl
          rw [hex] at m5
          refine sE_call m5 (C.room hc.1) hg m1 m2 m3 tk (fun ds S hn => ?_) hA n1 (star_cons hs1) (star_any hst.2)
          cases k with
          | zero => rfl
          | succ k =>
            show evF P (k + 1) i ds S = .bad
            unfold evF
            rw [m4]
            dsimp only
            rw [if_neg (fun z => hn z.1)]
      · cases h
    · split at h
      · split at h
        · rename_i ih x px hih
          split at h
          · rename_i hx
            rw [Bool.and_eq_true, Bool.and_eq_true] at hx
            obtain ⟨j0, ei, rfl⟩ := map_some h
            obtain ⟨x1, x2, x3⟩ := okn_of hx.1.2
            have ha : PE X (.Name x px) (dE G W (evE (cfg P k) (.var j0))) := by
              rw [ev_var]
              exact sE_var (pe_var (i := j0) (by rw [C.N]; exact idx_get ei) (C.vis hx.2) x1 x2)
            cases hex : G.ex with
            | none =>
              refine ⟨fun pins s σ H Q I hq => ?_⟩
              obtain ⟨ρ, S, μ, hE, hS, hr⟩ := hq
              simp only [evE] at hr
              cases eq : ρ[j0]?.join with
              | none => rw [eq] at hr; exact False.elim hr
              | some d =>
                rw [eq] at hr
                cases d with
                | exc j =>
                  have e1 : ρ[j0]? = some (some (.exc j)) := by
                    cases q : ρ[j0]? with
                    | none => rw [q] at eq; cases eq
                    | some o => rw [q] at eq; cases o with
                      | none => cases eq
                      | some d' => cases eq; rfl
                  obtain ⟨v, _, a, _, z⟩ := hE.2 j0 _ e1
                  rw [hex] at z; cases z
                | _ => exact False.elim hr
            | some q =>
              obtain ⟨aq, jq⟩ := q
              obtain ⟨fa, eh, q1, q2, q3, q4⟩ := C.hot f ih hih aq jq hex
              have := sE_hot (c := cfg P k) (pos := pos) (p := p) hex q1 hg n1 q2 q3 q4 (fun d hd => evH_str _ hd) ha (star_cons rfl)
              rw [ev_hot]; exact this
          · cases h
        · cases h
      split at h
      · -- gcd
        rename_i hz
        rw [Bool.and_eq_true] at hz
        have e0 : f = "gcd" := by simpa using hz.2
        subst e0
        split at h
        · rename_i a b
          obtain ⟨es', e1, rfl⟩ := map_some h
          obtain ⟨hA, hst⟩ := I.es e1 C tk
          rw [List.all_cons, Bool.and_eq_true] at hst
          have hs1 : isStar a = false := by simpa using hst.1
          exact sE_callF cd_gcd hg (C.gcd hz.1) hA n1 (star_cons hs1) (star_any hst.2)
        · cases h
      · split at h
        · rename_i hb
          have hm := C.blt f hb
          split at h
          · -- isinstance
            rename_i e0
            subst e0
            split at h
            · rename_i a t p2
              split at h
              · rename_i ht
                rw [Bool.and_eq_true] at ht
                obtain ⟨t1, t2, t3⟩ := okn_of ht.1
                have hgt := C.gl ht.2
                split at h
                · rename_i c hc
                  split at h
                  · cases h
                  · split at h
                    · rename_i x px
                      split at h
                      · rename_i hx
                        rw [Bool.and_eq_true] at hx
                        obtain ⟨i, ei, rfl⟩ := map_some h
                        obtain ⟨x1, x2, x3⟩ := okn_of hx.1
                        have ha : PE X (.Name x px) (dE G W (evE (cfg P k) (.var i))) := by
                          rw [ev_var]
                          exact sE_var (pe_var (i := i) (by rw [C.N]; exact idx_get ei) (C.vis hx.2) x1 x2)
                        have hX := C.clss t c hc
                        have hT : PE X (.Name t p2) (tC (.ref (G.cl c))) := pe_glob hgt hX.mg rfl t1
                        cases hex : G.ex with
                        | none =>
                          refine ⟨fun pins s σ H Q I hq => ?_⟩
                          obtain ⟨ρ, S, μ, hE, hS, hr⟩ := hq
                          simp only [evE] at hr
                          cases eq : ρ[i]?.join with
                          | none => rw [eq] at hr; exact False.elim hr
                          | some d =>
                            rw [eq] at hr
                            cases d with
                            | exc j =>
                              have e1 : ρ[i]? = some (some (.exc j)) := by
                                cases q : ρ[i]? with
                                | none => rw [q] at eq; cases eq
                                | some o => rw [q] at eq; cases o with
                                  | none => cases eq
                                  | some d' => cases eq; rfl
                              obtain ⟨v, _, a, _, z⟩ := hE.2 i _ e1
                              rw [hex] at z; cases z
                            | _ => exact False.elim hr
                        | some q =>
                          obtain ⟨aq, jq⟩ := q
                          have := sE_isE (k := c) (pos := pos) (p := p) hex (C.exq aq jq hex) hg hm ha hT (star_cons rfl) fun b hb => (C.sub jq c b hb).2.1
                          rw [ev_isE]; exact this
                      · cases h
                    · cases h
                · split at h
                  · rename_i hbt
                    split at h
                    · rename_i b hty
                      obtain ⟨a', e1, rfl⟩ := map_some h
                      obtain ⟨ha, _⟩ := I.e e1 C tk
                      obtain ⟨T', g1, g2⟩ := ty_ok hty
                      have hT : PE X (.Name t p2) (tC (.ty T')) := pe_bltn hgt (C.blt t hbt) g1 rfl t3 t1
                      have hsa : isStar a = false := cE_star e1
                      have := sE_isi (bi := b) (pos := pos) (p := p) C.K hg hm boot_isinstance ha hT (star_cons hsa) g2
                      refine this.weak fun σ H Q ⟨ρ, S, μ, hE, hS, h⟩ => ⟨ρ, S, μ, hE, hS, ?_⟩
                      have e3 : evE (cfg P k) (.bi b (.cons a' .nil)) ρ S = (evE (cfg P k) a' ρ S).bind fun x S1 => biD b [x] S1 := by
                        simp only [evE, evEs]
                        cases evE (cfg P k) a' ρ S <;> rfl
                      rw [e3] at h
                      exact h
                    · cases h
                  · cases h
              · cases h
            · cases h
          · split at h
            · rename_i a
              split at h
              · obtain ⟨b, l, e1, e2, rfl⟩ := o2_some h
                have ha := I.l e2 C tk
                have hsa : isStar a = false := cL_star e2
                exact bil_ok C e1 hg hm ha (star_cons hsa)
              · obtain ⟨b, es', e1, e2, rfl⟩ := o2_some h
                obtain ⟨hA, hst⟩ := I.es e2 C tk
                rw [List.all_cons, Bool.and_eq_true] at hst
                have hs1 : isStar a = false := by simpa using hst.1
                rcases bi_ok C e1 with ⟨id, g1, g2⟩ | ⟨T', g1, g2⟩
                · exact sE_callB g2 hg hm g1 hA n3 n1 (star_cons hs1) (star_any hst.2)
                · exact sE_callTy g2 hg hm g1 hA n3 n1 (star_cons hs1) (star_any hst.2)
            · rename_i a b
              split at h
              · obtain ⟨b, es', e1, e2, rfl⟩ := o2_some h
                obtain ⟨hA, hst⟩ := I.es e2 C tk
                rw [List.all_cons, Bool.and_eq_true] at hst
                have hs1 : isStar a = false := by simpa using hst.1
                rcases bi_ok C e1 with ⟨id, g1, g2⟩ | ⟨T', g1, g2⟩
                · exact sE_callB g2 hg hm g1 hA n3 n1 (star_cons hs1) (star_any hst.2)
                · exact sE_callTy g2 hg hm g1 hA n3 n1 (star_cons hs1) (star_any hst.2)
              · cases h
            · cases h
        · cases h
  · cases h
theorem snd_cmp1 {n : Nat} (I : Snd T P k n) {W : WX} {a b : PySem.Expr} {o : CmpOp} {pos : Pos} {e' : E} (C : Ctx T P G k B X) (tk : Takes X W) (h : (match o, b with
        | .Is, .Constant .none _ _ => (cE T n B a).map (.isN false)
        | .IsNot, .Constant .none _ _ => (cE T n B a).map (.isN true)
        | .In, b => if isSet b then none else o2 (.mem false) (cE T n B a) (cE T n B b)
        | .NotIn, b => if isSet b then none else o2 (.mem true) (cE T n B a) (cE T n B b)
        | o, b => match cmOf o with | some p => o2 (.cmp p) (cE T n B a) (cE T n B b) | none => none) = some e') :
    PE X (.Compare a [o] [b] pos) (dE G W (evE (cfg P k) e')) ∧ PT X (.Compare a [o] [b] pos) (dT G W (tb (evE (cfg P k) e'))) := by
  split at h
  · obtain ⟨a', e1, rfl⟩ := map_some h
    obtain ⟨ha, _⟩ := I.e e1 C tk
    rw [ev_isN]
    exact ⟨sE_isN ha, sT_isN ha⟩
  · obtain ⟨a', e1, rfl⟩ := map_some h
    obtain ⟨ha, _⟩ := I.e e1 C tk
    rw [ev_isN]
    exact ⟨sE_notN ha, sT_notN ha⟩
  · split at h
    · cases h
    · rename_i hs
      obtain ⟨a', b', e1, e2, rfl⟩ := o2_some h
      obtain ⟨ha, _⟩ := I.e e1 C tk
      obtain ⟨hb, _⟩ := I.e e2 C tk
      rw [ev_mem]
      have hm : behindInMarks .In b = false := marks_set (by simpa using hs)
      exact ⟨sE_cmp (od_in C.K C.units) ha hb hm, sT_cmp (od_in C.K C.units) ha hb hm⟩
  · split at h
    · cases h
    · rename_i hs
      obtain ⟨a', b', e1, e2, rfl⟩ := o2_some h
      obtain ⟨ha, _⟩ := I.e e1 C tk
      obtain ⟨hb, _⟩ := I.e e2 C tk
      rw [ev_mem]
      have hm : behindInMarks .NotIn b = false := marks_set (by simpa using hs)
      exact ⟨sE_cmp (od_notIn C.K C.units) ha hb hm, sT_cmp (od_notIn C.K C.units) ha hb hm⟩
  · split at h
    · rename_i p hp
      obtain ⟨a', b', e1, e2, rfl⟩ := o2_some h
      obtain ⟨ha, _⟩ := I.e e1 C tk
      obtain ⟨hb, _⟩ := I.e e2 C tk
      rw [ev_cmp]
      exact ⟨sE_cmp (od_cm C.K C.units hp) ha hb (marks_cm hp), sT_cmp (od_cm C.K C.units hp) ha hb (marks_cm hp)⟩
    · cases h
theorem last_cm {o p : CmpOp} {q : Cm} {b c : PySem.Expr} (h : cmOf p = some q) : lastMarks [o, p] [b, c] = false := marks_cm (o := p) h
theorem snd_ky {n : Nat} (I : Snd T P k n) {W : WX} {b : PySem.Expr} {b' : E} (C : Ctx T P G k B X) (tk : Takes X W) (h : kyOf b (cEs T n B (tupEs b)) (cE T n B b) = some b') : PE X b (dE G W (evE (cfg P k) b')) := by
  unfold kyOf at h
  split at h
  · rename_i ht
    obtain ⟨es', e1, rfl⟩ := map_some h
    rw [ev_ktp]
    cases b with
    | Tuple es k p => exact sE_ktp (I.es e1 C tk).1
    | _ => cases ht
  · exact (I.e h C tk).1
theorem snd_e {n : Nat} (I : Snd T P k n) {W : WX} {e : PySem.Expr} {e' : E} (h : cE T (n + 1) B e = some e') (C : Ctx T P G k B X) (tk : Takes X W) : PE X e (dE G W (evE (cfg P k) e')) ∧ (isIf e = false → PT X e (dT G W (tb (evE (cfg P k) e')))) := by
  unfold cE at h
  split at h
  · rename_i l hl
    cases h
    have hL := I.l hl C tk
    rw [ev_new]
    refine pe_pt (sE_new hL) ?_
    cases n with
    | zero => cases hl
    | succ n => cases e <;> first | rfl | cases hl
  · rename_i hl
    split at h
    · -- a name
      rename_i x p
      split at h
      · rename_i hx
        obtain ⟨x1, x2, x3⟩ := okn_of hx
        split at h
        · rename_i hv
          obtain ⟨i, ei, rfl⟩ := map_some h
          rw [ev_var]
          exact pe_pt (sE_var (pe_var (i := i) (by rw [C.N]; exact idx_get ei) (C.vis hv) x1 x2)) rfl
        · split at h
          · rename_i hg
            obtain ⟨d, ed, rfl⟩ := map_some h
            obtain ⟨v, u, m1, m2, m3⟩ := C.consts x d ed
            rw [ev_cst]
            exact pe_pt (sE_cst (pe_glob (C.gl hg) m1 m2 x1) m3) rfl
          · cases h
      · cases h
    · cases h; rw [ev_cst]; exact pe_pt (sE_cst pe_int fun _ _ => rfl) rfl
    · cases h; rw [ev_cst]; exact pe_pt (sE_cst pe_bl fun _ _ => rfl) rfl
    · cases h; rw [ev_cst]; exact pe_pt (sE_cst pe_non fun _ _ => rfl) rfl
    · cases h; rw [ev_cst]; exact pe_pt (sE_cst pe_str fun _ _ => rfl) rfl
    · -- an operator
      split at h
      · rename_i q hq
        obtain ⟨a', b', e1, e2, rfl⟩ := o2_some h
        rw [ev_bin]
        exact pe_pt (sE_bin (od_bop C.K hq) (I.e e1 C tk).1 (I.e e2 C tk).1) rfl
      · cases h
    · obtain ⟨a', e1, rfl⟩ := map_some h
      rw [ev_neg]
      exact pe_pt (sE_neg (I.e e1 C tk).1) rfl
    · split at h
      · cases h
      · rename_i hi
        obtain ⟨a', e1, rfl⟩ := map_some h
        rw [ev_no]
        exact ⟨sE_not (I.e e1 C tk).1, fun _ => sT_not ((I.e e1 C tk).2 (by simpa using hi))⟩
    · obtain ⟨h1, h2⟩ := I.b (pos := _) h C tk
      exact ⟨h1, fun _ => h2.pt⟩
    · obtain ⟨h1, h2⟩ := snd_cmp1 (pos := _) I C tk h
      exact ⟨h1, fun _ => h2⟩
    · split at h
      · rename_i o' p' a' ho hp ha
        obtain ⟨b', c', e1, e2, rfl⟩ := o2_some h
        rw [ev_chn]
        have h1 := (I.e ha C tk).1
        have h2 := (I.e e1 C tk).1
        have h3 := (I.e e2 C tk).1
        exact ⟨sE_chn (od_cm C.K C.units ho) (od_cm C.K C.units hp) h1 h2 h3 (last_cm hp), fun _ => sT_chn (od_cm C.K C.units ho) (od_cm C.K C.units hp) h1 h2 h3 (last_cm hp)⟩
      · cases h
    · split at h
      · cases h
      · rename_i hi
        split at h
        · rename_i t' ht
          obtain ⟨b', c', e1, e2, rfl⟩ := o2_some h
          rw [ev_ite]
          exact ⟨sE_ite ((I.e ht C tk).2 (by simpa using hi)) (I.e e1 C tk).1 (I.e e2 C tk).1, fun z => by cases z⟩
        · cases h
    · obtain ⟨es', e1, rfl⟩ := map_some h
      rw [ev_tup]
      exact pe_pt (sE_tup (I.es e1 C tk).1) rfl
    · split at h
      · rename_i a' ha
        obtain ⟨l', h', e1, e2, rfl⟩ := o2_some h
        rw [ev_sl]
        exact pe_pt (sE_sl C.K (I.e ha C tk).1 (I.o e1 C tk) (I.o e2 C tk)) rfl
      · cases h
    · obtain ⟨a', e1, rfl⟩ := map_some h
      rw [ev_rev]
      exact pe_pt (sE_rev C.K (I.e e1 C tk).1) rfl
    · cases h
    · rename_i a b p hn1 hn0 hn2
      obtain ⟨a', b', e1, e2, rfl⟩ := o2_some h
      rw [ev_ix]
      refine pe_pt (sE_ix C.K (by have := C.units; omega) (I.e e1 C tk).1 (snd_ky I C tk e2) (plain_ix ?_)) rfl
      cases b with
      | Slice lo hi st pp =>
        cases st with
        | none => exact absurd rfl (hn1 lo hi pp)
        | some s => exact absurd rfl (hn2 lo hi s pp)
      | _ => rfl
    · rename_i f fp args pos
      split at h
      · rename_i Cn hC
        split at h
        · rename_i hf
          rw [Bool.and_eq_true, Bool.and_eq_true] at hf
          obtain ⟨⟨hf1, hf2⟩, hc⟩ := hf
          obtain ⟨n1, n2, n3⟩ := okn_of hf1
          obtain ⟨es', e1, rfl⟩ := map_some h
          obtain ⟨hA, hst⟩ := I.es e1 C tk
          obtain ⟨i, hi, hm, hM⟩ := C.make f Cn hC
          have hex : G.with none = G := by
            have := C.ex hc
            cases G; cases this; rfl
          rw [hex] at hM
          have main := sE_make (p := fp) (pos := pos) hM (C.room hc) tk (C.gl hf2) hm n1 hA (starE_all hst) (star_any hst) (fun e => by subst e; exact es_nil e1)
          refine pe_pt (main.weak fun σ H Q h => ?_) rfl
          rw [ev_make] at h
          have e2 : (fun ρ S => (evEs (cfg P k) es' ρ S).bind fun xs S1 => makeD (cfg P k) Cn xs S1) = (fun ρ S => (evEs (cfg P k) es' ρ S).bind fun xs S1 => (evF1 P k i (.ref S1.length :: xs) (S1 ++ [.ins Cn []])).bind fun d S2 => nonD S1.length d S2) := by
            funext ρ S
            congr 1
            funext xs S1
            unfold makeD
            show (match P.init Cn with | some f => _ | none => _) = _
            rw [hi]
          rw [e2] at h
          exact h
        · cases h
      · exact pe_pt (snd_call I C tk h) rfl
    · cases h
      rw [ev_dnew]
      cases T.dts.contains _ with
      | true => exact pe_pt sE_dnewT rfl
      | false => exact pe_pt sE_dnewK rfl
    · split at h
      · cases h
      · rename_i hs
        simp only [Bool.or_eq_true, Bool.not_eq_true', not_or, Bool.not_eq_true, Bool.not_eq_false] at hs
        obtain ⟨⟨h1, h2⟩, h3⟩ := hs
        obtain ⟨o', a', e1, e2, rfl⟩ := o2_some h
        rw [ev_dget1]
        exact pe_pt (sE_dget1 (by have := C.units; omega) (I.e e1 C tk).1 (snd_ky I C tk e2) (m1_ok h1 h2 h3)) rfl
    · split at h
      · cases h
      · rename_i hs
        simp only [Bool.or_eq_true, Bool.not_eq_true', not_or, Bool.not_eq_true, Bool.not_eq_false] at hs
        obtain ⟨⟨⟨h1, h1'⟩, h2⟩, h3⟩ := hs
        split at h
        · rename_i o' e0
          obtain ⟨a', b', e1, e2, rfl⟩ := o2_some h
          rw [ev_dget]
          exact pe_pt (sE_dget (by have := C.units; omega) (I.e e0 C tk).1 (snd_ky I C tk e1) (I.e e2 C tk).1 (m2_ok h1 h1' h2 h3)) rfl
        · cases h
    · split at h
      · cases h
      · rename_i hs
        simp only [Bool.or_eq_true, Bool.not_eq_true', not_or, Bool.not_eq_true, Bool.not_eq_false] at hs
        obtain ⟨⟨h1, h2⟩, h3⟩ := hs
        obtain ⟨o', a', e1, e2, rfl⟩ := o2_some h
        rw [ev_dpop]
        exact pe_pt (sE_dpop (I.e e1 C tk).1 (I.e e2 C tk).1 (m1_ok h1 h2 h3)) rfl
    · split at h
      · cases h
      · rename_i hs
        simp only [Bool.or_eq_true, Bool.not_eq_true', not_or, Bool.not_eq_true, Bool.not_eq_false] at hs
        obtain ⟨⟨⟨h1, h1'⟩, h2⟩, h3⟩ := hs
        split at h
        · rename_i o' e0
          obtain ⟨a', b', e1, e2, rfl⟩ := o2_some h
          rw [ev_dpop2]
          exact pe_pt (sE_dpop2 (I.e e0 C tk).1 (I.e e1 C tk).1 (I.e e2 C tk).1 (m2_ok h1 h1' h2 h3)) rfl
        · cases h
    · split at h
      · cases h
      · rename_i hs
        split at h
        · cases h
        · rename_i hc
          split at h
          · rename_i hline
            obtain ⟨o', a', e1, e2, rfl⟩ := o2_some h
            rw [ev_app]
            have hst : starEach [_] X.env = [(false, eval _ X.env)] := star_cons (es := []) (by simpa using hs)
            exact pe_pt (sE_app C.K (I.e e1 C tk).1 (I.e e2 C tk).1 (attr_base (by simpa using hc)) hst (by rw [hst]; rfl) hline) rfl
          · cases h
    · split at h
      · cases h
      · rename_i hs
        simp only [Bool.or_eq_true, Bool.not_eq_true', not_or, Bool.not_eq_true, Bool.not_eq_false] at hs
        obtain ⟨⟨h1, h2⟩, h3⟩ := hs
        obtain ⟨o', a', e1, e2, rfl⟩ := o2_some h
        rw [ev_idx]
        have hst : starEach [_] X.env = [(false, eval _ X.env)] := star_cons (es := []) h1
        exact pe_pt (sE_idx C.K C.units (I.e e1 C tk).1 (I.e e2 C tk).1 (attr_base h2) hst (by rw [hst]; rfl) h3) rfl
    · split at h
      · cases h
      · rename_i hs
        simp only [Bool.or_eq_true, Bool.not_eq_true', not_or, Bool.not_eq_true, Bool.not_eq_false, decide_eq_true_eq, decide_eq_false_iff_not, Classical.not_not] at hs
        obtain ⟨⟨⟨h1, h2⟩, h3⟩, h4⟩ := hs
        obtain ⟨o', es', e1, e2, rfl⟩ := o2_some h
        obtain ⟨hA, hst⟩ := I.es e2 C tk
        have hex : G.with none = G := by
          have := C.ex h4
          cases G; cases this; rfl
        rw [ev_meth]
        exact pe_pt (sE_meth (ev := evF P k) (pf := fun _ => none) (fun Cn i hi => by have := C.meth Cn _ i hi; rw [hex] at this; exact this) (C.room h4) tk (I.e e1 C tk).1 hA (attr_base h1) (starE_all hst) h3 h2 (star_any hst) (fun e => by subst e; exact es_nil e2)) rfl
    · split at h
      · cases h
      · rename_i hs
        obtain ⟨o', e1, rfl⟩ := map_some h
        rw [ev_fld]
        exact pe_pt (sE_fld (fun Cn hC => C.fok Cn _ hC) (I.e e1 C tk).1 (attr_base (by simpa using hs))) rfl
    · cases h
end
end SB

namespace SB
open PySem PySem.Spec PyProof.Rows L2
open Classical
section
variable {T : Tab} {P : Prg} {G : Pl} {k : Nat} {B : Blk} {X : Cx}
theorem snd_b {n : Nat} (I : Snd T P k n) {W : WX} {o : BoolOp} {es : List PySem.Expr} {e' : E} {pos : Pos} (h : cB T (n + 1) B o es = some e') (C : Ctx T P G k B X) (tk : Takes X W) :
    PE X (.BoolOp o es pos) (dE G W (evE (cfg P k) e')) ∧ PW X (.BoolOp o es pos) (dT G W (tb (evE (cfg P k) e'))) := by
  unfold cB at h
  split at h
  · cases h
  · split at h
    · cases h
    · rename_i hi
      obtain ⟨h1, h2⟩ := I.e h C tk
      refine ⟨pe_one h1, ?_⟩
      have h2 := h2 (by simpa using hi)
      cases o with
      | And => exact pw_and1 h2
      | Or => exact pw_or1 h2
  · rename_i e f r
    split at h
    · cases h
    · rename_i hi
      split at h
      · obtain ⟨a', b', e1, e2, rfl⟩ := o2_some h
        obtain ⟨h1, h2⟩ := I.e e1 C tk
        obtain ⟨h3, h4⟩ := I.b (pos := pos) e2 C tk
        rw [ev_and]
        exact ⟨sE_and h1 h3, sW_and (h2 (by simpa using hi)) h4⟩
      · obtain ⟨a', b', e1, e2, rfl⟩ := o2_some h
        obtain ⟨h1, h2⟩ := I.e e1 C tk
        obtain ⟨h3, h4⟩ := I.b (pos := pos) e2 C tk
        rw [ev_or]
        exact ⟨sE_or h1 h3, sW_or (h2 (by simpa using hi)) h4⟩
theorem snd_es {n : Nat} (I : Snd T P k n) {W : WX} {es : List PySem.Expr} {e' : Es} (h : cEs T (n + 1) B es = some e') (C : Ctx T P G k B X) (tk : Takes X W) : PA X es (dA G W (evEs (cfg P k) e')) ∧ es.all (fun e => !isStar e) = true := by
  unfold cEs at h
  split at h
  · cases h; rw [evs_nil]; exact ⟨sA_nil, rfl⟩
  · rename_i e r
    split at h
    · cases h
    · rename_i hs
      have hs : isStar e = false := by simpa using hs
      obtain ⟨a', b', e1, e2, rfl⟩ := o2_some h
      obtain ⟨h2, h3⟩ := I.es e2 C tk
      rw [evs_cons]
      exact ⟨sA_cons (I.e e1 C tk).1 h2 (star_cons hs), by rw [List.all_cons, hs, h3]; rfl⟩
theorem snd_o {n : Nat} (I : Snd T P k n) {W : WX} {o : Option PySem.Expr} {e' : Eo} (h : cO T (n + 1) B o = some e') (C : Ctx T P G k B X) (tk : Takes X W) : PO X o (dO G W (evO (cfg P k) e')) := by
  unfold cO at h
  split at h
  · cases h; rw [evo_none]; exact sO_none
  · obtain ⟨a', e1, rfl⟩ := map_some h
    rw [evo_some]
    exact sO_some (I.e e1 C tk).1
theorem snd_cut {n : Nat} (I : Snd T P k n) {W : WX} {e : PySem.Expr} {e' : L} (h : cCut T (n + 1) B e = some e') (C : Ctx T P G k B X) (tk : Takes X W) : PE X e (dL G W (evL (cfg P k) e')) := by
  unfold cCut at h
  split at h
  · split at h
    · rename_i a' ha
      obtain ⟨l', h', e1, e2, rfl⟩ := o2_some h
      rw [evl_cut]
      exact sL_cut C.K (I.e ha C tk).1 (I.o e1 C tk) (I.o e2 C tk)
    · cases h
  · cases h
theorem snd_ifs {n : Nat} (I : Snd T P k n) {W : WX} {es : List PySem.Expr} {e' : Eo} (h : cIfs T (n + 1) B es = some e') (C : Ctx T P G k B X) (tk : Takes X W) : PTs X es (dT G W (evC (cfg P k) e')) := by
  unfold cIfs at h
  split at h
  · cases h
    rw [evc_none]
    refine ⟨fun pins s σ H Q I h => ?_⟩
    obtain ⟨ρ, S, μ, hE, hS, h⟩ := h
    exact pts_nil.run pins s σ H Q I (Run.now h hS rfl)
  · split at h
    · cases h
    · rename_i hi
      obtain ⟨a', e1, rfl⟩ := map_some h
      rw [evc_some]
      exact pts_one ((I.e e1 C tk).2 (by simpa using hi))
  · cases h
theorem own_names {N : List Str} : ∀ {ns : List (Str × NameKind)} {p : Str × Nat}, p ∈ ownOf N ns → N[p.2]? = some p.1
  | [], p, h => by cases h
  | (x, kd) :: r, p, h => by
    unfold ownOf at h
    cases e : idx N x with
    | none => rw [e] at h; cases kd <;> exact own_names h
    | some i =>
      rw [e] at h
      cases kd
      · rcases List.mem_cons.mp h with rfl | h
        · exact idx_get e
        · exact own_names h
      · rcases List.mem_cons.mp h with rfl | h
        · exact idx_get e
        · exact own_names h
      · exact own_names h
      · exact own_names h
      · exact own_names h
theorem snd_l {n : Nat} (I : Snd T P k n) {W : WX} {e : PySem.Expr} {e' : L} (h : cL T (n + 1) B e = some e') (C : Ctx T P G k B X) (tk : Takes X W) : PE X e (dL G W (evL (cfg P k) e')) := by
  unfold cL at h
  split at h
  · obtain ⟨es', e1, rfl⟩ := map_some h
    rw [evl_disp]
    exact sL_disp (I.es e1 C tk).1
  · rename_i elt tg iter ifs as scope pos
    split at h
    · rename_i hc
      obtain ⟨rfl, hset, hcalm, hblk⟩ := hc
      split at h
      · rename_i it t c d e1 e2 e3 e4
        split at h
        · rename_i hall
          cases h
          rw [evl_comp]
          have ok : BlkOk X.N X.env.scope scope (ownOf B.N scope.names) := by
            rw [C.N, C.sc]; exact blkOk_by hblk
          have CB := fun s H Cc cl fp => C.blk hcalm s H scope cl Cc fp
          refine sL_comp (C.calm hcalm) (by rw [C.N]; exact C.nd) (I.src e1 C tk) ok (fun s H Cc cl fp => I.tg e2 (CB s H Cc cl fp)) (fun s H Cc cl fp => I.ifs e3 (CB s H Cc cl fp) takesN) (fun s H Cc cl fp => (I.e e4 (CB s H Cc cl fp) takesN).1) (fold_set hset) fun i hi => ?_
          have := List.all_eq_true.mp hall i hi
          obtain ⟨p, hp, e⟩ := List.any_eq_true.mp this
          exact List.mem_map.mpr ⟨p, hp, by simpa using e⟩
        · cases h
      · cases h
    · cases h
  · rename_i a b p
    split at h
    · obtain ⟨a', b', e1, e2, rfl⟩ := o2_some h
      rw [evl_cat]
      exact sL_cat (I.l e1 C tk) (I.l e2 C tk)
    · split at h
      · rename_i b' hb
        obtain ⟨a', e1, rfl⟩ := map_some h
        rw [evl_cat]
        exact sL_cat (I.l e1 C tk) (I.cut hb C tk)
      · obtain ⟨a', b', e1, e2, rfl⟩ := o2_some h
        rw [evl_catLE]
        exact sL_catLE (I.l e1 C tk) (I.e e2 C tk).1
    · split at h
      · rename_i b' hb
        obtain ⟨a', e1, rfl⟩ := map_some h
        rw [evl_cat]
        exact sL_cat (I.cut hb C tk) (I.l e1 C tk)
      · obtain ⟨a', b', e1, e2, rfl⟩ := o2_some h
        rw [evl_catEL]
        exact sL_catEL (I.e e1 C tk).1 (I.l e2 C tk)
    · cases h
  · split at h
    · cases h
    · rename_i hs
      obtain ⟨a', b', e1, e2, rfl⟩ := o2_some h
      rw [evl_rep]
      exact sL_rep (I.e e1 C tk).1 (I.e e2 C tk).1 (star_cons (by simpa using hs))
  · split at h
    · rename_i hc
      obtain ⟨h1, h2, h3, h4, rfl, h6⟩ := hc
      obtain ⟨a', e1, rfl⟩ := map_some h
      rw [evl_copy]
      exact sL_copy C.K (C.gl h3) (C.blt _ h6) (by decide +kernel) (I.e e1 C tk).1 (star_cons h1)
    · split at h
      · rename_i hc
        obtain ⟨h1, h2, h3, h4, rfl, h6, h7⟩ := hc
        split at h
        · obtain ⟨a', e1, rfl⟩ := map_some h
          rw [evl_srtL]
          exact sL_srtL C.K (C.gl h3) (C.blt _ h6) (by decide +kernel) (I.l e1 C tk) (star_cons h1)
        · obtain ⟨a', e1, rfl⟩ := map_some h
          rw [evl_srt]
          exact sL_srt (C.calm h7) C.K (C.gl h3) (C.blt _ h6) (by decide +kernel) (I.e e1 C tk).1 (star_cons h1)
      · cases h
  · cases h
theorem snd_src0 {n : Nat} (I : Snd T P k n) {W : WX} {e tg : PySem.Expr} {e' : Src} (h : (match cL T n B e with | some l => some (Src.lst l) | none => (cE T n B e).map .val) = some e') (C : Ctx T P G k B X) (tk : Takes X W) : PI X tg e (dI G W (evIt (cfg P k) e')) := by
  split at h
  · rename_i l hl
    cases h
    rw [evi_lst]
    exact sI_lst C.K (I.l hl C tk)
  · obtain ⟨a', e1, rfl⟩ := map_some h
    rw [evi_val]
    exact sI_val C.K (I.e e1 C tk).1
theorem snd_src {n : Nat} (I : Snd T P k n) {W : WX} {e tg : PySem.Expr} {e' : Src} (h : cSrc T (n + 1) B e = some e') (C : Ctx T P G k B X) (tk : Takes X W) : PI X tg e (dI G W (evIt (cfg P k) e')) := by
  unfold cSrc at h
  split at h
  · split at h
    · rename_i hc
      obtain ⟨rfl, h2, h3, h4⟩ := hc
      split at h
      · split at h
        · cases h
        · rename_i hs
          obtain ⟨a', e1, rfl⟩ := map_some h
          rw [evi_rg1]
          exact sI_rg1 (C.gl h3) (C.blt _ h4) (I.e e1 C tk).1 (star_cons (by simpa using hs))
      · split at h
        · cases h
        · rename_i a b hs
          have hs' : isStar a = false ∧ isStar b = false := by simpa using hs
          obtain ⟨a', b', e1, e2, rfl⟩ := o2_some h
          rw [evi_rg2]
          have s2 := star_cons (es := []) (env := X.env) hs'.2
          refine sI_rg2 (C.gl h3) (C.blt _ h4) (I.e e1 C tk).1 (I.e e2 C tk).1 ?_ s2
          rw [star_cons hs'.1, s2]; rfl
      · cases h
    · exact snd_src0 I h C tk
  · exact snd_src0 I h C tk
theorem snd_tg {n : Nat} (I : Snd T P k n) {e : PySem.Expr} {e' : Tg} (h : cTg T (n + 1) B e = some e') (C : Ctx T P G k B X) : PG X e (dG G (tgSlots e') (evT (cfg P k) e')) := by
  unfold cTg at h
  split at h
  · split at h
    · rename_i hl
      obtain ⟨i, e1, rfl⟩ := map_some h
      obtain ⟨l1, l2⟩ := C.loc hl
      rw [evt_nm]
      exact sG_nm (pg_name (by rw [C.N]; exact C.nd) (by rw [C.N]; exact idx_get e1) l1 l2)
    · cases h
  · rename_i es kk p
    split at h
    · rename_i hc
      obtain ⟨ts', e1, rfl⟩ := map_some h
      obtain ⟨h1, h2, h3⟩ := I.tgs e1 C
      rw [evt_tp]
      exact sG_tp C.K (C.calm hc) h1 assign_len (assign_idx h2) h3
    · cases h
  · split at h
    · obtain ⟨a', b', e1, e2, rfl⟩ := o2_some h
      rw [evt_sub]
      exact sG_sub (by have := C.units; omega) (I.e e1 C takesN).1 (snd_ky I C takesN e2) (assign_sub (ky_slice e2))
    · cases h
  · cases h
theorem snd_tgs {n : Nat} (I : Snd T P k n) {es : List PySem.Expr} {e' : Tgs} (h : cTgs T (n + 1) B es = some e') (C : Ctx T P G k B X) : PGs X es (dGs G (tgsSlots e') (evTs (cfg P k) e')) ∧ es.all (fun e => !isStar e) = true ∧ ∀ xs ρ S, xs.length ≠ es.length → ∀ ρ' S', evTs (cfg P k) e' xs ρ S ≠ .ok ρ' S' := by
  unfold cTgs at h
  split at h
  · cases h
    rw [evts_nil]
    refine ⟨sG_nil, rfl, fun xs ρ S hn ρ' S' z => ?_⟩
    cases xs with
    | nil => exact hn rfl
    | cons x xs => cases z
  · rename_i e r
    split at h
    · cases h
    · rename_i hs
      have hs : isStar e = false := by simpa using hs
      obtain ⟨a', b', e1, e2, rfl⟩ := o2_some h
      obtain ⟨h1, h2, h3⟩ := I.tgs e2 C
      rw [evts_cons]
      refine ⟨sG_cons (I.tg e1 C) h1 (by rw [assign_cons hs]; rfl), by rw [List.all_cons, hs, h2]; rfl, fun xs ρ S hn ρ' S' z => ?_⟩
      cases xs with
      | nil => cases z
      | cons x xs =>
        dsimp only at z
        cases e3 : evT (cfg P k) a' x ρ S with
        | ok ρ1 S1 => rw [e3] at z; exact h3 xs ρ1 S1 (fun q => hn (by simp [q])) ρ' S' z
        | err _ _ => rw [e3] at z; cases z
        | bad => rw [e3] at z; cases z
theorem snd_all : ∀ n, Snd T P k n
  | 0 => snd_zero
  | n + 1 => by
    have I := snd_all n
    exact ⟨fun h C tk => snd_e I h C tk, fun h C tk => snd_b I h C tk, fun h C tk => snd_es I h C tk, fun h C tk => snd_o I h C tk, fun h C tk => snd_cut I h C tk, fun h C tk => snd_l I h C tk, fun h C tk => snd_ifs I h C tk, fun h C tk => snd_src I h C tk, fun h C => snd_tg I h C, fun h C => snd_tgs I h C⟩
end
end SB

namespace SB
open PySem PySem.Spec PyProof.Rows L2
open Classical
section
variable (c : Cfg)
theorem es_asg (t : Tg) (e : E) : evS c (.asg t e) = fun ρ S => (evE c e ρ S).flow ρ fun d S1 => R.calm (evT c t d ρ S1) fun ρ2 S2 => .nx ρ2 S2 := by funext ρ S; simp only [evS]
theorem es_par (i j : Nat) (a b : E) : evS c (.par i j a b) = fun ρ S => (evE c a ρ S).flow ρ fun x S1 => (evE c b ρ S1).flow ρ fun y S2 => .nx ((ρ.set i (some x)).set j (some y)) S2 := by funext ρ S; simp only [evS]
theorem es_ex (e : E) : evS c (.ex e) = fun ρ S => (evE c e ρ S).flow ρ fun _ S1 => .nx ρ S1 := by funext ρ S; simp only [evS]
theorem es_ret (e : E) : evS c (.ret e) = fun ρ S => (evE c e ρ S).flow ρ fun d S1 => .rt d S1 := by funext ρ S; simp only [evS]
theorem es_retN : evS c .retN = fun _ S => .rt .non S := by funext ρ S; simp only [evS]
theorem es_ite (t : E) (a b : Ss) : evS c (.ite t a b) = fun ρ S => ((evE c t ρ S).bind toB).flow ρ fun k S1 => if k = true then evSs c a ρ S1 else evSs c b ρ S1 := by funext ρ S; simp only [evS]
theorem es_for (t : Tg) (it : Src) (b : Ss) : evS c (.forr t it b) = fun ρ S => (evIt c it ρ S).flow ρ fun p S1 => forL p.2 (fun x ρ1 S2 => R.calm (evT c t x ρ1 S2) fun ρ2 S3 => evSs c b ρ2 S3) p.1 ρ S1 := by funext ρ S; simp only [evS]
theorem es_whl (t : E) (b : Ss) : evS c (.whl t b) = fun ρ S => whileN (fun ρ1 S1 => (evE c t ρ1 S1).bind toB) (fun ρ1 S1 => evSs c b ρ1 S1) c.w ρ S := by funext ρ S; simp only [evS]
theorem es_raise (k : Nat) : evS c (.raise k) = fun ρ S => .er k ρ S := by funext ρ S; simp only [evS]
theorem es_del (a b : E) : evS c (.del a b) = fun ρ S => (evE c a ρ S).flow ρ fun x S1 => (evE c b ρ S1).flow ρ fun y S2 => (delD x y S2).flow ρ fun _ S3 => .nx ρ S3 := by funext ρ S; simp only [evS]
theorem es_pass : evS c .pass = fun ρ S => .nx ρ S := by funext ρ S; simp only [evS]
theorem es_brk : evS c .brk = fun ρ S => .bk ρ S := by funext ρ S; simp only [evS]
theorem es_cont : evS c .cont = fun ρ S => .ct ρ S := by funext ρ S; simp only [evS]
theorem es_try (b : Ss) (k : Nat) (h : Ss) : evS c (.tryE b k none h) = fun ρ S => tryF c.sub k (evSs c b ρ S) fun j ρ1 S1 => noEr (evSs c h ρ1 S1) := by funext ρ S; simp only [evS]
theorem es_tryAs (b : Ss) (k i : Nat) (h : Ss) : evS c (.tryE b k (some i) h) = fun ρ S => tryF c.sub k (evSs c b ρ S) fun j ρ1 S1 => rtOnly S1 (evSs c h (ρ1.set i (some (.exc j))) S1) := by funext ρ S; simp only [evS]
theorem ess_nil : evSs c .nil = fun ρ S => .nx ρ S := by funext ρ S; simp only [evSs]
theorem ess_cons (s : St) (ss : Ss) : evSs c (.cons s ss) = fun ρ S => seqF (evS c s ρ S) fun ρ1 S1 => evSs c ss ρ1 S1 := by funext ρ S; simp only [evSs]
end
theorem sw1 {t e : PySem.Expr} {env : PySem.Env} (h1 : ∀ ts k p, t ≠ .Tuple ts k p) (h2 : ∀ ts p, t ≠ .List ts p) : swappedStores [t] e env = pure none := by
  cases t with
  | Tuple ts k p => exact absurd rfl (h1 ts k p)
  | List ts p => exact absurd rfl (h2 ts p)
  | _ => rfl
theorem sw2 {ts : List PySem.Expr} {k : Nat} {p : Pos} {e : PySem.Expr} {env : PySem.Env} (h1 : ∀ ts k p, e ≠ .Tuple ts k p) : swappedStores [.Tuple ts k p] e env = pure none := by
  cases e with
  | Tuple ts k p => exact absurd rfl (h1 ts k p)
  | _ => rfl
theorem fm_lt {env : PySem.Env} {l : Nat} : ∀ {ts : List PySem.Expr}, (ts.filterMap fun
    | .Name id pos => if env.kindOf id == some .local && pos.line == l then some id else none
    | _ => none).length ≤ ts.length ∧ (ts.all isName = false → (ts.filterMap fun
    | .Name id pos => if env.kindOf id == some .local && pos.line == l then some id else none
    | _ => none).length < ts.length)
  | [] => ⟨Nat.le_refl _, fun h => by cases h⟩
  | t :: ts => by
    obtain ⟨h1, h2⟩ := fm_lt (env := env) (l := l) (ts := ts)
    rw [List.filterMap_cons, List.all_cons]
    constructor
    · split <;> (simp only [List.length_cons]; omega)
    · intro h
      split
      · simp only [List.length_cons]; omega
      · rename_i b hb
        have : isName t = true := by
          cases t <;> first | rfl | cases hb
        rw [this] at h
        have := h2 h
        simp only [List.length_cons]; omega
theorem sw3 {ts vs : List PySem.Expr} {k k2 : Nat} {p p2 : Pos} {env : PySem.Env} (h : ts.all isName = false) : swappedStores [.Tuple ts k p] (.Tuple vs k2 p2) env = pure none := by
  have hl := (fm_lt (env := env) (l := (ts.head?.map (·.pos.line)).getD 0) (ts := ts)).2 h
  unfold swappedStores
  simp only [pure_bind]
  split
  · rfl
  split
  · rfl
  split
  · rfl
  · rename_i hn
    exfalso
    apply hn
    rw [Bool.or_eq_true]
    exact .inl (by simp only [bne_iff_ne]; exact Nat.ne_of_lt hl)
theorem sw4 {x y : Str} {a b : PySem.Expr} {px py p p2 : Pos} {k k2 : Nat} {env : PySem.Env} (hk : env.scope.kind = .function) (hx : env.scope.names.lookup x = some .local) (hy : env.scope.names.lookup y = some .local) (hl : px.line = py.line) (ha : isStar a = false) (hb : isStar b = false) (hne : x ≠ y)
    (h1 : [a, b].all (foldedForSure 8) = false) (h2 : [a, b].all (constantsAlone 8) = false) : swappedStores [.Tuple [.Name x px, .Name y py] k p] (.Tuple [a, b] k2 p2) env = pure (some [x, y]) := by
  have kx : env.kindOf x = some .local := hx
  have ky : env.kindOf y = some .local := hy
  have hB : env.blockKind = .function := by unfold Env.blockKind; rw [hk]; rfl
  have hd : [x, y].eraseDups = [x, y] := by
    have : (y == x) = false := beq_eq_false_iff_ne.mpr (Ne.symm hne)
    simp [List.eraseDups, List.eraseDupsBy, List.eraseDupsBy.loop, this]
  unfold swappedStores
  simp only [pure_bind, hB]
  rw [if_neg (by simp)]
  rw [if_neg (fun h => by
    obtain ⟨e, he, h2⟩ := List.any_eq_true.mp h
    have hs : isStar e = false := by
      rcases List.mem_cons.mp he with rfl | he
      · exact ha
      · cases List.mem_singleton.mp he; exact hb
    cases e <;> first | exact Bool.noConfusion (show false = true from h2) | exact Bool.noConfusion (show true = false from hs))]
  simp only [List.head?_cons, Option.map_some, Option.getD_some, Expr.pos, List.filterMap_cons, List.filterMap_nil, kx, ky, hl, beq_self_eq_true, Bool.and_self, if_true]
  rw [if_neg (by rw [hd]; simp), if_neg (by rw [h1]; decide), if_neg (by rw [h2]; decide)]
section
variable {T : Tab} {P : Prg} {G : Pl} {k : Nat} {B : Blk} {X : Cx}
theorem Ctx.tr (C : Ctx T P G k B X) (hc : B.calm = true) (pn : List (Addr × Obj)) (xe : Value → Shared → Prop) (hp : PassesOwn (model X.prog X.w) X.A X.env xe) : Ctx T P G k B (X.tr pn xe) where
  N := C.N
  nd := C.nd
  sc := C.sc
  fn := C.fn
  K := C.K
  calm := C.calm
  room := C.room
  ex := C.ex
  units := C.units
  fns := C.fns
  consts := C.consts
  clss := fun x c h => let ⟨a, b, d, e⟩ := C.clss x c h; ⟨a, b, d, e⟩
  blt := C.blt
  gcd := C.gcd
  fok := C.fok
  meth := C.meth
  make := C.make
  sub := C.sub
  exq := fun a j h => by rw [C.ex hc] at h; cases h
  hots := C.hots
  hot := fun x i _ a j h => by rw [C.ex hc] at h; cases h
  stm := fun h => ⟨(C.stm h).1, (C.stm h).2.1, hp⟩
/-- in a suite: an error may be in hand -/
theorem Ctx.suite (C : Ctx T P G k B X) (hc : B.calm = true) (a : Addr) (oe : Obj) (pn : List (Addr × Obj)) (e : Option (Addr × Nat)) (hq : ∀ aq j, e = some (aq, j) → CallR (X.suite a ((a, oe) :: pn)) (.builtin "isinstance") (rIsE X.K (G.cl j) aq))
    (hh : ∀ x i, T.hots.lookup x = some i → ∀ aq j, e = some (aq, j) → ∃ f eh, P.hot i = some eh ∧ X.mg x = some (.ref f) ∧ PySem.W.keepIn X.K (.ref f) = true ∧ ∀ z, evH P.sub eh (.exc j) = some (.str z) → CallR (X.suite a ((a, oe) :: pn)) (.ref f) (spH (G.with e) aq z)) :
    Ctx T P (G.with e) k { B with calm := false, stm := false } (X.suite a ((a, oe) :: pn)) where
  N := C.N
  nd := C.nd
  sc := C.sc
  fn := C.fn
  K := C.K
  calm := fun h => by cases h
  room := fun h => by cases h
  ex := fun h => by cases h
  units := C.units
  fns := C.fns
  consts := fun x d h => by
    obtain ⟨v, u, m1, m2, m3⟩ := C.consts x d h
    exact ⟨v, u, m1, m2, fun H μ => Rep.put (C.ex hc) d v (m3 H μ)⟩
  clss := fun x c h => let ⟨a, b, d, e⟩ := C.clss x c h; ⟨a, b, d, e⟩
  blt := C.blt
  gcd := C.gcd
  fok := C.fok
  meth := C.meth
  make := C.make
  sub := C.sub
  exq := hq
  hots := C.hots
  hot := hh
  stm := fun h => by cases h
/-- what is claimed of statements -/
structure SndS (T : Tab) (P : Prg) (k n : Nat) : Prop where
  s : ∀ {G : Pl} {B : Blk} {X : Cx} {W : WX} {s : Stmt} {s' : St}, cS T n B s = some s' → Ctx T P G k B X → B.sc.kind = .function → Takes X W → PS X s (dS G W (evS (cfg P k) s'))
  ss : ∀ {G : Pl} {B : Blk} {X : Cx} {W : WX} {s : List Stmt} {s' : Ss}, cSs T n B s = some s' → Ctx T P G k B X → B.sc.kind = .function → Takes X W → PSs X s (dS G W (evSs (cfg P k) s'))
theorem cL_comp {n : Nat} {elt : PySem.Expr} {gs : List Comprehension} {scope : Scope} {pos : Pos} {l : L} (h : cL T n B (.ListComp elt gs scope pos) = some l) :
    ∃ m tg iter ifs it t c d, n = m + 1 ∧ gs = [⟨tg, iter, ifs, 0⟩] ∧ isSet iter = false ∧ B.calm = true ∧ blkC B.N B.sc scope (ownOf B.N scope.names) = true ∧ cSrc T m B iter = some it ∧ cTg T m (inBlk B scope) tg = some t ∧ cIfs T m (inBlk B scope) ifs = some c ∧ cE T m (inBlk B scope) elt = some d ∧
      (tgSlots t).all (fun i => (ownOf B.N scope.names).any fun p => p.2 == i) = true ∧ l = .comp d t it c ((ownOf B.N scope.names).map (·.2)) := by
  cases n with
  | zero => cases h
  | succ m =>
    unfold cL at h
    cases gs with
    | nil => cases h
    | cons g gs =>
      cases gs with
      | cons g2 gs => cases g; cases g2; cases h
      | nil =>
        obtain ⟨tg, iter, ifs, as⟩ := g
        dsimp only at h
        split at h
        · rename_i hc
          obtain ⟨rfl, hset, hcalm, hblk⟩ := hc
          split at h
          · rename_i it t c d e1 e2 e3 e4
            split at h
            · rename_i hall
              cases h
              exact ⟨m, tg, iter, ifs, it, t, c, d, rfl, rfl, hset, hcalm, hblk, e1, e2, e3, e4, hall, rfl⟩
            · cases h
          · cases h
        · cases h
theorem sw_cell {elt : PySem.Expr} {gs : List Comprehension} {scope : Scope} {pos py : Pos} {y : Str} {l : Nat} {env : PySem.Env} (hy : env.scope.names.lookup y = some .cell) : swapsWith (.ListComp elt gs scope pos) (some (.Name y py)) l env = pure false := by
  have ky : env.kindOf y = some .cell := hy
  unfold swapsWith
  simp only [ky]
  have : (some NameKind.cell == some NameKind.local) = false := by decide
  simp only [this, Bool.and_false, Bool.false_and]
theorem sws_cell {elt : PySem.Expr} {gs : List Comprehension} {scope : Scope} {pos py : Pos} {y : Str} {l : Nat} {env : PySem.Env} (hy : env.scope.names.lookup y = some .cell) : swapsWithSole [.Name y py] (.ListComp elt gs scope pos) l env = pure false := sw_cell (l := l) hy
theorem sw_attr {o : PySem.Expr} {f : Str} {ap : Pos} {env : PySem.Env} : ∀ (e : PySem.Expr) (l : Nat) (_ : Unit), swapsWith e (some (.Attribute o f ap)) l env = pure false := fun e l _ => by cases e <;> rfl
theorem evt_fld (c : Cfg) (a : E) (f : Str) : evT c (.fld a f) = fun d ρ S => (evE c a ρ S).bind fun x S1 => setFD c.fok x f d ρ S1 := by funext d ρ S; simp only [evT]
theorem sws_none {t e : PySem.Expr} {l : Nat} {env : PySem.Env} (h : isCp e = false) : swapsWithSole [t] e l env = pure false := sw_none (l := l) h
theorem snd_asgLc {n : Nat} {W : WX} {y : Str} {py spos : Pos} {elt : PySem.Expr} {gs : List Comprehension} {scope : Scope} {pos : Pos} {i : Nat} {l : L} (hk : B.sc.kind = .function) (hl : cL T n B (.ListComp elt gs scope pos) = some l) (hi : idx B.N y = some i) (C : Ctx T P G k B X) (tk : Takes X W)
    (hy : B.sc.names.lookup y = some .local) (hline : py.line = pos.line) (hown : (scope.names.any fun (n, k) => n == y && (k == .local || k == .cell)) = false) :
    PS X (.Assign [.Name y py] (.ListComp elt gs scope pos) spos) (dS G W (evS (cfg P k) (.asg (.nm i) (.new l)))) := by
  obtain ⟨m, tg, iter, ifs, it, t, c, d, rfl, rfl, hset, hcalm, hblk, e1, e2, e3, e4, hall, rfl⟩ := cL_comp hl
  have I := snd_all (T := T) (P := P) (k := k) m
  have ok : BlkOk X.N X.env.scope scope (ownOf B.N scope.names) := by rw [C.N, C.sc]; exact blkOk_by hblk
  have CB := fun s H Cc cl fp => C.blk hcalm s H scope cl Cc fp
  have hyl : X.env.scope.names.lookup y = some .local := by rw [C.sc]; exact hy
  have main := ss_setLc (spos := spos) (i := i) (C.calm hcalm) (by rw [C.N]; exact C.nd) (by rw [C.N]; exact idx_get hi) hyl
    (sw_true (py := py) (pos := pos) (by rw [C.sc]; exact hk) hyl (by rw [hline]; exact beq_self_eq_true _) hown) (I.src (W := W) e1 C tk) ok (fun s H Cc cl fp => I.tg e2 (CB s H Cc cl fp)) (fun s H Cc cl fp => I.ifs e3 (CB s H Cc cl fp) takesN) (fun s H Cc cl fp => (I.e e4 (CB s H Cc cl fp) takesN).1) (fold_set hset) (fun j hj => by
      have := List.all_eq_true.mp hall j hj
      obtain ⟨p, hp, e⟩ := List.any_eq_true.mp this
      exact List.mem_map.mpr ⟨p, hp, by simpa using e⟩)
  rw [es_asg, ev_new, evl_comp, evt_nm]
  exact main
/-- what a def called in a suite answers -/
theorem evH_ev {c : Cfg} {x : D} {ρ : En} {S : Sto} (h0 : ρ[0]?.join = some x) : ∀ (e : E) {d : D}, evH c.sub e x = some d → evE c e ρ S = .ok d S
  | .cst (.str s), d, h => by
    unfold evH at h
    rw [← Option.some.inj h, ev_cst]
  | .ite (.isE k (.var 0)) (.cst (.str s)) (.cst (.str t)), d, h => by
    unfold evH at h
    cases x with
    | exc j =>
      have h : (c.sub j k).map (fun b => if b = true then D.str s else D.str t) = some d := h
      cases hs : c.sub j k with
      | none => rw [hs] at h; cases h
      | some b =>
        rw [hs] at h
        have h := (Option.some.inj h).symm
        subst h
        simp only [evE, h0, ro]
        show ((excD c.sub k (.exc j) S).bind toB).bind _ = _
        unfold excD
        dsimp only
        rw [hs]
        cases b <;> rfl
    | _ => cases h
  | .bin .add a b, d, h => by
    unfold evH at h
    split at h
    · rename_i s t e1 e2
      split at h
      · rename_i hl
        rw [← Option.some.inj h]
        have i1 := evH_ev (S := S) h0 a e1
        have i2 := evH_ev (S := S) h0 b e2
        simp only [evE]
        rw [i1]
        show (evE c b ρ S).bind _ = _
        rw [i2]
        show bop .add (.str s) (.str t) S = _
        exact if_pos (by rw [sizeLine_eq]; omega)
      · cases h
    · cases h
theorem hot_made (HT : T.hots = [] ∨ ∀ m, SndS { T with hots := [] } P k m) (C : Ctx T P G k B X) (hc : B.calm = true) {a : Addr} {j : Nat} {oe : Obj} {pn : List (Addr × Obj)} (hz : Zc (.ref (G.cl j)) none oe) (hf : ∃ vs, oe.data = .fields vs) (hq : ExcC X.K (G.cl j)) {x : Str} {i : Nat} (hx : T.hots.lookup x = some i) :
    ∃ f eh, P.hot i = some eh ∧ X.mg x = some (.ref f) ∧ PySem.W.keepIn X.K (.ref f) = true ∧ ∀ z, evH P.sub eh (.exc j) = some (.str z) → CallR (X.suite a ((a, oe) :: pn)) (.ref f) (spH (G.with (some (a, j))) a z) := by
  rcases HT with HT | HT
  · rw [HT] at hx; cases hx
  obtain ⟨f, fd, qual, y, st, N, m, eh, m1, m2, m3, m4, m5, m6, m7, m8⟩ := C.hots x i hx
  subst m7
  have rm := C.room hc
  refine ⟨f, eh, m6, m1, m2, fun z ez => ?_⟩
  refine call_hot (X := X.suite a ((a, oe) :: pn)) (oe := oe) m3 m5 m4 List.mem_cons_self (show X.A.depth < recursionLimit by have := rm.dp; omega) fun cdv s H E Q hh => ?_
  obtain ⟨_, μ, S, hS, hQ⟩ := hh
  have CH : Ctx { T with hots := [] } P (G.with (some (a, j))) k ⟨[y], defScope st, fun _ => true, false, false⟩ (L2H.cxH (L2.CX X.prog X.w) X.prog X.w X.K X.mg X.base [y] qual (defScope st) f cdv (X.suite a ((a, oe) :: pn)).A (X.suite a ((a, oe) :: pn)).stack s H E (a, oe)) := {
    N := rfl
    nd := by simp
    sc := rfl
    fn := fun _ _ => rfl
    K := C.K
    calm := fun h => by cases h
    room := fun h => by cases h
    ex := fun h => by cases h
    units := by have := rm.un; show X.A.units + 3 + 65 < cLine; omega
    fns := C.fns
    consts := fun x d h => by
      obtain ⟨v, u, n1, n2, n3⟩ := C.consts x d h
      exact ⟨v, u, n1, n2, fun H μ => Rep.put (C.ex hc) d v (n3 H μ)⟩
    clss := fun x c h => let ⟨a, b, d, e⟩ := C.clss x c h; ⟨a, b, d, e⟩
    blt := C.blt
    gcd := C.gcd
    fok := C.fok
    meth := C.meth
    make := C.make
    sub := C.sub
    exq := fun aq j' e => by
      cases e
      exact isE_pin List.mem_cons_self hq hz hf
    hots := fun x i h => by cases h
    hot := fun x i h => by cases h
    stm := fun h => by cases h }
  refine ⟨_, (HT m).ss m8 CH m5.kind takesN, [some (.exc j)], S, μ, ⟨rfl, fun i d e => ?_⟩, hS, ?_⟩
  · cases i with
    | zero =>
      cases (show some (some (D.exc j)) = some (some d) from e)
      exact ⟨.ref a, rfl, a, rfl, rfl⟩
    | succ i => cases (show (none : Option (Option D)) = _ from e)
  · rw [ess_cons, es_ret]
    have e1 := evH_ev (c := cfg P k) (ρ := [some (.exc j)]) (S := S) (x := .exc j) rfl eh ez
    show FlOk _ _ _ _ (seqF ((evE (cfg P k) eh [some (.exc j)] S).flow _ _) _) _
    rw [e1]
    exact fun v H' μ' l s2 q2 => by
      cases (show v = .str z from q2)
      exact hQ H' μ' l s2
theorem snd_s {n : Nat} (HT : T.hots = [] ∨ ∀ m, SndS { T with hots := [] } P k m) (J : SndS T P k n) {W : WX} {s : Stmt} {s' : St} (h : cS T (n + 1) B s = some s') (C : Ctx T P G k B X) (hk : B.sc.kind = .function) (tk : Takes X W) : PS X s (dS G W (evS (cfg P k) s')) := by
  have I := snd_all (T := T) (P := P) (k := k) n
  unfold cS at h
  split at h
  · cases h; rw [es_pass]; exact ss_pass
  · obtain ⟨a', b', e1, e2, rfl⟩ := o2_some h
    rw [es_del]
    exact ss_del (I.e e1 C tk).1 (I.e e2 C tk).1
  · cases h; rw [es_brk]; exact ss_brk
  · cases h; rw [es_cont]; exact ss_cont
  · cases h; rw [es_retN]; exact ss_retN
  · obtain ⟨a', e1, rfl⟩ := map_some h
    rw [es_ret]
    exact ss_ret (I.e e1 C tk).1
  · cases h; rw [es_pass]
    exact ps_doc.weak fun D σ H ⟨ρ, S, μ, hE, hS, h⟩ => h σ H μ .refl hS hE
  · split at h
    · cases h
    · rename_i hc
      obtain ⟨a', e1, rfl⟩ := map_some h
      rw [es_ex]
      exact ss_ex (I.e e1 C tk).1 (sw_none (by simpa using hc))
  · split at h
    · cases h
    · rename_i hi
      split at h
      · rename_i c' hc
        obtain ⟨a', b', e1, e2, rfl⟩ := o2_some h
        rw [es_ite]
        exact ss_ite ((I.e hc C tk).2 (by simpa using hi)) (J.ss e1 C hk tk) (J.ss e2 C hk tk)
      · cases h
  · split at h
    · rename_i hc
      obtain ⟨h1, h2, h3⟩ := hc
      split at h
      · rename_i t' it' e1 e2
        obtain ⟨b', e3, rfl⟩ := map_some h
        rw [es_for]
        exact ss_for (C.stm h3).2.2 (C.calm h2) (I.src e2 C tk) (I.tg e1 C) (J.ss e3 C hk tk) (fold_set h1)
      · cases h
    · cases h
  · split at h
    · rename_i hc
      obtain ⟨h1, h2⟩ := hc
      obtain ⟨c', b', e1, e2, rfl⟩ := o2_some h
      rw [es_whl]
      exact ss_while (C.stm h2).2.2 ((I.e e1 C tk).2 h1) (J.ss e2 C hk tk)
    · cases h
  · split at h
    · rename_i hc
      obtain ⟨h1, h2, h3⟩ := hc
      obtain ⟨c, e1, rfl⟩ := map_some h
      rw [es_raise]
      exact ss_raise (C.calm h3) tk (C.clss _ _ e1) (C.gl h2) (okn_of h1).1
    · cases h
  · split at h
    · rename_i hc
      obtain ⟨h1, h2, h3, h4, h5, h6, h7, h8, h9⟩ := hc
      split at h
      · rename_i i j a' e1 e2 e3
        obtain ⟨b', e4, rfl⟩ := map_some h
        rw [es_par]
        have s2 := star_cons (es := []) (env := X.env) h6
        have g1 := idx_get e1
        have g2 := idx_get e2
        exact ss_par (C.calm h1) (by rw [C.N]; exact C.nd) (by rw [C.N]; exact g1) (by rw [C.N]; exact g2) (fun z => h7 (by subst z; rw [g1] at g2; exact Option.some.inj g2)) (by rw [C.sc]; exact h2) (by rw [C.sc]; exact h3) (I.e e3 C tk).1 (I.e e4 C tk).1 (by rw [star_cons h5, s2]; rfl) s2
          (sw4 (by rw [C.sc]; exact hk) (by rw [C.sc]; exact h2) (by rw [C.sc]; exact h3) h4 h5 h6 h7 h8 h9)
      · cases h
    · cases h
  · split at h
    · cases h
    · rename_i hc
      obtain ⟨o', e', e1, e2, rfl⟩ := o2_some h
      rw [es_asg, evt_fld]
      exact ss_fld (fun Cn hC => C.fok Cn _ hC) (I.e (W := NoW) e1 C takesN).1 (I.e e2 C tk).1 (sw_attr _ _ ())
  · split at h
    · rename_i hcp
      split at h
      · split at h
        · rename_i hy
          split at h
          · rename_i hc
            obtain ⟨i, l, e1, e2, rfl⟩ := o2_some h
            exact snd_asgLc hk e2 e1 C tk hy hc.1 hc.2
          · cases h
        · rename_i hy
          split at h
          · rename_i hf
            obtain ⟨i, l, e1, e2, rfl⟩ := o2_some h
            have hyc := hy
            rw [← C.sc] at hyc
            rw [es_asg, ev_new, evt_nm]
            exact ss_asg (sE_new (I.l e2 C tk)) (sG_nm (pg_name (by rw [C.N]; exact C.nd) (by rw [C.N]; exact idx_get e1) (.inr hyc) (.inl (C.fn _ hf)))) (sws_cell hyc) (sw1 (fun _ _ _ z => by cases z) fun _ _ z => by cases z) rfl
          · cases h
        · cases h
      · obtain ⟨t', e', e1, e2, rfl⟩ := o2_some h
        rw [es_asg]
        exact ss_asg (I.e e2 C tk).1 (I.tg e1 C) rfl (sw1 (fun _ _ _ z => by cases z) fun _ _ z => by cases z) (by rw [assign_cons rfl]; rfl)
      · cases h
    · rename_i t e p _ _ hcp
      have hcp : isCp e = false := by simpa using hcp
      split at h
      · split at h
        · rename_i ht
          obtain ⟨t', e', e1, e2, rfl⟩ := o2_some h
          rw [es_asg]
          exact ss_asg (I.e e2 C tk).1 (I.tg e1 C) (sws_none hcp) (sw3 ht) rfl
        · cases h
      · cases h
      · cases h
      · rename_i n3 n1 n2
        obtain ⟨t', e', e1, e2, rfl⟩ := o2_some h
        rw [es_asg]
        have hs : isStar t = false := by
          cases n with
          | zero => cases e1
          | succ n => cases t <;> first | rfl | cases e1
        refine ss_asg (I.e e2 C tk).1 (I.tg e1 C) (sws_none hcp) ?_ (by rw [assign_cons hs]; rfl)
        cases t with
        | Tuple ts kk pp => exact sw2 fun vs k2 p2 z => n1 ts kk pp vs k2 p2 rfl z
        | List ts pp => exact absurd rfl (n3 ts pp)
        | _ => exact sw1 (fun _ _ _ z => by cases z) fun _ _ z => by cases z
  · rename_i body x np nm b₀ suite pos' pos
    split at h
    · rename_i hc
      obtain ⟨h1, h2, h3, h4⟩ := hc
      split at h
      · rename_i c b hd e1 e2 e3
        obtain ⟨x1, x2, x3⟩ := okn_of h1
        have hN : Names X x (.ref (G.cl c)) := ⟨C.gl h2, x1, .inl (C.clss x c e1).mg⟩
        have hbody : ∀ (W : WX) (pn : List (Addr × Obj)) (xe : Value → Shared → Prop), Takes (X.tr pn xe) W → PassesOwn (model X.prog X.w) X.A X.env xe → PSs (X.tr pn xe) body (dS G W (evSs (cfg P k) b)) := fun W pn xe tk hp => J.ss e2 (C.tr h4 pn xe hp) hk tk
        split at h
        · cases h
          rw [es_try]
          refine ss_try (sub := P.sub) (C.ex h4) C.K (C.stm h3).1 (C.stm h3).2.1 hN tk (fun j b hb => (C.sub j c b hb).1) hbody fun a oe cls d pn z f => ?_
          have C2 := C.suite h4 a oe pn none (fun _ _ z => by cases z) (fun _ _ _ _ _ z => by cases z)
          have hG : G.with none = G := by
            have := C.ex h4
            cases G; cases this; rfl
          rw [hG] at C2
          exact J.ss e3 C2 hk takesN
        · split at h
          · rename_i hy
            obtain ⟨i, e4, rfl⟩ := map_some h
            rw [es_tryAs]
            refine ss_tryAs (sub := P.sub) (C.ex h4) C.K (C.stm h3).1 (C.stm h3).2.1 (by rw [C.N]; exact C.nd) (by rw [C.N]; exact idx_get e4) (by show X.env.scope.names.lookup _ = _; rw [C.sc]; exact hy) hN tk (fun j b hb => ⟨(C.sub j c b hb).1, (C.sub j c b hb).2.2⟩) hbody fun a oe j pn z f q => ?_
            exact J.ss e3 (C.suite h4 a oe pn (some (a, j)) (fun aq j' e => by cases e; exact call_isE q z f) fun x i hx aq j' e => by cases e; exact hot_made HT C h4 z f q hx) hk takesN
          · cases h
      · cases h
    · cases h
  · cases h
theorem snd_ss {n : Nat} (J : SndS T P k n) {W : WX} {s : List Stmt} {s' : Ss} (h : cSs T (n + 1) B s = some s') (C : Ctx T P G k B X) (hk : B.sc.kind = .function) (tk : Takes X W) : PSs X s (dS G W (evSs (cfg P k) s')) := by
  unfold cSs at h
  split at h
  · cases h; rw [ess_nil]; exact ss_nil
  · obtain ⟨a', b', e1, e2, rfl⟩ := o2_some h
    rw [ess_cons]
    exact ss_cons (J.s e1 C hk tk) (J.ss e2 C hk tk)
theorem snds_of (HT : T.hots = [] ∨ ∀ m, SndS { T with hots := [] } P k m) : ∀ n, SndS T P k n
  | 0 => ⟨fun h => (by cases h), fun h => (by cases h)⟩
  | n + 1 => by
    have J := snds_of HT n
    exact ⟨fun h C hk tk => snd_s HT J h C hk tk, fun h C hk tk => snd_ss J h C hk tk⟩
theorem snds_all : ∀ n, SndS T P k n := snds_of (.inr fun m => snds_of (T := { T with hots := [] }) (.inl rfl) m)
end
end SB

/-! functions -/
namespace SB
open PySem PySem.Spec PyProof.Rows L2
open Classical
section
variable {G : Pl} {W : WX} {σ : L2.St} {H H' : Hp} {μ μ' : List Addr} {S : Sto} {n : Nat}
theorem pre_get (p : μ <+: μ') {i : Nat} {a : Addr} (h : μ'[i]? = some a) (hi : i < μ.length) : μ[i]? = some a := by
  obtain ⟨t, rfl⟩ := p
  rw [List.getElem?_append_left hi] at h
  exact h
mutual
theorem Rep.cut (p : μ <+: μ') : ∀ (d : D) (v : V), D.wf μ.length d → Rep G H μ' d v → Rep G H μ d v
  | .non, _, _, h => h
  | .bl _, _, _, h => h
  | .int _, _, _, h => h
  | .str _, _, _, h => h
  | .tup xs, v, n, ⟨a, vs, e, s, r, z⟩ => ⟨a, vs, e, s, RepL.cut p xs vs n r, z⟩
  | .fzl xs, v, n, ⟨a, vs, e, s, r, z⟩ => ⟨a, vs, e, s, RepL.cut p xs vs n r, z⟩
  | .ref k, v, n, ⟨a, e, h⟩ => ⟨a, e, pre_get p h n⟩
  | .exc c, v, n, h => False.elim n
  | .kt ks, v, _, h => h
theorem RepL.cut (p : μ <+: μ') : ∀ (xs : List D) (vs : List V), Ds.wf μ.length xs → RepL G H μ' xs vs → RepL G H μ xs vs
  | [], _, _, h => h
  | x :: xs, vs, n, ⟨w, ws, e, r, t⟩ => ⟨w, ws, e, Rep.cut p x w n.1 r, RepL.cut p xs ws n.2 t⟩
end
theorem RepO.cut {a : Addr} (p : μ <+: μ') : ∀ {o : O}, O.wf μ.length o → RepO G H μ' a o → RepO G H μ a o
  | .lst xs, w, ⟨vs, h, r, z⟩ => ⟨vs, h, RepL.cut p _ _ w r, z⟩
  | .dic kvs, w, ⟨ws, h, e, r, z⟩ => ⟨ws, h, e, RepL.cut p _ _ w r, z⟩
  | .dit kvs, w, ⟨ws, h, e, r, z⟩ => ⟨ws, h, e, RepL.cut p _ _ w r, z⟩
  | .ins C fs, w, ⟨dx, ws, h, e, r, z⟩ => ⟨dx, ws, h, e, RepL.cut p _ _ w r, z⟩
theorem tidy_ok (hl : μ.length = n) {d : D} {v : V} {S' : Sto} (l : Later H μ H' μ') (s : RelS G H' μ' S') (q : Rep G H' μ' d v) :
    ∃ μ2, Later H μ H' μ2 ∧ RelS G H' μ2 (tidy n d S') ∧ Rep G H' μ2 d v := by
  unfold tidy
  split
  · rename_i h
    obtain ⟨h1, h2, h3⟩ := h
    refine ⟨μ, ⟨List.prefix_refl _, l.tup, l.frz, l.frame, fun _ h n => (n h).elim⟩, ⟨?_, ?_, ?_⟩, ?_⟩
    · rw [List.length_take]; omega
    · obtain ⟨t, e⟩ := l.pre
      have := s.nd
      rw [← e] at this
      exact (List.nodup_append.mp this).1
    · intro i o a e1 e2
      have hi : i < n := by rw [← hl]; exact (List.getElem?_eq_some_iff.mp e2).1
      have hm := List.mem_of_getElem? e1
      rw [List.getElem?_take_of_lt hi] at e1
      have e3 : μ'[i]? = some a := l.up.at e2
      exact RepO.cut l.pre (by rw [hl]; exact h2 o hm) (s.obj i o a e1 e3)
    · exact Rep.cut l.pre d v (by rw [hl]; exact h1) q
  · exact ⟨μ', l, s, q⟩
theorem fin_ok {E : XK} {Q : VK} (hl : μ.length = n) {fl : Fl} (h : Run G (fun cls d _ H => E cls d H) [] H μ (tidyR n (fin fl)) (Rep G) Q) :
    FlOk G (fun cls d _ H => E cls d H) H μ fl { nx := fun _ H' => Q .non H', rt := Q } := by
  cases fl with
  | nx ρ' S' =>
    intro σ' H' μ' l s _
    obtain ⟨μ2, l2, s2, q2⟩ := tidy_ok hl (d := .non) (v := .non) l s rfl
    exact h .non H' μ2 l2 s2 q2
  | rt d S' =>
    intro v H' μ' l s q
    obtain ⟨μ2, l2, s2, q2⟩ := tidy_ok hl l s q
    exact h v H' μ2 l2 s2 q2
  | er c ρ' S' =>
    intro σ' H' μ' l s _
    obtain ⟨μ2, l2, s2, q2⟩ := tidy_ok hl (d := .non) (v := .non) l s rfl
    exact h H' μ2 l2 s2
  | bk _ _ => exact (show False from h).elim
  | ct _ _ => exact (show False from h).elim
  | bad => exact h
theorem rel_start : ∀ {ds : List D} {vs : List V}, RepL G H μ ds vs → ∀ r : Nat, RelE G H μ (ds.map some ++ List.replicate r none) (vs.map some ++ List.replicate r none)
  | [], vs, h, r => by
    cases (show vs = [] from h)
    refine ⟨by simp, fun i d e => ?_⟩
    have : some d ∈ [].map some ++ List.replicate r none := List.mem_of_getElem? e
    simp at this
  | x :: xs, vs, ⟨w, ws, e, r1, t⟩, r => by
    subst e
    obtain ⟨h1, h2⟩ := rel_start t r
    refine ⟨by simpa using h1, fun i d e => ?_⟩
    cases i with
    | zero =>
      cases (show some (some x) = some (some d) from e)
      exact ⟨w, rfl, r1⟩
    | succ i => exact h2 i d e
end
/-- what stands of a def: its tree compiled, its function object in K -/
structure DefOk (T : Tab) (P : Prg) (K : PySem.W.Frag) (mg : Str → Option Value) (x : Str) (i : Nat) : Prop where
  ex : ∃ (f : Addr) (fd : FuncData) (qual : Str) (st : Stmt) (N ps : List Str) (m : Nat) (F : Fn), mg x = some (.ref f) ∧ Fun K x qual st f fd ∧ Binds K fd ps [] ∧ P.fn i = some F ∧ F.ps = ps.length ∧ F.slots = N.length ∧ FnScope N ps (defScope st) ∧
    cSs T m ⟨N, defScope st, fun _ => true, true, true⟩ (defBody st) = some F.body
/-- a class of errors of the text -/
structure ClsOk (K : PySem.W.Frag) (mg : Str → Option Value) (x : Str) (C : Addr) : Prop where
  bm : ∃ bmB, ExcBaseFacts "ValueError" "ValueError.__new__" "ValueError.__init__" bmB ∧ PySem.W.excIn K C bmB "ValueError.__new__" = true
  mg : mg x = some (.ref C)
  kp : PySem.W.keepIn K (.ref C) = true
  sb : PySem.W.subIn K (.ref C) (.type "BaseException") = some true
  ty : PySem.W.typeIn K (.ref C) = some (.type "type")
/-- the parts of a def or a method, its name left out -/
def DefFn (T : Tab) (P : Prg) (K : PySem.W.Frag) (i : Nat) (f : Addr) (fd : FuncData) (ps : List Str) (F : Fn) : Prop := ∃ (x qual : Str) (st : Stmt) (N : List Str) (m : Nat), Fun K x qual st f fd ∧ Binds K fd ps [] ∧ P.fn i = some F ∧ F.ps = ps.length ∧ F.slots = N.length ∧ FnScope N ps (defScope st) ∧
    cSs T m ⟨N, defScope st, fun _ => true, true, true⟩ (defBody st) = some F.body
/-- what stands of the text in the written part -/
structure Txt (T : Tab) (P : Prg) (G : Pl) (mg : Str → Option Value) : Prop where
  ex : G.ex = none
  fns : ∀ x i, T.fns.lookup x = some i → DefOk T P G.K mg x i
  consts : ∀ x d, T.consts.lookup x = some d → ∃ v u, mg x = some u ∧ RelV v u ∧ ∀ H μ, Rep G H μ d v
  clss : ∀ x c, T.clss.lookup x = some c → ClsOk G.K mg x (G.cl c)
  blt : ∀ x, T.blt.contains x = true → mg x = none
  gcd : T.gcd = true → mg "gcd" = some (.builtin "math.gcd")
  fok : ∀ C f, P.fok C f = true → Cls G.K (G.cl C) ∧ NoAttr G.K (G.cl C) f
  meth : ∀ C m i, P.meth C m = some i → ∃ f fd ps F, Cls G.K (G.cl C) ∧ Meth G.K (G.cl C) m f ∧ DefFn T P G.K i f fd ps F
  make : ∀ x C, T.mks.lookup x = some C → ∃ i f fd ps F, P.init C = some i ∧ mg x = some (.ref (G.cl C)) ∧ Mk G.K (G.cl C) f ∧ DefFn T P G.K i f fd ps F
  hots : ∀ x i, T.hots.lookup x = some i → ∃ (f : Addr) (fd : FuncData) (qual y : Str) (st : Stmt) (N : List Str) (m : Nat) (e : E), mg x = some (.ref f) ∧ Fun G.K x qual st f fd ∧ Binds G.K fd [y] [] ∧ FnScope N [y] (defScope st) ∧ P.hot i = some e ∧ N = [y] ∧
    cSs { T with hots := [] } m ⟨N, defScope st, fun _ => true, false, false⟩ (defBody st) = some (.cons (.ret e) .nil)
  sub : ∀ j k b, P.sub j k = some b → PySem.W.exmOne G.K (.ref (G.cl j)) (.ref (G.cl k)) = some b ∧ PySem.W.kitOne G.K (.ref (G.cl j)) (.ref (G.cl k)) = some b ∧ ExcC G.K (G.cl j)
section
variable {T : Tab} {P : Prg} {G : Pl} {prog : Program} {w : World} {mg : Str → Option Value} {base : Heap}
/-- the parts of DefOk -/
def DefAt (T : Tab) (P : Prg) (K : PySem.W.Frag) (mg : Str → Option Value) (x : Str) (i : Nat) (f : Addr) (fd : FuncData) (ps : List Str) (F : Fn) : Prop := ∃ (qual : Str) (st : Stmt) (N : List Str) (m : Nat), mg x = some (.ref f) ∧ Fun K x qual st f fd ∧ Binds K fd ps [] ∧ P.fn i = some F ∧ F.ps = ps.length ∧ F.slots = N.length ∧ FnScope N ps (defScope st) ∧
    cSs T m ⟨N, defScope st, fun _ => true, true, true⟩ (defBody st) = some F.body
theorem DefOk.at {K : PySem.W.Frag} {x : Str} {i : Nat} (h : DefOk T P K mg x i) : ∃ f fd ps F, DefAt T P K mg x i f fd ps F := by
  obtain ⟨f, fd, qual, st, N, ps, m, F, h⟩ := h.ex
  exact ⟨f, fd, ps, F, qual, st, N, m, h⟩
theorem DefAt.fn {K : PySem.W.Frag} {x : Str} {i : Nat} {f : Addr} {fd : FuncData} {ps : List Str} {F : Fn} (h : DefAt T P K mg x i f fd ps F) : DefFn T P K i f fd ps F := by
  obtain ⟨qual, st, N, m, m1, r⟩ := h
  exact ⟨x, qual, st, N, m, r⟩
theorem evF_short {k i : Nat} {F : Fn} (h : P.fn i = some F) : ∀ ds S, ds.length ≠ F.ps → evF P k i ds S = .bad := fun ds S hn => by
  cases k with
  | zero => rfl
  | succ k =>
    unfold evF
    rw [h]
    dsimp only
    rw [if_neg (fun z => hn z.1)]
theorem fn_run (Z : Txt T P G mg) (k : Nat) : ∀ (i : Nat) (f : Addr) (fd : FuncData) (ps : List Str) (F : Fn), DefFn T P G.K i f fd ps F → FnOk prog w G.K mg base (L2.CX prog w) k f fd ps (spF (G.with none) (evF P k i) F.ps) := by
  induction k using Nat.strongRecOn with
  | ind k ih =>
    intro i f fd ps F h
    obtain ⟨x, qual, st, N, m, m2, m3, m4, m5, m6, m7, m8⟩ := h
    cases k with
    | zero =>
      refine ⟨fun vs H Q E hq => by rw [← m5]; exact hq.1, fun A outer s H args us vs Q E _ _ _ _ hq => ?_⟩
      obtain ⟨_, μ, S, ds, _, _, hr⟩ := hq
      exact False.elim hr
    | succ k =>
      have hG : G.with none = G := by
        have := Z.ex
        cases G; cases this; rfl
      refine Fun.okX m2 m7 (fun vs H Q E hq => by rw [← m5]; exact hq.1) fun cdv A outer s H vs Q E hr hq => ?_
      obtain ⟨hlen, μ, S, ds, hS, hd, hrun⟩ := hq
      rw [hG] at hS hd hrun
      have C : Ctx T P G k ⟨N, defScope st, fun _ => true, true, true⟩ (cxOf (L2.CX prog w) prog w G.K mg base N qual (defScope st) f cdv A outer s H E) := {
        N := rfl
        nd := m7.nd
        sc := rfl
        fn := fun _ _ => rfl
        K := rfl
        calm := fun _ => rfl
        room := fun _ => hr
        ex := fun _ => Z.ex
        units := by have := hr.un; show (A.deeper _).units + 65 < _; omega
        fns := fun y j hy => by
          obtain ⟨f, fd, ps, F, h⟩ := (Z.fns y j hy).at
          obtain ⟨qual, st, N, m, m1, m2, m3, m4, m5, m6, m7, m8⟩ := id h
          exact ⟨f, fd, ps, F, m1, m2.kp, m3, m4, ih k (Nat.lt_succ_self k) j f fd ps F h.fn⟩
        consts := Z.consts
        clss := fun x c h => by
          obtain ⟨a, b, c, d, e⟩ := Z.clss x c h
          exact ⟨a, b, c, raises_own d e⟩
        blt := Z.blt
        gcd := Z.gcd
        fok := Z.fok
        meth := fun C m j hj => by
          obtain ⟨f, fd, ps, F, c1, c2, h⟩ := Z.meth C m j hj
          obtain ⟨_, _, _, _, _, _, b3, b4, _⟩ := id h
          exact ⟨f, fd, ps, F.ps, c1, c2, b3, ih k (Nat.lt_succ_self k) j f fd ps F h, evF_short b4⟩
        make := fun y C hy => by
          obtain ⟨j, f, fd, ps, F, c1, c2, c3, h⟩ := Z.make y C hy
          obtain ⟨_, _, _, _, _, _, b3, b4, _⟩ := id h
          refine ⟨j, c1, c2, ⟨f, fd, ps, c3, b3, fun k' hk => ?_⟩, fun hk ds S => by subst hk; rw [evF1]⟩
          subst hk
          have e1 : evF1 P (k' + 1) j = evF P k' j := by funext ds S; rw [evF1]
          rw [e1]
          exact ⟨F.ps, ih k' (by omega) j f fd ps F h, evF_short b4⟩
        sub := Z.sub
        exq := fun a j e => by rw [Z.ex] at e; cases e
        hots := fun x i h => by
          obtain ⟨f, fd, qual, y, st, N, m, e, n1, n2, n3, n4, n5, n6, n7⟩ := Z.hots x i h
          exact ⟨f, fd, qual, y, st, N, m, e, n1, n2.kp, n2, n3, n4, n5, n6, n7⟩
        hot := fun _ _ _ a j e => by rw [Z.ex] at e; cases e
        stm := fun _ => ⟨rfl, rfl, passes_of rfl⟩ }
      refine ⟨_, (snds_all m).ss m8 C m7.kind (takes_of rfl rfl rfl rfl), ?_⟩
      unfold evF at hrun
      rw [m4] at hrun
      dsimp only at hrun
      split at hrun
      · rename_i hc
        have hl := RepL.len hd
        have e0 : L2.start N vs = vs.map some ++ List.replicate (F.slots - F.ps) none := by
          unfold L2.start; rw [m6, hlen]
        rw [e0]
        exact ⟨_, S, μ, rel_start hd _, hS, fin_ok hS.len hrun⟩
      · exact False.elim hrun
end
end SB

/-! from a law's head to the small language -/
namespace SB
open PySem PySem.Spec PyProof.Rows L2
open Classical
/-! ### constants of the text -/
section
variable (K : PySem.W.Frag)
mutual
def repB : D → Value → Bool
  | .non, u => He.relB .non u
  | .bl b, u => He.relB (.bl b) u
  | .int i, u => He.relB (.int i) u
  | .str x, u => He.relB (.str x) u
  | .tup xs, .ref a => match K.lookup a with
    | some ⟨.type c, _, .seq its _, _⟩ => decide (c = "tuple") && (decide (its.size ≤ sizeLine) && (repBs xs its.toList && !strHead xs))
    | _ => false
  | _, _ => false
def repBs : List D → List Value → Bool
  | [], [] => true
  | x :: xs, u :: us => repB x u && repBs xs us
  | _, _ => false
end
end
section
variable {K : PySem.W.Frag}
mutual
theorem repB_ok : ∀ (d : D) (u : Value), repB K d u = true → ∃ v, RelV v u ∧ ∀ (G : Pl) (H : Hp) (μ : List Addr), G.K = K → Rep G H μ d v
  | .non, u, h => ⟨.non, He.relB_ok h, fun _ _ _ _ => rfl⟩
  | .bl b, u, h => ⟨.bl b, He.relB_ok h, fun _ _ _ _ => rfl⟩
  | .int i, u, h => ⟨.int i, He.relB_ok h, fun _ _ _ _ => rfl⟩
  | .str x, u, h => ⟨.str x, He.relB_ok h, fun _ _ _ _ => rfl⟩
  | .tup xs, u, h => by
    cases u with
    | ref a =>
      unfold repB at h
      cases q : K.lookup a with
      | none => rw [q] at h; cases h
      | some o =>
        obtain ⟨oc, od, dt, osl⟩ := o
        rw [q] at h
        cases oc with
        | type c =>
          cases dt with
          | seq its n =>
            obtain ⟨h1, h2⟩ := He.ba (show (decide (c = "tuple") && (decide (its.size ≤ sizeLine) && (repBs K xs its.toList && !strHead xs))) = true from h)
            obtain ⟨h3, h4⟩ := He.ba h2
            obtain ⟨h4, h5⟩ := He.ba h4
            obtain ⟨vs, r1, r2⟩ := repBs_ok xs its.toList h4
            refine ⟨.ref a, rfl, fun G H μ e => ⟨a, vs, rfl, ⟨.inr ?_, fun z => by rw [z] at h5; cases h5⟩, r2 G H μ e, ?_⟩⟩
            · rw [e]
              exact ⟨_, its, n, q, congrArg Value.type (of_decide_eq_true h1), rfl, of_decide_eq_true h3, r1⟩
            · have l1 := RepL.len (r2 G H μ e)
              have l2 := r1.length
              have l3 : its.size ≤ sizeLine := of_decide_eq_true h3
              rw [l1, l2]; simpa using l3
          | _ => cases h
        | _ => cases dt <;> cases h
    | _ => unfold repB at h; cases h
  | .fzl xs, u, h => by unfold repB at h; cases h
  | .ref n, u, h => by unfold repB at h; cases h
  | .exc c, u, h => by unfold repB at h; cases h
  | .kt c, u, h => by unfold repB at h; cases h
theorem repBs_ok : ∀ (xs : List D) (us : List Value), repBs K xs us = true → ∃ vs, Vals vs us ∧ ∀ (G : Pl) (H : Hp) (μ : List Addr), G.K = K → RepL G H μ xs vs
  | [], [], _ => ⟨[], .nil, fun _ _ _ _ => rfl⟩
  | [], _ :: _, h => by unfold repBs at h; cases h
  | _ :: _, [], h => by unfold repBs at h; cases h
  | x :: xs, u :: us, h => by
    unfold repBs at h
    obtain ⟨h1, h2⟩ := He.ba h
    obtain ⟨v, a1, a2⟩ := repB_ok x u h1
    obtain ⟨vs, b1, b2⟩ := repBs_ok xs us h2
    exact ⟨v :: vs, .cons a1 b1, fun G H μ e => ⟨v, vs, rfl, a2 G H μ e, b2 G H μ e⟩⟩
end
end
/-! ### all facts as one Bool -/
/-- a text: the names of classes of errors by number; the pairs of classes that are compared -/
structure Kls where
  /-- its number, its name, its __init__, its fields, its methods -/
  c : Nat
  x : Str
  i : Nat
  fs : List Str
  ms : List (Str × Nat)
structure Tx where
  T : Tab
  cln : List (Nat × Str)
  sub : List ((Nat × Nat) × Bool)
  kls : List Kls := []
def Tx.ca (X : Tx) (K : PySem.W.Frag) (c : Nat) : Addr := He.ga K ((X.cln.lookup c).getD "")
def gloB (K : PySem.W.Frag) (x : Str) : Bool := He.eqO (PySem.W.nsIn K mainGlobals x) (some (some (.ref (He.ga K x))))
def nonB (K : PySem.W.Frag) (x : Str) : Bool := He.eqO (PySem.W.nsIn K mainGlobals x) (some none)
def conB (K : PySem.W.Frag) (x : Str) (d : D) : Bool := match PySem.W.nsIn K mainGlobals x with
  | some (some u) => repB K d u
  | _ => false
def clsB (K : PySem.W.Frag) (x : Str) (C : Addr) : Bool := He.eqO (PySem.W.nsIn K mainGlobals x) (some (some (.ref C))) && (PySem.W.excIn K C He.veBase "ValueError.__new__" && (PySem.W.keepIn K (.ref C) &&
  (decide (PySem.W.subIn K (.ref C) (.type "BaseException") = some true) && decide (PySem.W.typeIn K (.ref C) = some (.type "type")))))
def excCB (K : PySem.W.Frag) (C : Addr) : Bool :=
  He.eqO (PySem.W.findIn K (.ref C) "__getattribute__") (some (some (.builtin "BaseException.__getattribute__"))) && (He.eqO (PySem.W.findIn K (.ref C) "__getattr__") (some none) &&
  (decide (PySem.W.subIn K (.ref C) (.type "BaseException") = some true) && (PySem.W.hasDictIn K C && (He.eqO (PySem.W.findIn K (.ref C) "__class__") (some (some (.builtin "object.__class__"))) &&
  (He.eqO (PySem.W.specialIn K (.builtin "object.__class__") "__get__") (some (some (.builtin "getset_descriptor.__get__"))) && (decide (PySem.W.takesIn K (.builtin "object.__class__") = some true) && decide (PySem.W.mroIn K C (.type "object") = some true)))))))
def subB (X : Tx) (K : PySem.W.Frag) (q : (Nat × Nat) × Bool) : Bool := decide (PySem.W.exmOne K (.ref (X.ca K q.1.1)) (.ref (X.ca K q.1.2)) = some q.2) && (decide (PySem.W.kitOne K (.ref (X.ca K q.1.1)) (.ref (X.ca K q.1.2)) = some q.2) && excCB K (X.ca K q.1.1))
def gcdB (K : PySem.W.Frag) : Bool := He.eqO (PySem.W.nsIn K mainGlobals "gcd") (some (some (.builtin "math.gcd")))
def klsB (X : Tx) (K : PySem.W.Frag) (q : Kls) : Bool := decide (X.cln.lookup q.c = some q.x) && ((He.Fa.glo q.x).ok K && ((He.Fa.cls q.x).ok K && ((He.Fa.mkr q.x).ok K && (q.fs.all (fun f => (He.Fa.noat q.x f).ok K) && q.ms.all (fun m => (He.Fa.meth q.x m.1).ok K)))))
def Tx.okD (X : Tx) (K : PySem.W.Frag) : Bool := (X.T.fns ++ X.T.hots).all (fun q => gloB K q.1) && (X.T.consts.all (fun q => conB K q.1 q.2) && (X.T.clss.all (fun q => clsB K q.1 (X.ca K q.2)) && (X.T.blt.all (nonB K) && ((!X.T.gcd || gcdB K) && X.sub.all (subB X K)))))
def mksB (X : Tx) (p : Str × Nat) : Bool := match X.kls.find? (fun q => decide (q.c = p.2)) with | some q => decide (q.x = p.1) | none => false
def Tx.ok (X : Tx) (K : PySem.W.Frag) : Bool := X.kls.all (klsB X K) && (X.T.mks.all (mksB X) && X.okD K)
def Tx.init (X : Tx) (C : Nat) : Option Nat := (X.kls.find? fun q => decide (q.c = C)).map (·.i)
def Tx.meth (X : Tx) (C : Nat) (m : Str) : Option Nat := (X.kls.find? fun q => decide (q.c = C)).bind fun q => q.ms.lookup m
def Tx.fok (X : Tx) (C : Nat) (f : Str) : Bool := match X.kls.find? fun q => decide (q.c = C) with | some q => q.fs.contains f | none => false
theorem mem_lookup {α β : Type} [BEq α] [LawfulBEq α] {l : List (α × β)} {x : α} {y : β} (h : l.lookup x = some y) : (x, y) ∈ l := by
  induction l with
  | nil => cases h
  | cons q r ih =>
    obtain ⟨a, b⟩ := q
    rw [List.lookup_cons] at h
    by_cases e : x = a
    · subst e
      simp at h
      subst h
      exact List.mem_cons_self
    · rw [show (x == a) = false from by simpa using e] at h
      exact List.mem_cons_of_mem _ (ih h)
/-- what of the text must be said of each def: its name, its qualified name -/
def DefQ (T : Tab) (P : Prg) (x qual : Str) (i : Nat) (st : Stmt) (ps : List Str) (F : Fn) : Prop := ∃ (N : List Str) (m : Nat), P.fn i = some F ∧ F.ps = ps.length ∧ F.slots = N.length ∧ FnScope N ps (defScope st) ∧
    cSs T m ⟨N, defScope st, fun _ => true, true, true⟩ (defBody st) = some F.body ∧
    (∀ (kV doc pm : Value) (an : Option Addr) (cdv ct : Value) (us : List Value), us.length = ps.length → bindArgs (PySem.W.fnOf x qual (defArgs st) (defBody st) (defScope st) .none kV doc pm an cdv ct) ⟨us, []⟩ = pure (ps.zip us))
/-- what of the text must be said of a def that suites call -/
def DefH (T : Tab) (P : Prg) (x : Str) (i : Nat) (st : Stmt) : Prop := ∃ (y : Str) (N : List Str) (m : Nat) (e : E), P.hot i = some e ∧ N = [y] ∧ FnScope N [y] (defScope st) ∧ cSs { T with hots := [] } m ⟨N, defScope st, fun _ => true, false, false⟩ (defBody st) = some (.cons (.ret e) .nil) ∧
    (∀ (kV doc pm : Value) (an : Option Addr) (cdv ct : Value) (us : List Value), us.length = [y].length → bindArgs (PySem.W.fnOf x x (defArgs st) (defBody st) (defScope st) .none kV doc pm an cdv ct) ⟨us, []⟩ = pure ([y].zip us))
def DefS (T : Tab) (P : Prg) (x : Str) (i : Nat) (st : Stmt) (ps : List Str) (F : Fn) : Prop := DefQ T P x x i st ps F
/-- a def as the Hook looks at it -/
def dD (x : Str) (st : Stmt) : He.DefD := ⟨(x, none), x, x, defArgs st, defBody st, defScope st, [], []⟩
def qualM (c m : Str) : Str := c ++ ("." ++ m)
/-- a method as the Hook looks at it -/
def dM (c m : Str) (st : Stmt) : He.DefD := ⟨(c, some m), m, qualM c m, defArgs st, defBody st, defScope st, [], []⟩
theorem fun_of {K : PySem.W.Frag} {x qual : Str} {st : Stmt} {f : Addr} {fd : FuncData} (F : FunD K x qual (defArgs st) (defBody st) (defScope st) [] [] f fd) : Fun K x qual st f fd := by
  obtain ⟨oc, od, dV, kV, doc, pm, an, cdv, ct, osl, rfl, lk, hcd, hd, hk⟩ := F.ex
  rcases hd with ⟨_, rfl⟩ | ⟨h, _⟩
  · exact ⟨⟨oc, od, kV, doc, pm, an, cdv, ct, osl, rfl, lk, hcd⟩, F.kp⟩
  · exact (h rfl).elim
/-- what the Hook tells: the defs, the Bool -/
abbrev AlB : Type := He.AlD × Bool
def obsB (fn : List He.DefD) (X : Tx) (K : PySem.W.Frag) : AlB := (He.obsD [] fn K, X.ok K)
def obsBG (n : List Addr) (fn : List He.DefD) (X : Tx) (g : Addr → Option Obj) : AlB := obsB fn X (He.frG g n)
def hookB (n : List Addr) (fn : List He.DefD) (X : Tx) : PySem.W.Hook where
  α := AlB
  obs := fun s => obsBG n fn X s.heap.get?
  val := fun _ => (He.valD fn, true)
  says := fun _ h => ∃ K : PySem.W.Frag, K.In h ∧ obsB fn X K = (He.valD fn, true)
  of := fun _ _ e => ⟨_, He.frG_in, e⟩
  keeps := fun _ _ _ ⟨K, hK, c⟩ k => ⟨K, PySem.W.Frag.In.keeps hK k, c⟩
theorem obsBG_eq {n : List Addr} {fn : List He.DefD} {X : Tx} {g : Addr → Option Obj} {s : Shared} (h : ∀ a, g a = s.heap.get? a) : obsBG n fn X g = (hookB n fn X).obs s := by
  have e : g = s.heap.get? := funext h
  rw [e] <;> rfl
/-- the place of a text's classes -/
def Tx.pl (X : Tx) (K : PySem.W.Frag) : Pl := ⟨K, X.ca K, none⟩
theorem txt_of {X : Tx} {P : Prg} {st : Nat → Stmt} {fn : List He.DefD} {K : PySem.W.Frag} {h : Heap} {mg : Str → Option Value} (KX : K.In h) (G : h.Ns mainGlobals mg) (c : obsB fn X K = (He.valD fn, true))
    (hf : ∀ q ∈ X.T.fns, dD q.1 (st q.2) ∈ fn) (hd : ∀ q ∈ X.T.fns, ∃ ps F, DefS X.T P q.1 q.2 (st q.2) ps F) (hsub : ∀ j k b, P.sub j k = some b → ((j, k), b) ∈ X.sub) (hP : P.init = X.init ∧ P.meth = X.meth ∧ P.fok = X.fok)
    (hkf : ∀ q ∈ X.kls, dM q.x "__init__" (st q.i) ∈ fn ∧ ∀ m ∈ q.ms, dM q.x m.1 (st m.2) ∈ fn) (hkd : ∀ q ∈ X.kls, (∃ ps F, DefQ X.T P "__init__" (qualM q.x "__init__") q.i (st q.i) ps F) ∧ ∀ m ∈ q.ms, ∃ ps F, DefQ X.T P m.1 (qualM q.x m.1) m.2 (st m.2) ps F)
    (hhf : ∀ q ∈ X.T.hots, dD q.1 (st q.2) ∈ fn) (hhd : ∀ q ∈ X.T.hots, DefH X.T P q.1 q.2 (st q.2)) : Txt X.T P (X.pl K) mg := by
  have c1 : He.SaysD [] fn K := congrArg (fun z : AlB => z.1) c
  have c2 : X.ok K = true := congrArg (fun z : AlB => z.2) c
  obtain ⟨kk, c2⟩ := He.ba c2
  obtain ⟨km, c2⟩ := He.ba c2
  have kls : ∀ {C : Nat} {q : Kls}, (X.kls.find? fun q => decide (q.c = C)) = some q → q ∈ X.kls ∧ q.c = C ∧ X.ca K C = He.ga K q.x ∧ (He.Fa.glo q.x).ok K = true ∧ (He.Fa.cls q.x).ok K = true ∧ (He.Fa.mkr q.x).ok K = true ∧ (∀ f ∈ q.fs, (He.Fa.noat q.x f).ok K = true) ∧ ∀ m ∈ q.ms, (He.Fa.meth q.x m.1).ok K = true := fun {C q} hq => by
    have hm := List.mem_of_find?_eq_some hq
    have hc : q.c = C := by simpa using List.find?_some hq
    obtain ⟨b1, b⟩ := He.ba (show klsB X K q = true from List.all_eq_true.mp kk q hm)
    obtain ⟨b2, b⟩ := He.ba b
    obtain ⟨b3, b⟩ := He.ba b
    obtain ⟨b4, b⟩ := He.ba b
    obtain ⟨b5, b6⟩ := He.ba b
    have e1 : X.cln.lookup q.c = some q.x := of_decide_eq_true b1
    refine ⟨hm, hc, ?_, b2, b3, b4, fun f hf => List.all_eq_true.mp b5 f hf, fun m hm => List.all_eq_true.mp b6 m hm⟩
    unfold Tx.ca
    rw [← hc, e1]; rfl
  have mfn : ∀ {c m : Str} {i : Nat} {ps : List Str} {F : Fn}, dM c m (st i) ∈ fn → DefQ X.T P m (qualM c m) i (st i) ps F → ∃ fd, DefFn X.T P K i (He.ma K (He.ga K c) m) fd ps F := fun {c m i ps F} h1 h2 => by
    obtain ⟨fd, FD⟩ := c1.defs h1
    obtain ⟨N, n, p1, p2, p3, p4, p5, p6⟩ := h2
    have FF : Fun K m (qualM c m) (st i) (He.fAd K (c, some m)) fd := fun_of FD
    refine ⟨fd, m, qualM c m, st i, N, n, FF, FF.binds p6, p1, p2, p3, p4, p5⟩
  obtain ⟨k1, c2⟩ := He.ba c2
  obtain ⟨k2, c2⟩ := He.ba c2
  obtain ⟨k3, c2⟩ := He.ba c2
  obtain ⟨k4, c2⟩ := He.ba c2
  obtain ⟨k5, k6⟩ := He.ba c2
  refine ⟨rfl, fun x i hx => ?_, fun x d hx => ?_, fun x C hx => ?_, fun x hx => ?_, fun hg => ?_, fun C f hf => ?_, fun C m i hi => ?_, fun x C hx => ?_, fun x i hx => ?_, fun j k b hs => ?_⟩
  · have hm := mem_lookup hx
    obtain ⟨fd, FD⟩ := c1.defs (hf _ hm)
    obtain ⟨ps, F, N, m, p1, p2, p3, p4, p5, p6⟩ := hd _ hm
    have FF : Fun K x x (st i) (He.fAd K (x, none)) fd := fun_of FD
    refine ⟨_, fd, x, st i, N, ps, m, F, ?_, FF, FF.binds p6, p1, p2, p3, p4, p5⟩
    exact PySem.W.mg_of KX G (He.eqO_ok (List.all_eq_true.mp k1 _ (List.mem_append_left _ hm)))
  · have hm := List.all_eq_true.mp k2 _ (mem_lookup hx)
    unfold conB at hm
    cases e : PySem.W.nsIn K mainGlobals x with
    | none => dsimp only at hm; rw [e] at hm; cases hm
    | some o =>
      cases o with
      | none => dsimp only at hm; rw [e] at hm; cases hm
      | some u =>
        dsimp only at hm
        rw [e] at hm
        obtain ⟨v, r1, r2⟩ := repB_ok d u hm
        exact ⟨v, u, PySem.W.mg_of KX G e, r1, fun H μ => r2 _ H μ rfl⟩
  · have hm := List.all_eq_true.mp k3 _ (mem_lookup hx)
    obtain ⟨a1, hm⟩ := He.ba (show clsB K x (X.ca K C) = true from hm)
    obtain ⟨a2, hm⟩ := He.ba hm
    obtain ⟨a3, hm⟩ := He.ba hm
    obtain ⟨a4, a5⟩ := He.ba hm
    exact ⟨⟨_, PySem.F.excBase_ValueError, a2⟩, PySem.W.mg_of KX G (He.eqO_ok a1), a3, of_decide_eq_true a4, of_decide_eq_true a5⟩
  · exact PySem.W.mg_none_of KX G (He.eqO_ok (List.all_eq_true.mp k4 x (List.contains_iff_mem.mp hx)))
  · rw [hg] at k5
    exact PySem.W.mg_of KX G (He.eqO_ok (show gcdB K = true from by simpa using k5))
  · rw [hP.2.2] at hf
    unfold Tx.fok at hf
    split at hf
    · rename_i q hq
      obtain ⟨_, _, e, _, b3, _, b5, _⟩ := kls hq
      have hm : f ∈ q.fs := List.contains_iff_mem.mp hf
      show Cls K (X.ca K C) ∧ NoAttr K (X.ca K C) f
      rw [e]
      exact ⟨He.cls_ok b3, He.noat_ok (b5 f hm)⟩
    · cases hf
  · rw [hP.2.1] at hi
    unfold Tx.meth at hi
    cases hq : X.kls.find? fun q => decide (q.c = C) with
    | none => rw [hq] at hi; cases hi
    | some q =>
      rw [hq] at hi
      obtain ⟨b0, _, e, _, b3, _, _, b6⟩ := kls hq
      have hmem : (m, i) ∈ q.ms := mem_lookup hi
      obtain ⟨ps, F, hD⟩ := (hkd q b0).2 _ hmem
      obtain ⟨fd, hfn⟩ := mfn ((hkf q b0).2 _ hmem) hD
      refine ⟨_, fd, ps, F, ?_, ?_, hfn⟩
      · show Cls K (X.ca K C)
        rw [e]; exact He.cls_ok b3
      · show Meth K (X.ca K C) m _
        rw [e]; exact He.meth_ok (b6 _ hmem)
  · have hx2 := List.all_eq_true.mp km _ (mem_lookup hx)
    unfold mksB at hx2
    dsimp only at hx2
    cases hq : X.kls.find? fun q => decide (q.c = C) with
    | none => rw [hq] at hx2; cases hx2
    | some q =>
      rw [hq] at hx2
      have ex : q.x = x := of_decide_eq_true hx2
      obtain ⟨b0, _, e, b2, _, b4, _, _⟩ := kls hq
      obtain ⟨ps, F, hD⟩ := (hkd q b0).1
      obtain ⟨fd, hfn⟩ := mfn (hkf q b0).1 hD
      refine ⟨q.i, _, fd, ps, F, ?_, ?_, ?_, hfn⟩
      · rw [hP.1]; unfold Tx.init; rw [hq]; rfl
      · show mg x = some (.ref (X.ca K C))
        rw [e, ← ex]; exact He.glo_ok KX G b2
      · show Mk K (X.ca K C) _
        rw [e]; exact He.mkr_ok b4
  · have hm := mem_lookup hx
    obtain ⟨fd, FD⟩ := c1.defs (hhf _ hm)
    obtain ⟨y, N, m, e, p1, p2, p3, p4, p5⟩ := hhd _ hm
    have FF : Fun K x x (st i) (He.fAd K (x, none)) fd := fun_of FD
    exact ⟨_, fd, x, y, st i, N, m, e, PySem.W.mg_of KX G (He.eqO_ok (List.all_eq_true.mp k1 _ (List.mem_append_right _ hm))), FF, FF.binds p5, p3, p1, p2, p4⟩
  · have hm := List.all_eq_true.mp k6 _ (hsub j k b hs)
    obtain ⟨a1, hm⟩ := He.ba (show subB X K ((j, k), b) = true from hm)
    obtain ⟨a2, a3⟩ := He.ba hm
    obtain ⟨b1, a3⟩ := He.ba a3
    obtain ⟨b2, a3⟩ := He.ba a3
    obtain ⟨b3, a3⟩ := He.ba a3
    obtain ⟨b4, a3⟩ := He.ba a3
    obtain ⟨b5, a3⟩ := He.ba a3
    obtain ⟨b6, a3⟩ := He.ba a3
    obtain ⟨b7, b8⟩ := He.ba a3
    exact ⟨of_decide_eq_true a1, of_decide_eq_true a2, He.eqO_ok b1, He.eqO_ok b2, of_decide_eq_true b3, b4, He.eqO_ok b5, He.eqO_ok b6, of_decide_eq_true b7, of_decide_eq_true b8⟩
/-- the law's end: its promise from the evaluator -/
theorem sb_walk {l : PySem.W.OpenLaw} {k il : Nat} {q : Program} {loose : List Str} {XP : (Str → Option Value) → Heap → Prop} {d : DefRec} {x : Str} {n : List Addr} {fn : List He.DefD} {X : Tx} {P : Prg} {st : Nat → Stmt} {F : Fn} {law : Str}
    (most : l.most = some 63) (dfl : d.params.defaults = []) (room : Room k callerA)
    (hf : ∀ q ∈ X.T.fns, dD q.1 (st q.2) ∈ fn) (hd : ∀ q ∈ X.T.fns, ∃ ps F, DefS X.T P q.1 q.2 (st q.2) ps F) (hsub : ∀ j k b, P.sub j k = some b → ((j, k), b) ∈ X.sub) (hP : P.init = X.init ∧ P.meth = X.meth ∧ P.fok = X.fok)
    (hkf : ∀ q ∈ X.kls, dM q.x "__init__" (st q.i) ∈ fn ∧ ∀ m ∈ q.ms, dM q.x m.1 (st m.2) ∈ fn) (hkd : ∀ q ∈ X.kls, (∃ ps F, DefQ X.T P "__init__" (qualM q.x "__init__") q.i (st q.i) ps F) ∧ ∀ m ∈ q.ms, ∃ ps F, DefQ X.T P m.1 (qualM q.x m.1) m.2 (st m.2) ps F)
    (hhf : ∀ q ∈ X.T.hots, dD q.1 (st q.2) ∈ fn) (hhd : ∀ q ∈ X.T.hots, DefH X.T P q.1 q.2 (st q.2))
    (hname : d.name = law) (hl : X.T.fns.lookup law = some il) (hF : DefS X.T P law il (st il) [x] F)
    (hrun : ∀ ns : List Int, ns.length ≤ 63 → ∃ S', evF P k il [.fzl (ns.map .int)] [] = .ok (.bl true) S') :
    PySem.W.WalkO q loose XP (hookB n fn X).says l.row.toRowW d [] (fun f vs => PySem.call f vs) := by
  refine Att.attach_call most dfl fun w s₀ s₁ mg mb fa o pm cd doc a vs ns G Y ho hd0 hcd hmg hobj hints hlen hg => ?_
  obtain ⟨K, KX, c⟩ := Y
  rw [hname] at hmg
  have Z := txt_of (P := P) KX G.T.g c hf hd hsub hP hkf hkd hhf hhd
  have c1 : He.SaysD [] fn K := congrArg (fun z : AlB => z.1) c
  obtain ⟨fd, FD⟩ := c1.defs (hf _ (mem_lookup hl))
  obtain ⟨N, m, p1, p2, p3, p4, p5, p6⟩ := hF
  have FF : Fun K law law (st il) (He.fAd K (law, none)) fd := fun_of FD
  have m1 : mg law = some (.ref (He.fAd K (law, none))) := by
    have c2 : X.ok K = true := congrArg (fun z : AlB => z.2) c
    obtain ⟨_, c2⟩ := He.ba c2
    obtain ⟨_, c2⟩ := He.ba c2
    obtain ⟨k1, _⟩ := He.ba c2
    exact PySem.W.mg_of KX G.T.g (He.eqO_ok (List.all_eq_true.mp k1 _ (List.mem_append_left _ (mem_lookup hl))))
  obtain rfl : He.fAd K (law, none) = fa := by
    rw [hmg] at m1; cases m1; rfl
  have hb : Binds K fd [x] [] := FF.binds p6
  refine law_call (k := k) (CX := L2.CX l.prog w) (sp := spF ((X.pl K).with none) (evF P k il) F.ps) KX G.T.g G.T.b G.T.builtins G.T.nolimit hg hobj hints (Nat.le_trans hlen (by decide)) room
    (fun base _ _ => fn_run Z k il _ fd [x] F ⟨law, law, st il, N, m, FF, hb, p1, p2, p3, p4, p5⟩)
    (fun s u => by
      obtain ⟨oc, od, dV, kV, doc, pm, an, cdv, ct, osl, rfl, lk, hcd, hD, hK⟩ := FD.ex
      rcases hD with ⟨_, rfl⟩ | ⟨e, _⟩
      · exact .of_eq (p6 kV doc pm an cdv ct [u] rfl)
      · exact absurd rfl e) ?_ fun H e s' h => ?_
  · intro H hO hS
    obtain ⟨S', hE⟩ := hrun ns hlen
    have hSF : SqF K H a (ns.map V.int) := by
      rcases hS with (h | h) | h
      · rcases hO a with e | ⟨o, xs, e⟩
        · rw [e] at h; cases h
        · rw [e] at h; cases h
      · exact .inl h
      · exact .inr h
    have hR : ∀ ks : List Int, RepL ((X.pl K).with none) H [] (ks.map D.int) (ks.map V.int) := by
      intro ks
      induction ks with
      | nil => rfl
      | cons i r ih => exact ⟨.int i, r.map V.int, rfl, rfl, ih⟩
    refine ⟨by rw [p2]; rfl, [], [], [.fzl (ns.map .int)], ⟨rfl, List.nodup_nil, fun i o a h => by simp at h⟩, ⟨.ref a, [], rfl, ⟨a, _, rfl, hSF, hR ns, ?_⟩, rfl⟩, ?_⟩
    · rw [List.length_map]; exact Nat.le_trans hlen (by decide)
    · rw [hE]
      intro b H' μ' _ _ r
      exact r
  · obtain ⟨_, _, _, _, _, _, _, _, _, _, _, _, z⟩ := h
    exact z.elim
end SB

namespace LW
open PySem PySem.Spec PyProof.Rows L2 SB
def T : Tab := ⟨(("fraction", 0) :: ("plus", 1) :: ("minus", 2) :: ("compare", 5) :: ("least", 6) :: ("greatest", 7) :: ("add", 19) :: ("check_box", 30) :: ("check_axis", 31) :: ("high_end", 32) :: ("gap_of", 33) :: ("gap", 34) :: ("overlap", 35) :: ("overlaps", 36) :: ("meet", 37) :: ("meets", 38) :: ("stretch_of", 39) :: ("stretch", 40) :: ("moved", 41) :: ("hull", 42) :: ("_law_begin", 8) :: ("_law_take", 9) :: ("_law_signed", 10) :: ("_law_gcd", 12) :: ("_law_f", 23) :: ("_law_plus", 24) :: ("_law_minus", 25) :: ("_law_less", 13) :: ("_law_min", 43) :: ("_law_max", 44) :: ("_law_part", 27) :: ("_law_vector", 28) :: ("_law_high", 45) :: ("_law_gap", 46) :: ("_law_over", 47) :: ("_law_meet", 48) :: ("_law_size", 49) :: ("_law_beside", 50) :: ("_law_box", 51) :: ("_law_told", 53) :: ("_law_stretch", 54) :: ("law", 55) :: []),
  [("ZERO", (.tup [(.int (0)), (.int (1))]))],
  [("SteadyError", 0), ("ZeroDenominator", 1), ("AxisError", 2), ("BoxError", 3)],
  ["abs", "bool", "int", "isinstance", "len", "list", "range"], true, [], [], [("_law_class", 52)]⟩

def X : Tx := ⟨T, [(0, "SteadyError"), (1, "ZeroDenominator"), (2, "AxisError"), (3, "BoxError")], [((0, 0), true), ((0, 2), false), ((0, 3), false), ((1, 0), true), ((1, 2), false), ((1, 3), false), ((2, 0), true), ((2, 2), true), ((2, 3), false), ((3, 0), true), ((3, 2), false), ((3, 3), true)], []⟩
abbrev top (i : Nat) : Stmt := PySem.Challenge.pw_steadybodies_k04_gaps_and_stretches.main.body.getD i (.Pass ⟨0, 0, 0, 0⟩)
/-- _law_class -/
def H52 : E :=
  (.bin .add (.ite (.isE 3 (.var 0)) (.cst (.str "box")) (.cst (.str ""))) (.ite (.isE 2 (.var 0)) (.cst (.str "axis")) (.cst (.str ""))))
/-- fraction -/
def F0 : Fn := ⟨2, 3,
  (.cons (.ite (.cmp .eq (.var 1) (.cst (.int (0))))
    (.cons (.raise 1)
    .nil)
    .nil)
    (.cons (.ite (.cmp .lt (.var 1) (.cst (.int (0))))
    (.cons (.asg (.nm 0) (.neg (.var 0)))
    (.cons (.asg (.nm 1) (.neg (.var 1)))
    .nil))
    .nil)
    (.cons (.asg (.nm 2) (.bi .gcd (.cons (.var 0) (.cons (.var 1) .nil))))
    (.cons (.ret (.tup (.cons (.bin .fdiv (.var 0) (.var 2)) (.cons (.bin .fdiv (.var 1) (.var 2)) .nil))))
    .nil))))⟩
/-- plus -/
def F1 : Fn := ⟨2, 2,
  (.cons (.ite (.chn .eq .eq (.ix (.var 0) (.cst (.int (1)))) (.ix (.var 1) (.cst (.int (1)))) (.cst (.int (1))))
    (.cons (.ret (.tup (.cons (.bin .add (.ix (.var 0) (.cst (.int (0)))) (.ix (.var 1) (.cst (.int (0))))) (.cons (.cst (.int (1))) .nil))))
    .nil)
    .nil)
    (.cons (.ret (.call 0 (.cons (.bin .add (.bin .mul (.ix (.var 0) (.cst (.int (0)))) (.ix (.var 1) (.cst (.int (1))))) (.bin .mul (.ix (.var 1) (.cst (.int (0)))) (.ix (.var 0) (.cst (.int (1)))))) (.cons (.bin .mul (.ix (.var 0) (.cst (.int (1)))) (.ix (.var 1) (.cst (.int (1))))) .nil))))
    .nil))⟩
/-- minus -/
def F2 : Fn := ⟨2, 2,
  (.cons (.ite (.chn .eq .eq (.ix (.var 0) (.cst (.int (1)))) (.ix (.var 1) (.cst (.int (1)))) (.cst (.int (1))))
    (.cons (.ret (.tup (.cons (.bin .sub (.ix (.var 0) (.cst (.int (0)))) (.ix (.var 1) (.cst (.int (0))))) (.cons (.cst (.int (1))) .nil))))
    .nil)
    .nil)
    (.cons (.ret (.call 0 (.cons (.bin .sub (.bin .mul (.ix (.var 0) (.cst (.int (0)))) (.ix (.var 1) (.cst (.int (1))))) (.bin .mul (.ix (.var 1) (.cst (.int (0)))) (.ix (.var 0) (.cst (.int (1)))))) (.cons (.bin .mul (.ix (.var 0) (.cst (.int (1)))) (.ix (.var 1) (.cst (.int (1))))) .nil))))
    .nil))⟩
/-- compare -/
def F5 : Fn := ⟨2, 4,
  (.cons (.asg (.nm 2) (.bin .mul (.ix (.var 0) (.cst (.int (0)))) (.ix (.var 1) (.cst (.int (1))))))
    (.cons (.asg (.nm 3) (.bin .mul (.ix (.var 1) (.cst (.int (0)))) (.ix (.var 0) (.cst (.int (1))))))
    (.cons (.ite (.cmp .lt (.var 2) (.var 3))
    (.cons (.ret (.neg (.cst (.int (1)))))
    .nil)
    .nil)
    (.cons (.ite (.cmp .gt (.var 2) (.var 3))
    (.cons (.ret (.cst (.int (1))))
    .nil)
    .nil)
    (.cons (.ret (.cst (.int (0))))
    .nil)))))⟩
/-- least -/
def F6 : Fn := ⟨1, 3,
  (.cons (.asg (.nm 1) (.ix (.var 0) (.cst (.int (0)))))
    (.cons (.forr (.nm 2) (.val (.sl (.var 0) (.some (.cst (.int (1)))) .none))
    (.cons (.ite (.cmp .lt (.call 5 (.cons (.var 2) (.cons (.var 1) .nil))) (.cst (.int (0))))
    (.cons (.asg (.nm 1) (.var 2))
    .nil)
    .nil)
    .nil))
    (.cons (.ret (.var 1))
    .nil)))⟩
/-- greatest -/
def F7 : Fn := ⟨1, 3,
  (.cons (.asg (.nm 1) (.ix (.var 0) (.cst (.int (0)))))
    (.cons (.forr (.nm 2) (.val (.sl (.var 0) (.some (.cst (.int (1)))) .none))
    (.cons (.ite (.cmp .gt (.call 5 (.cons (.var 2) (.cons (.var 1) .nil))) (.cst (.int (0))))
    (.cons (.asg (.nm 1) (.var 2))
    .nil)
    .nil)
    .nil))
    (.cons (.ret (.var 1))
    .nil)))⟩
/-- add -/
def F19 : Fn := ⟨2, 2,
  (.cons (.ret (.tup (.cons (.call 1 (.cons (.ix (.var 0) (.cst (.int (0)))) (.cons (.ix (.var 1) (.cst (.int (0)))) .nil))) (.cons (.call 1 (.cons (.ix (.var 0) (.cst (.int (1)))) (.cons (.ix (.var 1) (.cst (.int (1)))) .nil))) .nil))))
    .nil)⟩
/-- check_box -/
def F30 : Fn := ⟨1, 1,
  (.cons (.ite (.or (.cmp .le (.ix (.ix (.ix (.var 0) (.cst (.int (1)))) (.cst (.int (0)))) (.cst (.int (0)))) (.cst (.int (0)))) (.cmp .le (.ix (.ix (.ix (.var 0) (.cst (.int (1)))) (.cst (.int (1)))) (.cst (.int (0)))) (.cst (.int (0)))))
    (.cons (.raise 3)
    .nil)
    .nil)
    .nil)⟩
/-- check_axis -/
def F31 : Fn := ⟨1, 1,
  (.cons (.ite (.and (.cmp .ne (.var 0) (.cst (.int (0)))) (.cmp .ne (.var 0) (.cst (.int (1)))))
    (.cons (.raise 2)
    .nil)
    .nil)
    .nil)⟩
/-- high_end -/
def F32 : Fn := ⟨2, 2,
  (.cons (.ret (.call 1 (.cons (.ix (.ix (.var 0) (.cst (.int (0)))) (.var 1)) (.cons (.ix (.ix (.var 0) (.cst (.int (1)))) (.var 1)) .nil))))
    .nil)⟩
/-- gap_of -/
def F33 : Fn := ⟨3, 5,
  (.cons (.asg (.nm 3) (.call 2 (.cons (.ix (.ix (.var 1) (.cst (.int (0)))) (.var 2)) (.cons (.call 32 (.cons (.var 0) (.cons (.var 2) .nil))) .nil))))
    (.cons (.asg (.nm 4) (.call 2 (.cons (.ix (.ix (.var 0) (.cst (.int (0)))) (.var 2)) (.cons (.call 32 (.cons (.var 1) (.cons (.var 2) .nil))) .nil))))
    (.cons (.ite (.cmp .ge (.call 5 (.cons (.var 3) (.cons (.var 4) .nil))) (.cst (.int (0))))
    (.cons (.ret (.var 3))
    .nil)
    .nil)
    (.cons (.ret (.var 4))
    .nil))))⟩
/-- gap -/
def F34 : Fn := ⟨3, 3,
  (.cons (.ex (.call 30 (.cons (.var 0) .nil)))
    (.cons (.ex (.call 30 (.cons (.var 1) .nil)))
    (.cons (.ex (.call 31 (.cons (.var 2) .nil)))
    (.cons (.ret (.call 33 (.cons (.var 0) (.cons (.var 1) (.cons (.var 2) .nil)))))
    .nil))))⟩
/-- overlap -/
def F35 : Fn := ⟨2, 2,
  (.cons (.ret (.and (.cmp .lt (.ix (.call 33 (.cons (.var 0) (.cons (.var 1) (.cons (.cst (.int (0))) .nil)))) (.cst (.int (0)))) (.cst (.int (0)))) (.cmp .lt (.ix (.call 33 (.cons (.var 0) (.cons (.var 1) (.cons (.cst (.int (1))) .nil)))) (.cst (.int (0)))) (.cst (.int (0))))))
    .nil)⟩
/-- overlaps -/
def F36 : Fn := ⟨2, 2,
  (.cons (.ex (.call 30 (.cons (.var 0) .nil)))
    (.cons (.ex (.call 30 (.cons (.var 1) .nil)))
    (.cons (.ret (.call 35 (.cons (.var 0) (.cons (.var 1) .nil))))
    .nil)))⟩
/-- meet -/
def F37 : Fn := ⟨2, 2,
  (.cons (.ret (.and (.cmp .le (.ix (.call 33 (.cons (.var 0) (.cons (.var 1) (.cons (.cst (.int (0))) .nil)))) (.cst (.int (0)))) (.cst (.int (0)))) (.cmp .le (.ix (.call 33 (.cons (.var 0) (.cons (.var 1) (.cons (.cst (.int (1))) .nil)))) (.cst (.int (0)))) (.cst (.int (0))))))
    .nil)⟩
/-- meets -/
def F38 : Fn := ⟨2, 2,
  (.cons (.ex (.call 30 (.cons (.var 0) .nil)))
    (.cons (.ex (.call 30 (.cons (.var 1) .nil)))
    (.cons (.ret (.call 37 (.cons (.var 0) (.cons (.var 1) .nil))))
    .nil)))⟩
/-- stretch_of -/
def F39 : Fn := ⟨3, 5,
  (.cons (.asg (.nm 3) (.bin .sub (.cst (.int (1))) (.var 2)))
    (.cons (.ite (.or (.cmp .ne (.call 33 (.cons (.var 0) (.cons (.var 1) (.cons (.var 2) .nil)))) (.cst (.tup [(.int (0)), (.int (1))]))) (.cmp .gt (.ix (.call 33 (.cons (.var 0) (.cons (.var 1) (.cons (.var 3) .nil)))) (.cst (.int (0)))) (.cst (.int (0)))))
    (.cons (.ret (.cst .non))
    .nil)
    .nil)
    (.cons (.asg (.nm 4) (.call 7 (.cons (.tup (.cons (.ix (.ix (.var 0) (.cst (.int (0)))) (.var 3)) (.cons (.ix (.ix (.var 1) (.cst (.int (0)))) (.var 3)) .nil))) .nil)))
    (.cons (.ret (.tup (.cons (.var 4) (.cons (.call 6 (.cons (.tup (.cons (.call 32 (.cons (.var 0) (.cons (.var 3) .nil))) (.cons (.call 32 (.cons (.var 1) (.cons (.var 3) .nil))) .nil))) .nil)) .nil))))
    .nil))))⟩
/-- stretch -/
def F40 : Fn := ⟨3, 3,
  (.cons (.ex (.call 30 (.cons (.var 0) .nil)))
    (.cons (.ex (.call 30 (.cons (.var 1) .nil)))
    (.cons (.ex (.call 31 (.cons (.var 2) .nil)))
    (.cons (.ret (.call 39 (.cons (.var 0) (.cons (.var 1) (.cons (.var 2) .nil)))))
    .nil))))⟩
/-- moved -/
def F41 : Fn := ⟨2, 2,
  (.cons (.ex (.call 30 (.cons (.var 0) .nil)))
    (.cons (.ret (.tup (.cons (.call 19 (.cons (.ix (.var 0) (.cst (.int (0)))) (.cons (.var 1) .nil))) (.cons (.ix (.var 0) (.cst (.int (1)))) .nil))))
    .nil))⟩
/-- hull -/
def F42 : Fn := ⟨2, 4,
  (.cons (.ex (.call 30 (.cons (.var 0) .nil)))
    (.cons (.ex (.call 30 (.cons (.var 1) .nil)))
    (.cons (.asg (.nm 2) (.tup (.cons (.call 6 (.cons (.tup (.cons (.ix (.ix (.var 0) (.cst (.int (0)))) (.cst (.int (0)))) (.cons (.ix (.ix (.var 1) (.cst (.int (0)))) (.cst (.int (0)))) .nil))) .nil)) (.cons (.call 6 (.cons (.tup (.cons (.ix (.ix (.var 0) (.cst (.int (0)))) (.cst (.int (1)))) (.cons (.ix (.ix (.var 1) (.cst (.int (0)))) (.cst (.int (1)))) .nil))) .nil)) .nil))))
    (.cons (.asg (.nm 3) (.tup (.cons (.call 7 (.cons (.tup (.cons (.call 32 (.cons (.var 0) (.cons (.cst (.int (0))) .nil))) (.cons (.call 32 (.cons (.var 1) (.cons (.cst (.int (0))) .nil))) .nil))) .nil)) (.cons (.call 7 (.cons (.tup (.cons (.call 32 (.cons (.var 0) (.cons (.cst (.int (1))) .nil))) (.cons (.call 32 (.cons (.var 1) (.cons (.cst (.int (1))) .nil))) .nil))) .nil)) .nil))))
    (.cons (.ret (.tup (.cons (.var 2) (.cons (.tup (.cons (.call 2 (.cons (.ix (.var 3) (.cst (.int (0)))) (.cons (.ix (.var 2) (.cst (.int (0)))) .nil))) (.cons (.call 2 (.cons (.ix (.var 3) (.cst (.int (1)))) (.cons (.ix (.var 2) (.cst (.int (1)))) .nil))) .nil))) .nil))))
    .nil)))))⟩
/-- _law_begin -/
def F8 : Fn := ⟨1, 3,
  (.cons (.asg (.nm 1) (.cst (.int (1))))
    (.cons (.forr (.nm 2) (.val (.var 0))
    (.cons (.asg (.nm 1) (.bin .mod (.bin .add (.bin .add (.bin .mul (.var 1) (.cst (.int (69621)))) (.bin .mod (.bi .int (.cons (.var 2) .nil)) (.cst (.int (2147483629))))) (.cst (.int (7)))) (.cst (.int (2147483647)))))
    .nil))
    (.cons (.ret (.new (.disp (.cons (.new (.copy (.var 0))) (.cons (.cst (.int (0))) (.cons (.cst (.int (0))) (.cons (.var 1) .nil)))))))
    .nil)))⟩
/-- _law_take -/
def F9 : Fn := ⟨2, 4,
  (.cons (.ite (.and (.cmp .eq (.ix (.var 0) (.cst (.int (2)))) (.cst (.int (0)))) (.cmp .lt (.ix (.var 0) (.cst (.int (1)))) (.bi .len (.cons (.ix (.var 0) (.cst (.int (0)))) .nil))))
    (.cons (.asg (.sub (.var 0) (.cst (.int (2)))) (.bi .abs (.cons (.bi .int (.cons (.ix (.ix (.var 0) (.cst (.int (0)))) (.ix (.var 0) (.cst (.int (1))))) .nil)) .nil)))
    (.cons (.asg (.sub (.var 0) (.cst (.int (1)))) (.bin .add (.ix (.var 0) (.cst (.int (1)))) (.cst (.int (1)))))
    (.cons (.ite (.cmp .lt (.ix (.var 0) (.cst (.int (2)))) (.bin .pow (.cst (.int (10))) (.cst (.int (18)))))
    (.cons (.asg (.nm 3) (.bi .int (.cons (.ix (.var 0) (.cst (.int (2)))) .nil)))
    (.cons (.asg (.sub (.var 0) (.cst (.int (2)))) (.cst (.int (0))))
    (.cons (.ret (.bin .mod (.var 3) (.var 1)))
    .nil)))
    .nil)
    .nil)))
    .nil)
    (.cons (.ite (.cmp .gt (.ix (.var 0) (.cst (.int (2)))) (.cst (.int (0))))
    (.cons (.asg (.nm 2) (.bin .mod (.bi .int (.cons (.ix (.var 0) (.cst (.int (2)))) .nil)) (.var 1)))
    (.cons (.asg (.sub (.var 0) (.cst (.int (2)))) (.bin .fdiv (.bi .int (.cons (.ix (.var 0) (.cst (.int (2)))) .nil)) (.var 1)))
    (.cons (.ret (.var 2))
    .nil)))
    .nil)
    (.cons (.asg (.sub (.var 0) (.cst (.int (3)))) (.bin .mod (.bi .int (.cons (.bin .add (.bin .mul (.ix (.var 0) (.cst (.int (3)))) (.cst (.int (48271)))) (.cst (.int (11)))) .nil)) (.cst (.int (2147483647)))))
    (.cons (.ret (.bin .mod (.bi .int (.cons (.bin .fdiv (.ix (.var 0) (.cst (.int (3)))) (.cst (.int (3)))) .nil)) (.var 1)))
    .nil))))⟩
/-- _law_signed -/
def F10 : Fn := ⟨2, 2,
  (.cons (.ret (.bin .sub (.call 9 (.cons (.var 0) (.cons (.bin .add (.bin .mul (.cst (.int (2))) (.var 1)) (.cst (.int (1)))) .nil))) (.var 1)))
    .nil)⟩
/-- _law_gcd -/
def F12 : Fn := ⟨2, 2,
  (.cons (.whl (.cmp .ne (.var 1) (.cst (.int (0))))
    (.cons (.par 0 1 (.var 1) (.bin .mod (.bi .int (.cons (.var 0) .nil)) (.var 1)))
    .nil))
    (.cons (.ret (.bi .abs (.cons (.var 0) .nil)))
    .nil))⟩
/-- _law_f -/
def F23 : Fn := ⟨2, 3,
  (.cons (.ite (.cmp .lt (.var 1) (.cst (.int (0))))
    (.cons (.asg (.nm 0) (.bin .sub (.cst (.int (0))) (.var 0)))
    (.cons (.asg (.nm 1) (.bin .sub (.cst (.int (0))) (.var 1)))
    .nil))
    .nil)
    (.cons (.asg (.nm 2) (.call 12 (.cons (.bi .abs (.cons (.var 0) .nil)) (.cons (.var 1) .nil))))
    (.cons (.ret (.tup (.cons (.bin .fdiv (.var 0) (.var 2)) (.cons (.bin .fdiv (.var 1) (.var 2)) .nil))))
    .nil)))⟩
/-- _law_plus -/
def F24 : Fn := ⟨2, 2,
  (.cons (.ret (.call 23 (.cons (.bin .add (.bin .mul (.ix (.var 0) (.cst (.int (0)))) (.ix (.var 1) (.cst (.int (1))))) (.bin .mul (.ix (.var 1) (.cst (.int (0)))) (.ix (.var 0) (.cst (.int (1)))))) (.cons (.bin .mul (.ix (.var 0) (.cst (.int (1)))) (.ix (.var 1) (.cst (.int (1))))) .nil))))
    .nil)⟩
/-- _law_minus -/
def F25 : Fn := ⟨2, 2,
  (.cons (.ret (.call 23 (.cons (.bin .sub (.bin .mul (.ix (.var 0) (.cst (.int (0)))) (.ix (.var 1) (.cst (.int (1))))) (.bin .mul (.ix (.var 1) (.cst (.int (0)))) (.ix (.var 0) (.cst (.int (1)))))) (.cons (.bin .mul (.ix (.var 0) (.cst (.int (1)))) (.ix (.var 1) (.cst (.int (1))))) .nil))))
    .nil)⟩
/-- _law_less -/
def F13 : Fn := ⟨2, 2,
  (.cons (.ret (.cmp .lt (.bin .mul (.ix (.var 0) (.cst (.int (0)))) (.ix (.var 1) (.cst (.int (1))))) (.bin .mul (.ix (.var 1) (.cst (.int (0)))) (.ix (.var 0) (.cst (.int (1)))))))
    .nil)⟩
/-- _law_min -/
def F43 : Fn := ⟨2, 2,
  (.cons (.ret (.ite (.call 13 (.cons (.var 1) (.cons (.var 0) .nil))) (.var 1) (.var 0)))
    .nil)⟩
/-- _law_max -/
def F44 : Fn := ⟨2, 2,
  (.cons (.ret (.ite (.call 13 (.cons (.var 0) (.cons (.var 1) .nil))) (.var 1) (.var 0)))
    .nil)⟩
/-- _law_part -/
def F27 : Fn := ⟨2, 2,
  (.cons (.ret (.call 23 (.cons (.call 10 (.cons (.var 0) (.cons (.bin .mul (.var 1) (.cst (.int (2)))) .nil))) (.cons (.bin .add (.cst (.int (1))) (.call 9 (.cons (.var 0) (.cons (.cst (.int (3))) .nil)))) .nil))))
    .nil)⟩
/-- _law_vector -/
def F28 : Fn := ⟨2, 2,
  (.cons (.ret (.tup (.cons (.call 27 (.cons (.var 0) (.cons (.var 1) .nil))) (.cons (.call 27 (.cons (.var 0) (.cons (.var 1) .nil))) .nil))))
    .nil)⟩
/-- _law_high -/
def F45 : Fn := ⟨2, 2,
  (.cons (.ret (.call 24 (.cons (.ix (.ix (.var 0) (.cst (.int (0)))) (.var 1)) (.cons (.ix (.ix (.var 0) (.cst (.int (1)))) (.var 1)) .nil))))
    .nil)⟩
/-- _law_gap -/
def F46 : Fn := ⟨3, 3,
  (.cons (.ret (.call 44 (.cons (.call 25 (.cons (.ix (.ix (.var 1) (.cst (.int (0)))) (.var 2)) (.cons (.call 45 (.cons (.var 0) (.cons (.var 2) .nil))) .nil))) (.cons (.call 25 (.cons (.ix (.ix (.var 0) (.cst (.int (0)))) (.var 2)) (.cons (.call 45 (.cons (.var 1) (.cons (.var 2) .nil))) .nil))) .nil))))
    .nil)⟩
/-- _law_over -/
def F47 : Fn := ⟨2, 2,
  (.cons (.ret (.and (.cmp .lt (.ix (.call 46 (.cons (.var 0) (.cons (.var 1) (.cons (.cst (.int (0))) .nil)))) (.cst (.int (0)))) (.cst (.int (0)))) (.cmp .lt (.ix (.call 46 (.cons (.var 0) (.cons (.var 1) (.cons (.cst (.int (1))) .nil)))) (.cst (.int (0)))) (.cst (.int (0))))))
    .nil)⟩
/-- _law_meet -/
def F48 : Fn := ⟨2, 2,
  (.cons (.ret (.and (.cmp .le (.ix (.call 46 (.cons (.var 0) (.cons (.var 1) (.cons (.cst (.int (0))) .nil)))) (.cst (.int (0)))) (.cst (.int (0)))) (.cmp .le (.ix (.call 46 (.cons (.var 0) (.cons (.var 1) (.cons (.cst (.int (1))) .nil)))) (.cst (.int (0)))) (.cst (.int (0))))))
    .nil)⟩
/-- _law_size -/
def F49 : Fn := ⟨1, 1,
  (.cons (.ret (.tup (.cons (.call 23 (.cons (.bin .add (.cst (.int (1))) (.call 9 (.cons (.var 0) (.cons (.cst (.int (6))) .nil)))) (.cons (.bin .add (.cst (.int (1))) (.call 9 (.cons (.var 0) (.cons (.cst (.int (2))) .nil)))) .nil))) (.cons (.call 23 (.cons (.bin .add (.cst (.int (1))) (.call 9 (.cons (.var 0) (.cons (.cst (.int (6))) .nil)))) (.cons (.bin .add (.cst (.int (1))) (.call 9 (.cons (.var 0) (.cons (.cst (.int (2))) .nil)))) .nil))) .nil))))
    .nil)⟩
/-- _law_beside -/
def F50 : Fn := ⟨3, 5,
  (.cons (.asg (.nm 3) (.call 9 (.cons (.var 0) (.cons (.cst (.int (2))) .nil))))
    (.cons (.asg (.nm 4) (.new (.disp (.cons (.call 24 (.cons (.ix (.ix (.var 1) (.cst (.int (0)))) (.cst (.int (0)))) (.cons (.call 27 (.cons (.var 0) (.cons (.cst (.int (2))) .nil))) .nil))) (.cons (.call 24 (.cons (.ix (.ix (.var 1) (.cst (.int (0)))) (.cst (.int (1)))) (.cons (.call 27 (.cons (.var 0) (.cons (.cst (.int (2))) .nil))) .nil))) .nil)))))
    (.cons (.asg (.sub (.var 4) (.var 3)) (.ite (.cmp .eq (.call 9 (.cons (.var 0) (.cons (.cst (.int (2))) .nil))) (.cst (.int (1)))) (.call 45 (.cons (.var 1) (.cons (.var 3) .nil))) (.call 25 (.cons (.ix (.ix (.var 1) (.cst (.int (0)))) (.var 3)) (.cons (.ix (.var 2) (.var 3)) .nil)))))
    (.cons (.ite (.cmp .eq (.call 9 (.cons (.var 0) (.cons (.cst (.int (4))) .nil))) (.cst (.int (1))))
    (.cons (.asg (.sub (.var 4) (.bin .sub (.cst (.int (1))) (.var 3))) (.ix (.ix (.var 1) (.cst (.int (0)))) (.bin .sub (.cst (.int (1))) (.var 3))))
    .nil)
    .nil)
    (.cons (.ret (.tup (.cons (.ix (.var 4) (.cst (.int (0)))) (.cons (.ix (.var 4) (.cst (.int (1)))) .nil))))
    .nil)))))⟩
/-- _law_box -/
def F51 : Fn := ⟨2, 3,
  (.cons (.asg (.nm 2) (.call 49 (.cons (.var 0) .nil)))
    (.cons (.ite (.and (.cmp .gt (.bi .len (.cons (.var 1) .nil)) (.cst (.int (0)))) (.cmp .gt (.call 9 (.cons (.var 0) (.cons (.cst (.int (3))) .nil))) (.cst (.int (0)))))
    (.cons (.ret (.tup (.cons (.call 50 (.cons (.var 0) (.cons (.ix (.var 1) (.call 9 (.cons (.var 0) (.cons (.bi .len (.cons (.var 1) .nil)) .nil)))) (.cons (.var 2) .nil)))) (.cons (.var 2) .nil))))
    .nil)
    .nil)
    (.cons (.ret (.tup (.cons (.call 28 (.cons (.var 0) (.cons (.cst (.int (5))) .nil))) (.cons (.var 2) .nil))))
    .nil)))⟩
/-- _law_told -/
def F53 : Fn := ⟨4, 6,
  (.cons (.tryE (.cons (.ite (.cmp .eq (.var 0) (.cst (.int (0))))
    (.cons (.asg (.nm 5) (.call 34 (.cons (.var 1) (.cons (.var 2) (.cons (.var 3) .nil)))))
    .nil)
    (.cons (.ite (.cmp .eq (.var 0) (.cst (.int (1))))
    (.cons (.asg (.nm 5) (.call 40 (.cons (.var 1) (.cons (.var 2) (.cons (.var 3) .nil)))))
    .nil)
    (.cons (.ite (.cmp .eq (.var 0) (.cst (.int (2))))
    (.cons (.asg (.nm 5) (.call 36 (.cons (.var 1) (.cons (.var 2) .nil))))
    .nil)
    (.cons (.ite (.cmp .eq (.var 0) (.cst (.int (3))))
    (.cons (.asg (.nm 5) (.call 38 (.cons (.var 1) (.cons (.var 2) .nil))))
    .nil)
    (.cons (.ite (.cmp .eq (.var 0) (.cst (.int (4))))
    (.cons (.asg (.nm 5) (.call 42 (.cons (.var 1) (.cons (.var 2) .nil))))
    .nil)
    (.cons (.asg (.nm 5) (.call 41 (.cons (.var 1) (.cons (.ix (.var 2) (.cst (.int (0)))) .nil))))
    .nil))
    .nil))
    .nil))
    .nil))
    .nil))
    .nil) 0 (.some 4) (.cons (.ret (.hot 52 (.var 4)))
    .nil))
    (.cons (.ret (.var 5))
    .nil))⟩
/-- _law_stretch -/
def F54 : Fn := ⟨3, 4,
  (.cons (.asg (.nm 3) (.bin .sub (.cst (.int (1))) (.var 2)))
    (.cons (.ite (.or (.cmp .ne (.ix (.call 46 (.cons (.var 0) (.cons (.var 1) (.cons (.var 2) .nil)))) (.cst (.int (0)))) (.cst (.int (0)))) (.cmp .gt (.ix (.call 46 (.cons (.var 0) (.cons (.var 1) (.cons (.var 3) .nil)))) (.cst (.int (0)))) (.cst (.int (0)))))
    (.cons (.ret (.cst .non))
    .nil)
    .nil)
    (.cons (.ret (.tup (.cons (.call 44 (.cons (.ix (.ix (.var 0) (.cst (.int (0)))) (.var 3)) (.cons (.ix (.ix (.var 1) (.cst (.int (0)))) (.var 3)) .nil))) (.cons (.call 43 (.cons (.call 45 (.cons (.var 0) (.cons (.var 3) .nil))) (.cons (.call 45 (.cons (.var 1) (.cons (.var 3) .nil))) .nil))) .nil))))
    .nil)))⟩
/-- law -/
def F55 : Fn := ⟨1, 11,
  (.cons (.asg (.nm 1) (.call 8 (.cons (.var 0) .nil)))
    (.cons (.asg (.nm 2) (.call 51 (.cons (.var 1) (.cons (.new (.disp .nil)) .nil))))
    (.cons (.asg (.nm 3) (.ite (.cmp .gt (.call 9 (.cons (.var 1) (.cons (.cst (.int (6))) .nil))) (.cst (.int (0)))) (.call 51 (.cons (.var 1) (.cons (.new (.disp (.cons (.var 2) .nil))) .nil))) (.tup (.cons (.ix (.var 2) (.cst (.int (0)))) (.cons (.call 49 (.cons (.var 1) .nil)) .nil)))))
    (.cons (.forr (.nm 4) (.val (.tup (.cons (.cst (.int (0))) (.cons (.cst (.int (1))) .nil))))
    (.cons (.ite (.or (.cmp .ne (.call 53 (.cons (.cst (.int (0))) (.cons (.var 2) (.cons (.var 3) (.cons (.var 4) .nil))))) (.call 46 (.cons (.var 2) (.cons (.var 3) (.cons (.var 4) .nil))))) (.cmp .ne (.call 53 (.cons (.cst (.int (1))) (.cons (.var 2) (.cons (.var 3) (.cons (.var 4) .nil))))) (.call 54 (.cons (.var 2) (.cons (.var 3) (.cons (.var 4) .nil))))))
    (.cons (.ret (.cst (.bl false)))
    .nil)
    .nil)
    .nil))
    (.cons (.asg (.nm 5) (.call 53 (.cons (.cst (.int (2))) (.cons (.var 2) (.cons (.var 3) (.cons (.cst (.int (0))) .nil))))))
    (.cons (.asg (.nm 6) (.call 53 (.cons (.cst (.int (3))) (.cons (.var 2) (.cons (.var 3) (.cons (.cst (.int (0))) .nil))))))
    (.cons (.ite (.or (.no (.bi .isBool (.cons (.var 5) .nil))) (.or (.cmp .ne (.var 5) (.call 47 (.cons (.var 2) (.cons (.var 3) .nil)))) (.or (.no (.bi .isBool (.cons (.var 6) .nil))) (.cmp .ne (.var 6) (.call 48 (.cons (.var 2) (.cons (.var 3) .nil)))))))
    (.cons (.ret (.cst (.bl false)))
    .nil)
    .nil)
    (.cons (.asg (.nm 7) (.tup (.cons (.call 43 (.cons (.ix (.ix (.var 2) (.cst (.int (0)))) (.cst (.int (0)))) (.cons (.ix (.ix (.var 3) (.cst (.int (0)))) (.cst (.int (0)))) .nil))) (.cons (.call 43 (.cons (.ix (.ix (.var 2) (.cst (.int (0)))) (.cst (.int (1)))) (.cons (.ix (.ix (.var 3) (.cst (.int (0)))) (.cst (.int (1)))) .nil))) .nil))))
    (.cons (.asg (.nm 8) (.new (.comp (.call 44 (.cons (.call 45 (.cons (.var 2) (.cons (.var 4) .nil))) (.cons (.call 45 (.cons (.var 3) (.cons (.var 4) .nil))) .nil))) (.nm 4) (.val (.tup (.cons (.cst (.int (0))) (.cons (.cst (.int (1))) .nil)))) .none [4])))
    (.cons (.ite (.cmp .ne (.call 53 (.cons (.cst (.int (4))) (.cons (.var 2) (.cons (.var 3) (.cons (.cst (.int (0))) .nil))))) (.tup (.cons (.var 7) (.cons (.tup (.cons (.call 25 (.cons (.ix (.var 8) (.cst (.int (0)))) (.cons (.ix (.var 7) (.cst (.int (0)))) .nil))) (.cons (.call 25 (.cons (.ix (.var 8) (.cst (.int (1)))) (.cons (.ix (.var 7) (.cst (.int (1)))) .nil))) .nil))) .nil))))
    (.cons (.ret (.cst (.bl false)))
    .nil)
    .nil)
    (.cons (.ite (.cmp .ne (.call 53 (.cons (.cst (.int (5))) (.cons (.var 2) (.cons (.var 3) (.cons (.cst (.int (0))) .nil))))) (.tup (.cons (.tup (.cons (.call 24 (.cons (.ix (.ix (.var 2) (.cst (.int (0)))) (.cst (.int (0)))) (.cons (.ix (.ix (.var 3) (.cst (.int (0)))) (.cst (.int (0)))) .nil))) (.cons (.call 24 (.cons (.ix (.ix (.var 2) (.cst (.int (0)))) (.cst (.int (1)))) (.cons (.ix (.ix (.var 3) (.cst (.int (0)))) (.cst (.int (1)))) .nil))) .nil))) (.cons (.ix (.var 2) (.cst (.int (1)))) .nil))))
    (.cons (.ret (.cst (.bl false)))
    .nil)
    .nil)
    (.cons (.asg (.nm 9) (.tup (.cons (.ix (.var 2) (.cst (.int (0)))) (.cons (.ite (.cmp .eq (.call 9 (.cons (.var 1) (.cons (.cst (.int (2))) .nil))) (.cst (.int (1)))) (.tup (.cons (.tup (.cons (.bin .sub (.cst (.int (0))) (.call 9 (.cons (.var 1) (.cons (.cst (.int (2))) .nil)))) (.cons (.cst (.int (1))) .nil))) (.cons (.tup (.cons (.cst (.int (1))) (.cons (.cst (.int (1))) .nil))) .nil))) (.tup (.cons (.tup (.cons (.cst (.int (1))) (.cons (.cst (.int (1))) .nil))) (.cons (.tup (.cons (.bin .sub (.cst (.int (0))) (.call 9 (.cons (.var 1) (.cons (.cst (.int (2))) .nil)))) (.cons (.cst (.int (1))) .nil))) .nil)))) .nil))))
    (.cons (.forr (.nm 10) (.rg1 (.cst (.int (6))))
    (.cons (.ite (.or (.cmp .ne (.call 53 (.cons (.var 10) (.cons (.var 9) (.cons (.var 3) (.cons (.cst (.int (2))) .nil))))) (.cst (.str "box"))) (.and (.cmp .lt (.var 10) (.cst (.int (5)))) (.cmp .ne (.call 53 (.cons (.var 10) (.cons (.var 2) (.cons (.var 9) (.cons (.cst (.int (2))) .nil))))) (.cst (.str "box")))))
    (.cons (.ret (.cst (.bl false)))
    .nil)
    .nil)
    .nil))
    (.cons (.ret (.and (.cmp .eq (.call 53 (.cons (.cst (.int (0))) (.cons (.var 2) (.cons (.var 3) (.cons (.bin .sub (.cst (.int (0))) (.cst (.int (1)))) .nil))))) (.cst (.str "axis"))) (.cmp .eq (.call 53 (.cons (.cst (.int (1))) (.cons (.var 2) (.cons (.var 3) (.cons (.cst (.int (2))) .nil))))) (.cst (.str "axis")))))
    .nil))))))))))))))⟩
def fnT : Nat → Option Fn
  | 0 => some F0
  | 1 => some F1
  | 2 => some F2
  | 5 => some F5
  | 6 => some F6
  | 7 => some F7
  | 19 => some F19
  | 30 => some F30
  | 31 => some F31
  | 32 => some F32
  | 33 => some F33
  | 34 => some F34
  | 35 => some F35
  | 36 => some F36
  | 37 => some F37
  | 38 => some F38
  | 39 => some F39
  | 40 => some F40
  | 41 => some F41
  | 42 => some F42
  | 8 => some F8
  | 9 => some F9
  | 10 => some F10
  | 12 => some F12
  | 23 => some F23
  | 24 => some F24
  | 25 => some F25
  | 13 => some F13
  | 43 => some F43
  | 44 => some F44
  | 27 => some F27
  | 28 => some F28
  | 45 => some F45
  | 46 => some F46
  | 47 => some F47
  | 48 => some F48
  | 49 => some F49
  | 50 => some F50
  | 51 => some F51
  | 53 => some F53
  | 54 => some F54
  | 55 => some F55
  | _ => none
def hotT : Nat → Option E
  | 52 => some H52
  | _ => none
def P : Prg := { fn := fnT, sub := fun j k => X.sub.lookup (j, k), w := 1000000, init := X.init, meth := X.meth, fok := X.fok, hot := hotT }
def stOf : Nat → Stmt
  | 0 => top 8
  | 1 => top 9
  | 2 => top 10
  | 5 => top 11
  | 6 => top 12
  | 7 => top 13
  | 19 => top 15
  | 30 => top 17
  | 31 => top 18
  | 32 => top 19
  | 33 => top 20
  | 34 => top 21
  | 35 => top 22
  | 36 => top 23
  | 37 => top 24
  | 38 => top 25
  | 39 => top 26
  | 40 => top 27
  | 41 => top 28
  | 42 => top 29
  | 8 => top 31
  | 9 => top 32
  | 10 => top 33
  | 12 => top 34
  | 23 => top 35
  | 24 => top 36
  | 25 => top 37
  | 13 => top 38
  | 43 => top 39
  | 44 => top 40
  | 27 => top 41
  | 28 => top 42
  | 45 => top 43
  | 46 => top 44
  | 47 => top 45
  | 48 => top 46
  | 49 => top 47
  | 50 => top 48
  | 51 => top 49
  | 53 => top 51
  | 54 => top 52
  | 55 => top 53
  | 52 => top 50
  | _ => .Pass ⟨0, 0, 0, 0⟩
end LW

namespace LW
open PySem PySem.Spec PyProof.Rows L2 SB
theorem d0 : DefS T P "fraction" 0 (stOf 0) ["numerator", "denominator"] F0 := ⟨["numerator", "denominator", "common"], 400, rfl, rfl, rfl, ⟨rfl, rfl, rfl, by decide +kernel, rfl, by decide +kernel, by decide +kernel⟩, by kernel_rfl, fun _ _ _ _ _ _ us hl => match us, hl with | [_, _], _ => rfl⟩
theorem d1 : DefS T P "plus" 1 (stOf 1) ["a", "b"] F1 := ⟨["a", "b"], 400, rfl, rfl, rfl, ⟨rfl, rfl, rfl, by decide +kernel, rfl, by decide +kernel, by decide +kernel⟩, by kernel_rfl, fun _ _ _ _ _ _ us hl => match us, hl with | [_, _], _ => rfl⟩
theorem d2 : DefS T P "minus" 2 (stOf 2) ["a", "b"] F2 := ⟨["a", "b"], 400, rfl, rfl, rfl, ⟨rfl, rfl, rfl, by decide +kernel, rfl, by decide +kernel, by decide +kernel⟩, by kernel_rfl, fun _ _ _ _ _ _ us hl => match us, hl with | [_, _], _ => rfl⟩
theorem d5 : DefS T P "compare" 5 (stOf 5) ["a", "b"] F5 := ⟨["a", "b", "left", "right"], 400, rfl, rfl, rfl, ⟨rfl, rfl, rfl, by decide +kernel, rfl, by decide +kernel, by decide +kernel⟩, by kernel_rfl, fun _ _ _ _ _ _ us hl => match us, hl with | [_, _], _ => rfl⟩
theorem d6 : DefS T P "least" 6 (stOf 6) ["items"] F6 := ⟨["items", "best", "item"], 400, rfl, rfl, rfl, ⟨rfl, rfl, rfl, by decide +kernel, rfl, by decide +kernel, by decide +kernel⟩, by kernel_rfl, fun _ _ _ _ _ _ us hl => match us, hl with | [_], _ => rfl⟩
theorem d7 : DefS T P "greatest" 7 (stOf 7) ["items"] F7 := ⟨["items", "best", "item"], 400, rfl, rfl, rfl, ⟨rfl, rfl, rfl, by decide +kernel, rfl, by decide +kernel, by decide +kernel⟩, by kernel_rfl, fun _ _ _ _ _ _ us hl => match us, hl with | [_], _ => rfl⟩
theorem d19 : DefS T P "add" 19 (stOf 19) ["a", "b"] F19 := ⟨["a", "b"], 400, rfl, rfl, rfl, ⟨rfl, rfl, rfl, by decide +kernel, rfl, by decide +kernel, by decide +kernel⟩, by kernel_rfl, fun _ _ _ _ _ _ us hl => match us, hl with | [_, _], _ => rfl⟩
theorem d30 : DefS T P "check_box" 30 (stOf 30) ["box"] F30 := ⟨["box"], 400, rfl, rfl, rfl, ⟨rfl, rfl, rfl, by decide +kernel, rfl, by decide +kernel, by decide +kernel⟩, by kernel_rfl, fun _ _ _ _ _ _ us hl => match us, hl with | [_], _ => rfl⟩
theorem d31 : DefS T P "check_axis" 31 (stOf 31) ["axis"] F31 := ⟨["axis"], 400, rfl, rfl, rfl, ⟨rfl, rfl, rfl, by decide +kernel, rfl, by decide +kernel, by decide +kernel⟩, by kernel_rfl, fun _ _ _ _ _ _ us hl => match us, hl with | [_], _ => rfl⟩
theorem d32 : DefS T P "high_end" 32 (stOf 32) ["box", "axis"] F32 := ⟨["box", "axis"], 400, rfl, rfl, rfl, ⟨rfl, rfl, rfl, by decide +kernel, rfl, by decide +kernel, by decide +kernel⟩, by kernel_rfl, fun _ _ _ _ _ _ us hl => match us, hl with | [_, _], _ => rfl⟩
theorem d33 : DefS T P "gap_of" 33 (stOf 33) ["a", "b", "axis"] F33 := ⟨["a", "b", "axis", "ahead", "behind"], 400, rfl, rfl, rfl, ⟨rfl, rfl, rfl, by decide +kernel, rfl, by decide +kernel, by decide +kernel⟩, by kernel_rfl, fun _ _ _ _ _ _ us hl => match us, hl with | [_, _, _], _ => rfl⟩
theorem d34 : DefS T P "gap" 34 (stOf 34) ["a", "b", "axis"] F34 := ⟨["a", "b", "axis"], 400, rfl, rfl, rfl, ⟨rfl, rfl, rfl, by decide +kernel, rfl, by decide +kernel, by decide +kernel⟩, by kernel_rfl, fun _ _ _ _ _ _ us hl => match us, hl with | [_, _, _], _ => rfl⟩
theorem d35 : DefS T P "overlap" 35 (stOf 35) ["a", "b"] F35 := ⟨["a", "b"], 400, rfl, rfl, rfl, ⟨rfl, rfl, rfl, by decide +kernel, rfl, by decide +kernel, by decide +kernel⟩, by kernel_rfl, fun _ _ _ _ _ _ us hl => match us, hl with | [_, _], _ => rfl⟩
theorem d36 : DefS T P "overlaps" 36 (stOf 36) ["a", "b"] F36 := ⟨["a", "b"], 400, rfl, rfl, rfl, ⟨rfl, rfl, rfl, by decide +kernel, rfl, by decide +kernel, by decide +kernel⟩, by kernel_rfl, fun _ _ _ _ _ _ us hl => match us, hl with | [_, _], _ => rfl⟩
theorem d37 : DefS T P "meet" 37 (stOf 37) ["a", "b"] F37 := ⟨["a", "b"], 400, rfl, rfl, rfl, ⟨rfl, rfl, rfl, by decide +kernel, rfl, by decide +kernel, by decide +kernel⟩, by kernel_rfl, fun _ _ _ _ _ _ us hl => match us, hl with | [_, _], _ => rfl⟩
theorem d38 : DefS T P "meets" 38 (stOf 38) ["a", "b"] F38 := ⟨["a", "b"], 400, rfl, rfl, rfl, ⟨rfl, rfl, rfl, by decide +kernel, rfl, by decide +kernel, by decide +kernel⟩, by kernel_rfl, fun _ _ _ _ _ _ us hl => match us, hl with | [_, _], _ => rfl⟩
theorem d39 : DefS T P "stretch_of" 39 (stOf 39) ["a", "b", "axis"] F39 := ⟨["a", "b", "axis", "other", "low"], 400, rfl, rfl, rfl, ⟨rfl, rfl, rfl, by decide +kernel, rfl, by decide +kernel, by decide +kernel⟩, by kernel_rfl, fun _ _ _ _ _ _ us hl => match us, hl with | [_, _, _], _ => rfl⟩
theorem d40 : DefS T P "stretch" 40 (stOf 40) ["a", "b", "axis"] F40 := ⟨["a", "b", "axis"], 400, rfl, rfl, rfl, ⟨rfl, rfl, rfl, by decide +kernel, rfl, by decide +kernel, by decide +kernel⟩, by kernel_rfl, fun _ _ _ _ _ _ us hl => match us, hl with | [_, _, _], _ => rfl⟩
theorem d41 : DefS T P "moved" 41 (stOf 41) ["box", "vector"] F41 := ⟨["box", "vector"], 400, rfl, rfl, rfl, ⟨rfl, rfl, rfl, by decide +kernel, rfl, by decide +kernel, by decide +kernel⟩, by kernel_rfl, fun _ _ _ _ _ _ us hl => match us, hl with | [_, _], _ => rfl⟩
theorem d42 : DefS T P "hull" 42 (stOf 42) ["a", "b"] F42 := ⟨["a", "b", "place", "ends"], 400, rfl, rfl, rfl, ⟨rfl, rfl, rfl, by decide +kernel, rfl, by decide +kernel, by decide +kernel⟩, by kernel_rfl, fun _ _ _ _ _ _ us hl => match us, hl with | [_, _], _ => rfl⟩
theorem d8 : DefS T P "_law_begin" 8 (stOf 8) ["_law_script"] F8 := ⟨["_law_script", "_law_seed", "_law_cell"], 400, rfl, rfl, rfl, ⟨rfl, rfl, rfl, by decide +kernel, rfl, by decide +kernel, by decide +kernel⟩, by kernel_rfl, fun _ _ _ _ _ _ us hl => match us, hl with | [_], _ => rfl⟩
theorem d9 : DefS T P "_law_take" 9 (stOf 9) ["_law_d", "_law_many"] F9 := ⟨["_law_d", "_law_many", "_law_digit", "_law_small"], 400, rfl, rfl, rfl, ⟨rfl, rfl, rfl, by decide +kernel, rfl, by decide +kernel, by decide +kernel⟩, by kernel_rfl, fun _ _ _ _ _ _ us hl => match us, hl with | [_, _], _ => rfl⟩
theorem d10 : DefS T P "_law_signed" 10 (stOf 10) ["_law_d", "_law_most"] F10 := ⟨["_law_d", "_law_most"], 400, rfl, rfl, rfl, ⟨rfl, rfl, rfl, by decide +kernel, rfl, by decide +kernel, by decide +kernel⟩, by kernel_rfl, fun _ _ _ _ _ _ us hl => match us, hl with | [_, _], _ => rfl⟩
theorem d12 : DefS T P "_law_gcd" 12 (stOf 12) ["_law_a", "_law_b"] F12 := ⟨["_law_a", "_law_b"], 400, rfl, rfl, rfl, ⟨rfl, rfl, rfl, by decide +kernel, rfl, by decide +kernel, by decide +kernel⟩, by kernel_rfl, fun _ _ _ _ _ _ us hl => match us, hl with | [_, _], _ => rfl⟩
theorem d23 : DefS T P "_law_f" 23 (stOf 23) ["_law_a", "_law_b"] F23 := ⟨["_law_a", "_law_b", "_law_c"], 400, rfl, rfl, rfl, ⟨rfl, rfl, rfl, by decide +kernel, rfl, by decide +kernel, by decide +kernel⟩, by kernel_rfl, fun _ _ _ _ _ _ us hl => match us, hl with | [_, _], _ => rfl⟩
theorem d24 : DefS T P "_law_plus" 24 (stOf 24) ["_law_a", "_law_b"] F24 := ⟨["_law_a", "_law_b"], 400, rfl, rfl, rfl, ⟨rfl, rfl, rfl, by decide +kernel, rfl, by decide +kernel, by decide +kernel⟩, by kernel_rfl, fun _ _ _ _ _ _ us hl => match us, hl with | [_, _], _ => rfl⟩
theorem d25 : DefS T P "_law_minus" 25 (stOf 25) ["_law_a", "_law_b"] F25 := ⟨["_law_a", "_law_b"], 400, rfl, rfl, rfl, ⟨rfl, rfl, rfl, by decide +kernel, rfl, by decide +kernel, by decide +kernel⟩, by kernel_rfl, fun _ _ _ _ _ _ us hl => match us, hl with | [_, _], _ => rfl⟩
theorem d13 : DefS T P "_law_less" 13 (stOf 13) ["_law_a", "_law_b"] F13 := ⟨["_law_a", "_law_b"], 400, rfl, rfl, rfl, ⟨rfl, rfl, rfl, by decide +kernel, rfl, by decide +kernel, by decide +kernel⟩, by kernel_rfl, fun _ _ _ _ _ _ us hl => match us, hl with | [_, _], _ => rfl⟩
theorem d43 : DefS T P "_law_min" 43 (stOf 43) ["_law_a", "_law_b"] F43 := ⟨["_law_a", "_law_b"], 400, rfl, rfl, rfl, ⟨rfl, rfl, rfl, by decide +kernel, rfl, by decide +kernel, by decide +kernel⟩, by kernel_rfl, fun _ _ _ _ _ _ us hl => match us, hl with | [_, _], _ => rfl⟩
theorem d44 : DefS T P "_law_max" 44 (stOf 44) ["_law_a", "_law_b"] F44 := ⟨["_law_a", "_law_b"], 400, rfl, rfl, rfl, ⟨rfl, rfl, rfl, by decide +kernel, rfl, by decide +kernel, by decide +kernel⟩, by kernel_rfl, fun _ _ _ _ _ _ us hl => match us, hl with | [_, _], _ => rfl⟩
theorem d27 : DefS T P "_law_part" 27 (stOf 27) ["_law_d", "_law_most"] F27 := ⟨["_law_d", "_law_most"], 400, rfl, rfl, rfl, ⟨rfl, rfl, rfl, by decide +kernel, rfl, by decide +kernel, by decide +kernel⟩, by kernel_rfl, fun _ _ _ _ _ _ us hl => match us, hl with | [_, _], _ => rfl⟩
theorem d28 : DefS T P "_law_vector" 28 (stOf 28) ["_law_d", "_law_most"] F28 := ⟨["_law_d", "_law_most"], 400, rfl, rfl, rfl, ⟨rfl, rfl, rfl, by decide +kernel, rfl, by decide +kernel, by decide +kernel⟩, by kernel_rfl, fun _ _ _ _ _ _ us hl => match us, hl with | [_, _], _ => rfl⟩
theorem d45 : DefS T P "_law_high" 45 (stOf 45) ["_law_box_here", "_law_k"] F45 := ⟨["_law_box_here", "_law_k"], 400, rfl, rfl, rfl, ⟨rfl, rfl, rfl, by decide +kernel, rfl, by decide +kernel, by decide +kernel⟩, by kernel_rfl, fun _ _ _ _ _ _ us hl => match us, hl with | [_, _], _ => rfl⟩
theorem d46 : DefS T P "_law_gap" 46 (stOf 46) ["_law_a", "_law_b", "_law_k"] F46 := ⟨["_law_a", "_law_b", "_law_k"], 400, rfl, rfl, rfl, ⟨rfl, rfl, rfl, by decide +kernel, rfl, by decide +kernel, by decide +kernel⟩, by kernel_rfl, fun _ _ _ _ _ _ us hl => match us, hl with | [_, _, _], _ => rfl⟩
theorem d47 : DefS T P "_law_over" 47 (stOf 47) ["_law_a", "_law_b"] F47 := ⟨["_law_a", "_law_b"], 400, rfl, rfl, rfl, ⟨rfl, rfl, rfl, by decide +kernel, rfl, by decide +kernel, by decide +kernel⟩, by kernel_rfl, fun _ _ _ _ _ _ us hl => match us, hl with | [_, _], _ => rfl⟩
theorem d48 : DefS T P "_law_meet" 48 (stOf 48) ["_law_a", "_law_b"] F48 := ⟨["_law_a", "_law_b"], 400, rfl, rfl, rfl, ⟨rfl, rfl, rfl, by decide +kernel, rfl, by decide +kernel, by decide +kernel⟩, by kernel_rfl, fun _ _ _ _ _ _ us hl => match us, hl with | [_, _], _ => rfl⟩
theorem d49 : DefS T P "_law_size" 49 (stOf 49) ["_law_d"] F49 := ⟨["_law_d"], 400, rfl, rfl, rfl, ⟨rfl, rfl, rfl, by decide +kernel, rfl, by decide +kernel, by decide +kernel⟩, by kernel_rfl, fun _ _ _ _ _ _ us hl => match us, hl with | [_], _ => rfl⟩
theorem d50 : DefS T P "_law_beside" 50 (stOf 50) ["_law_d", "_law_box_here", "_law_size_here"] F50 := ⟨["_law_d", "_law_box_here", "_law_size_here", "_law_k", "_law_place"], 400, rfl, rfl, rfl, ⟨rfl, rfl, rfl, by decide +kernel, rfl, by decide +kernel, by decide +kernel⟩, by kernel_rfl, fun _ _ _ _ _ _ us hl => match us, hl with | [_, _, _], _ => rfl⟩
theorem d51 : DefS T P "_law_box" 51 (stOf 51) ["_law_d", "_law_boxes"] F51 := ⟨["_law_d", "_law_boxes", "_law_size_here"], 400, rfl, rfl, rfl, ⟨rfl, rfl, rfl, by decide +kernel, rfl, by decide +kernel, by decide +kernel⟩, by kernel_rfl, fun _ _ _ _ _ _ us hl => match us, hl with | [_, _], _ => rfl⟩
theorem d53 : DefS T P "_law_told" 53 (stOf 53) ["_law_which", "_law_a", "_law_b", "_law_axis"] F53 := ⟨["_law_which", "_law_a", "_law_b", "_law_axis", "_law_e", "_law_found"], 400, rfl, rfl, rfl, ⟨rfl, rfl, rfl, by decide +kernel, rfl, by decide +kernel, by decide +kernel⟩, by kernel_rfl, fun _ _ _ _ _ _ us hl => match us, hl with | [_, _, _, _], _ => rfl⟩
theorem d54 : DefS T P "_law_stretch" 54 (stOf 54) ["_law_a", "_law_b", "_law_k"] F54 := ⟨["_law_a", "_law_b", "_law_k", "_law_t"], 400, rfl, rfl, rfl, ⟨rfl, rfl, rfl, by decide +kernel, rfl, by decide +kernel, by decide +kernel⟩, by kernel_rfl, fun _ _ _ _ _ _ us hl => match us, hl with | [_, _, _], _ => rfl⟩
theorem d55 : DefS T P "law" 55 (stOf 55) ["_law_script"] F55 := ⟨["_law_script", "_law_d", "_law_a", "_law_b", "_law_k", "_law_over_here", "_law_touch", "_law_low", "_law_ends", "_law_flat", "_law_which"], 400, rfl, rfl, rfl, ⟨rfl, rfl, rfl, by decide +kernel, rfl, by decide +kernel, by decide +kernel⟩, by kernel_rfl, fun _ _ _ _ _ _ us hl => match us, hl with | [_], _ => rfl⟩
theorem d52 : DefH T P "_law_class" 52 (stOf 52) := ⟨"_law_e", ["_law_e"], 400, H52, rfl, rfl, ⟨rfl, rfl, rfl, by decide +kernel, rfl, by decide +kernel, by decide +kernel⟩, by kernel_rfl, fun _ _ _ _ _ _ us hl => match us, hl with | [_], _ => rfl⟩
theorem hs_ok : ∀ q ∈ X.T.hots, DefH X.T P q.1 q.2 (stOf q.2) := List.forall_mem_cons.mpr ⟨d52, fun _ h => by cases h⟩
theorem ds_ok : ∀ q ∈ X.T.fns, ∃ ps F, DefS X.T P q.1 q.2 (stOf q.2) ps F := List.forall_mem_cons.mpr ⟨⟨_, _, d0⟩, List.forall_mem_cons.mpr ⟨⟨_, _, d1⟩, List.forall_mem_cons.mpr ⟨⟨_, _, d2⟩, List.forall_mem_cons.mpr ⟨⟨_, _, d5⟩, List.forall_mem_cons.mpr ⟨⟨_, _, d6⟩, List.forall_mem_cons.mpr ⟨⟨_, _, d7⟩, List.forall_mem_cons.mpr ⟨⟨_, _, d19⟩, List.forall_mem_cons.mpr ⟨⟨_, _, d30⟩, List.forall_mem_cons.mpr ⟨⟨_, _, d31⟩, List.forall_mem_cons.mpr ⟨⟨_, _, d32⟩, List.forall_mem_cons.mpr ⟨⟨_, _, d33⟩, List.forall_mem_cons.mpr ⟨⟨_, _, d34⟩, List.forall_mem_cons.mpr ⟨⟨_, _, d35⟩, List.forall_mem_cons.mpr ⟨⟨_, _, d36⟩, List.forall_mem_cons.mpr ⟨⟨_, _, d37⟩, List.forall_mem_cons.mpr ⟨⟨_, _, d38⟩, List.forall_mem_cons.mpr ⟨⟨_, _, d39⟩, List.forall_mem_cons.mpr ⟨⟨_, _, d40⟩, List.forall_mem_cons.mpr ⟨⟨_, _, d41⟩, List.forall_mem_cons.mpr ⟨⟨_, _, d42⟩, List.forall_mem_cons.mpr ⟨⟨_, _, d8⟩, List.forall_mem_cons.mpr ⟨⟨_, _, d9⟩, List.forall_mem_cons.mpr ⟨⟨_, _, d10⟩, List.forall_mem_cons.mpr ⟨⟨_, _, d12⟩, List.forall_mem_cons.mpr ⟨⟨_, _, d23⟩, List.forall_mem_cons.mpr ⟨⟨_, _, d24⟩, List.forall_mem_cons.mpr ⟨⟨_, _, d25⟩, List.forall_mem_cons.mpr ⟨⟨_, _, d13⟩, List.forall_mem_cons.mpr ⟨⟨_, _, d43⟩, List.forall_mem_cons.mpr ⟨⟨_, _, d44⟩, List.forall_mem_cons.mpr ⟨⟨_, _, d27⟩, List.forall_mem_cons.mpr ⟨⟨_, _, d28⟩, List.forall_mem_cons.mpr ⟨⟨_, _, d45⟩, List.forall_mem_cons.mpr ⟨⟨_, _, d46⟩, List.forall_mem_cons.mpr ⟨⟨_, _, d47⟩, List.forall_mem_cons.mpr ⟨⟨_, _, d48⟩, List.forall_mem_cons.mpr ⟨⟨_, _, d49⟩, List.forall_mem_cons.mpr ⟨⟨_, _, d50⟩, List.forall_mem_cons.mpr ⟨⟨_, _, d51⟩, List.forall_mem_cons.mpr ⟨⟨_, _, d53⟩, List.forall_mem_cons.mpr ⟨⟨_, _, d54⟩, List.forall_mem_cons.mpr ⟨⟨_, _, d55⟩, fun _ h => by cases h⟩⟩⟩⟩⟩⟩⟩⟩⟩⟩⟩⟩⟩⟩⟩⟩⟩⟩⟩⟩⟩⟩⟩⟩⟩⟩⟩⟩⟩⟩⟩⟩⟩⟩⟩⟩⟩⟩⟩⟩⟩⟩
theorem ks_ok : ∀ q ∈ X.kls, (∃ ps F, DefQ X.T P "__init__" (qualM q.x "__init__") q.i (stOf q.i) ps F) ∧ ∀ m ∈ q.ms, ∃ ps F, DefQ X.T P m.1 (qualM q.x m.1) m.2 (stOf m.2) ps F := fun _ h => by cases h
def fnM : List He.DefD := X.kls.flatMap fun q => dM q.x "__init__" (stOf q.i) :: q.ms.map fun m => dM q.x m.1 (stOf m.2)
theorem kf_ok : ∀ q ∈ X.kls, dM q.x "__init__" (stOf q.i) ∈ fnM ∧ ∀ m ∈ q.ms, dM q.x m.1 (stOf m.2) ∈ fnM := fun q hq => ⟨List.mem_flatMap.mpr ⟨q, hq, List.mem_cons_self⟩, fun m hm => List.mem_flatMap.mpr ⟨q, hq, List.mem_cons_of_mem _ (List.mem_map_of_mem (f := fun m => dM q.x m.1 (stOf m.2)) hm)⟩⟩
def fn : List He.DefD := (X.T.fns.map fun q => dD q.1 (stOf q.2)) ++ ((X.T.hots.map fun q => dD q.1 (stOf q.2)) ++ fnM)
/-- the places of the heap that the head looks at -/
def asL : List Addr := 389 :: 388 :: 387 :: 384 :: 383 :: 382 :: 381 :: 380 :: 377 :: 376 :: 375 :: 374 :: 373 :: 370 :: 369 :: 368 :: 367 :: 366 :: 363 :: 362 :: 361 :: 360 :: 359 :: 356 :: 355 :: 354 :: 353 :: 352 :: 349 :: 348 :: 347 :: 346 :: 345 :: 342 :: 341 :: 340 :: 339 :: 338 :: 335 :: 334 :: 333 :: 332 :: 331 :: 328 :: 327 :: 326 :: 325 :: 324 :: 321 :: 320 :: 319 :: 318 :: 317 :: 314 :: 313 :: 312 :: 311 :: 310 :: 307 :: 306 :: 305 :: 304 :: 303 :: 300 :: 299 :: 298 :: 297 :: 296 :: 293 :: 292 :: 291 :: 290 :: 289 :: 286 :: 285 :: 284 :: 283 :: 282 :: 279 :: 278 :: 277 :: 276 :: 275 :: 272 :: 271 :: 270 :: 269 :: 268 :: 265 :: 264 :: 263 :: 262 :: 261 :: 258 :: 257 :: 256 :: 255 :: 254 :: 251 :: 250 :: 249 :: 248 :: 247 :: 244 :: 243 :: 242 :: 241 :: 240 :: 237 :: 236 :: 235 :: 234 :: 233 :: 230 :: 229 :: 228 :: 227 :: 226 :: 223 :: 222 :: 221 :: 220 :: 219 :: 216 :: 215 :: 214 :: 213 :: 212 :: 209 :: 208 :: 207 :: 206 :: 205 :: 202 :: 201 :: 200 :: 199 :: 198 :: 195 :: 194 :: 193 :: 192 :: 191 :: 188 :: 187 :: 186 :: 185 :: 184 :: 181 :: 180 :: 179 :: 178 :: 177 :: 174 :: 173 :: 172 :: 171 :: 170 :: 167 :: 166 :: 165 :: 164 :: 163 :: 160 :: 159 :: 158 :: 157 :: 156 :: 153 :: 152 :: 151 :: 150 :: 149 :: 146 :: 145 :: 144 :: 143 :: 142 :: 139 :: 138 :: 137 :: 136 :: 135 :: 132 :: 131 :: 130 :: 129 :: 128 :: 125 :: 124 :: 123 :: 122 :: 121 :: 118 :: 117 :: 116 :: 115 :: 114 :: 111 :: 110 :: 109 :: 108 :: 107 :: 104 :: 103 :: 102 :: 101 :: 100 :: 97 :: 96 :: 95 :: 94 :: 93 :: 87 :: 75 :: 63 :: 53 :: 50 :: 390 :: 385 :: 378 :: 371 :: 364 :: 357 :: 350 :: 343 :: 336 :: 329 :: 322 :: 315 :: 308 :: 301 :: 294 :: 287 :: 280 :: 273 :: 266 :: 259 :: 252 :: 245 :: 238 :: 231 :: 224 :: 217 :: 210 :: 203 :: 196 :: 189 :: 182 :: 175 :: 168 :: 161 :: 154 :: 147 :: 140 :: 133 :: 126 :: 119 :: 112 :: 105 :: 98 :: 88 :: 76 :: 64 :: 51 :: 0 :: 391 :: 386 :: 379 :: 372 :: 365 :: 358 :: 351 :: 344 :: 337 :: 330 :: 323 :: 316 :: 309 :: 302 :: 295 :: 288 :: 281 :: 274 :: 267 :: 260 :: 253 :: 246 :: 239 :: 232 :: 225 :: 218 :: 211 :: 204 :: 197 :: 190 :: 183 :: 176 :: 169 :: 162 :: 155 :: 148 :: 141 :: 134 :: 127 :: 120 :: 113 :: 106 :: 99 :: 92 :: 89 :: 77 :: 65 :: 52 :: 4 :: 6 :: 3 :: []
abbrev hk : PySem.W.Hook := hookB asL fn X
def ob (s : PySem.W.SharedT) : AlB := obsBG asL fn X (HandSHeadRun.getT s)
theorem ob_eq (s : PySem.W.SharedT) : ob s = hk.obs s.abs := obsBG_eq (HandSHeadRun.getT_eq s)
abbrev Rw : PySem.W.OpenRow := PySem.W.OpenLaw.row PySem.Challenge.rw_steadybodies_k04_gaps_and_stretches
def loose0 : List Str := ("SteadyError" :: "ZeroDenominator" :: "AxisError" :: "BoxError" :: "ZERO" :: "fraction" :: "plus" :: "minus" :: "compare" :: "least" :: "greatest" :: "add" :: "check_box" :: "check_axis" :: "high_end" :: "gap_of" :: "gap" :: "overlap" :: "overlaps" :: "meet" :: "meets" :: "stretch_of" :: "stretch" :: "moved" :: "hull" :: "_law_begin" :: "_law_take" :: "_law_signed" :: "_law_gcd" :: "_law_f" :: [])
def loose1 : List Str := ["_law_plus", "_law_minus", "_law_less", "_law_min", "_law_max", "_law_part", "_law_vector", "_law_high", "_law_gap", "_law_over", "_law_meet", "_law_size", "_law_beside", "_law_box", "_law_class", "_law_told", "_law_stretch"]
def loose : List Str := loose0 ++ loose1
end LW
namespace LW
open PySem PySem.Spec PyProof.Rows L2 SB PySem.W
theorem runA (w : World) : ((HandSHeadRun.wholeF (fun p => HandSHeadRun.stepQ (HandSHeadRun.denQ HandSHeadRun.tabQ) p w) HandSHeadRun.fenceQ 7240 Rw.prog).map fun x => HandSHeadRun.looksF Rw.prog x.1.heap x.2.abs) = some true := by kernel_rfl
theorem runB (w : World) : ((HandSHeadRun.wholeF (fun p => HandSHeadRun.stepQ (HandSHeadRun.denQ HandSHeadRun.tabQ) p w) HandSHeadRun.fenceQ 7240 Rw.prog).map fun x => HandSHeadRun.seenQ (PySem.W.view Rw.prog [0, 53]) loose (importedModules Rw.prog.main.body) (fun s => xlAt (PySem.W.view Rw.prog [0, 53]) [] s && recOk Rw.toRowW.records s) x.2.abs) = some (openGood (PySem.W.view Rw.prog [0, 53]) loose) := by kernel_rfl
theorem runC (w : World) : ((HandSHeadRun.wholeF (fun p => HandSHeadRun.stepQ (HandSHeadRun.denQ HandSHeadRun.tabQ) p w) HandSHeadRun.fenceQ 7240 Rw.prog).map fun x => (ob x.2).1.1) = some true := by kernel_rfl
theorem runD (w : World) : ((HandSHeadRun.wholeF (fun p => HandSHeadRun.stepQ (HandSHeadRun.denQ HandSHeadRun.tabQ) p w) HandSHeadRun.fenceQ 7240 Rw.prog).map fun x => (ob x.2).1.2) = some (fn.map He.DefD.val) := by kernel_rfl
theorem runE (w : World) : ((HandSHeadRun.wholeF (fun p => HandSHeadRun.stepQ (HandSHeadRun.denQ HandSHeadRun.tabQ) p w) HandSHeadRun.fenceQ 7240 Rw.prog).map fun x => (ob x.2).2) = some true := by kernel_rfl
theorem run (w : World) : HandSHeadRun.RunEqI Rw (PySem.W.view Rw.prog [0, 53]) hk ob 7240 loose w := by
  have a := runA w
  have b := runB w
  have c := runC w
  have d := runD w
  have e := runE w
  unfold HandSHeadRun.RunEqI
  generalize (HandSHeadRun.wholeF (fun p => HandSHeadRun.stepQ (HandSHeadRun.denQ HandSHeadRun.tabQ) p w) HandSHeadRun.fenceQ 7240 Rw.prog) = o at a b c d e ⊢
  have v : hk.val w = ((true, fn.map He.DefD.val), true) := rfl
  rw [v]
  cases o with
  | none => cases a
  | some x =>
    have a := Option.some.inj a
    have b := Option.some.inj b
    have c := Option.some.inj c
    have d := Option.some.inj d
    have e := Option.some.inj e
    have z : ob x.2 = ((true, fn.map He.DefD.val), true) := Prod.ext (Prod.ext c d) e
    rw [Option.map_some, z]
    dsimp only at a b
    rw [a, b]
end LW

/-! plain facts: numbers and their sizes, fractions, the evaluator's equations for simp -/
namespace SB
open PySem PySem.Spec PyProof.Rows L2
open Classical
/-! ### sizes -/
structure Bz (n : Nat) (i : Int) : Prop where
  lt : i.natAbs < 2 ^ n
theorem Bz.mono {m n : Nat} {i : Int} (h : Bz m i) (l : m ≤ n) : Bz n i := ⟨Nat.lt_of_lt_of_le h.lt (Nat.pow_le_pow_right (by decide) l)⟩
theorem Bz.neg {m : Nat} {i : Int} (h : Bz m i) : Bz m (-i) := ⟨by rw [Int.natAbs_neg]; exact h.lt⟩
theorem Bz.mul {m n : Nat} {i j : Int} (h : Bz m i) (k : Bz n j) : Bz (m + n) (i * j) := ⟨by
  rw [Int.natAbs_mul, Nat.pow_add]
  exact Nat.mul_lt_mul'' h.lt k.lt⟩
theorem Bz.add {m n : Nat} {i j : Int} (h : Bz m i) (k : Bz n j) : Bz (max m n + 1) (i + j) := ⟨by
  have h1 := (h.mono (Nat.le_max_left m n)).lt
  have h2 := (k.mono (Nat.le_max_right m n)).lt
  have := Int.natAbs_add_le i j
  rw [Nat.pow_succ]
  omega⟩
theorem Bz.sub {m n : Nat} {i j : Int} (h : Bz m i) (k : Bz n j) : Bz (max m n + 1) (i - j) := by
  rw [Int.sub_eq_add_neg]; exact h.add k.neg
theorem Bz.le {m : Nat} {i j : Int} (h : Bz m i) (l : j.natAbs ≤ i.natAbs) : Bz m j := ⟨Nat.lt_of_le_of_lt l h.lt⟩
theorem Bz.log {m : Nat} {i : Int} (h : Bz m i) : i.natAbs.log2 ≤ m := by
  by_cases z : i.natAbs = 0
  · rw [z]; exact Nat.zero_le _
  · exact Nat.le_of_lt ((Nat.log2_lt z).mpr h.lt)
theorem Bz.mulOk {m n : Nat} {i j : Int} (h : Bz m i) (k : Bz n j) (l : m + n < 1000000) : SB.mulOk i j := by
  unfold SB.mulOk
  have := h.log; have := k.log; omega
theorem Bz.of {i : Int} {k : Nat} (n : Nat) (h : i.natAbs ≤ k) (l : k < 2 ^ n) : Bz n i := ⟨Nat.lt_of_le_of_lt h l⟩
/-- a fraction's size -/
structure Sz (n : Nat) (x : Rat) : Prop where
  num : Bz n x.num
  den : Bz n (x.den : Int)
theorem Sz.mono {m n : Nat} {x : Rat} (h : Sz m x) (l : m ≤ n) : Sz n x := ⟨h.num.mono l, h.den.mono l⟩
theorem div_bz {n : Nat} {i : Int} (h : Bz n i) (k : Int) : Bz n (i / k) := h.le (by
  have := Int.natAbs_ediv_le_natAbs i k
  exact this)
theorem divInt_sz {n : Nat} {p q : Int} (h : Bz n p) (k : Bz n q) (hq : q ≠ 0) : Sz n (Rat.divInt p q) := by
  constructor
  · rw [Rat.num_divInt]
    refine div_bz (h.le ?_) _
    rw [Int.natAbs_mul]
    have : q.sign.natAbs = 1 := Int.natAbs_sign_of_ne_zero hq
    rw [this]; omega
  · rw [Rat.den_divInt, if_neg hq]
    refine ⟨?_⟩
    have := k.lt
    exact Nat.lt_of_le_of_lt (Nat.div_le_self _ _) this
theorem den_ne {x : Rat} : (x.den : Int) ≠ 0 := Int.natCast_ne_zero.mpr x.den_nz
theorem den_pos {x : Rat} : 0 < (x.den : Int) := by have := x.den_nz; omega
theorem add_divInt (x y : Rat) : x + y = Rat.divInt (x.num * y.den + y.num * x.den) (x.den * y.den) := by
  have h := Rat.divInt_add_divInt x.num y.num (den_ne (x := x)) (den_ne (x := y))
  rw [Rat.num_divInt_den, Rat.num_divInt_den] at h
  exact h
theorem sub_divInt (x y : Rat) : x - y = Rat.divInt (x.num * y.den - y.num * x.den) (x.den * y.den) := by
  have h := Rat.divInt_sub_divInt x.num y.num (den_ne (x := x)) (den_ne (x := y))
  rw [Rat.num_divInt_den, Rat.num_divInt_den] at h
  exact h
theorem mul_divInt (x y : Rat) : x * y = Rat.divInt (x.num * y.num) (x.den * y.den) := by
  have h := Rat.divInt_mul_divInt x.num y.num (d₁ := x.den) (d₂ := y.den)
  rw [Rat.num_divInt_den, Rat.num_divInt_den] at h
  exact h
theorem div_divInt (x y : Rat) : x / y = Rat.divInt (x.num * y.den) (x.den * y.num) := by
  rw [Rat.div_def, Rat.inv_def]
  have h := Rat.divInt_mul_divInt x.num y.den (d₁ := x.den) (d₂ := y.num)
  rw [Rat.num_divInt_den] at h
  exact h
theorem Sz.add {m n : Nat} {x y : Rat} (h : Sz m x) (k : Sz n y) : Sz (m + n + 1) (x + y) := by
  rw [add_divInt]
  refine divInt_sz ?_ ((h.den.mul k.den).mono (by omega)) (Int.mul_ne_zero den_ne den_ne)
  exact ((h.num.mul k.den).add (k.num.mul h.den)).mono (by omega)
theorem Sz.sub {m n : Nat} {x y : Rat} (h : Sz m x) (k : Sz n y) : Sz (m + n + 1) (x - y) := by
  rw [sub_divInt]
  refine divInt_sz ?_ ((h.den.mul k.den).mono (by omega)) (Int.mul_ne_zero den_ne den_ne)
  exact ((h.num.mul k.den).sub (k.num.mul h.den)).mono (by omega)
theorem Sz.mul {m n : Nat} {x y : Rat} (h : Sz m x) (k : Sz n y) : Sz (m + n) (x * y) := by
  rw [mul_divInt]
  exact divInt_sz (h.num.mul k.num) (h.den.mul k.den) (Int.mul_ne_zero den_ne den_ne)
theorem Sz.div {m n : Nat} {x y : Rat} (h : Sz m x) (k : Sz n y) (hy : y.num ≠ 0) : Sz (m + n) (x / y) := by
  rw [div_divInt]
  exact divInt_sz (h.num.mul k.den) (h.den.mul k.num) (Int.mul_ne_zero den_ne hy)
def fr (x : Rat) : D := .tup [.int x.num, .int x.den]
theorem fr_inj {x y : Rat} (h : fr x = fr y) : x = y := by
  unfold fr at h
  injection h with h
  injection h with h1 h2
  injection h1 with h1
  injection h2 with h2
  injection h2 with h2
  exact Rat.ext h1 (by omega)
/-- the pair that the program makes of n / d -/
theorem fr_pos {n d : Int} (hd : 0 < d) : fr (Rat.divInt n d) = .tup [.int (n / (Nat.gcd n.natAbs d.natAbs : Nat)), .int (d / (Nat.gcd n.natAbs d.natAbs : Nat))] := by
  unfold fr
  have h1 : (Rat.divInt n d).num = n / (Nat.gcd n.natAbs d.natAbs : Nat) := by
    rw [Rat.num_divInt, Int.sign_eq_one_of_pos hd, Int.one_mul, Int.gcd_comm]; rfl
  have h2 : ((Rat.divInt n d).den : Int) = d / (Nat.gcd n.natAbs d.natAbs : Nat) := by
    rw [Rat.den_divInt, if_neg (by omega), Int.gcd_comm, Int.natCast_ediv]
    rw [show ((d.natAbs : Nat) : Int) = d from Int.natAbs_of_nonneg (by omega)]; rfl
  rw [h1, h2]
/-! ### the evaluator's equations -/
theorem tidy_self {n : Nat} {d : D} {S : Sto} (h : S.length = n) : tidy n d S = S := by
  unfold tidy
  split
  · rw [List.take_of_length_le (by omega)]
  · rfl
@[simp] theorem tidy_same {d : D} {S : Sto} : tidy S.length d S = S := tidy_self rfl
@[simp] theorem tidy_set {d : D} {S : Sto} {i : Nat} {o : O} : tidy S.length d (S.set i o) = S.set i o := tidy_self (by simp)
theorem tidy_set2 {d : D} {S : Sto} {i : Nat} {o o2 : O} : tidy (S.set i o).length d (S.set i o2) = S.set i o2 := tidy_self (by simp)
theorem tidy_ref {n k : Nat} {S : Sto} (h : n ≤ k) : tidy n (.ref k) S = S := by
  unfold tidy
  rw [if_neg]
  rintro ⟨a, _⟩
  simp only [D.wf] at a
  omega
theorem whileN_t {c : En → Sto → R Bool} {f : En → Sto → Fl} {n : Nat} {ρ ρ' : En} {S S1 S' : Sto} (h : c ρ S = .ok true S1) (k : f ρ S1 = .nx ρ' S') : whileN c f (n + 1) ρ S = whileN c f n ρ' S' := by
  conv => lhs; unfold whileN
  rw [h]; dsimp only; rw [k]
theorem whileN_f {c : En → Sto → R Bool} {f : En → Sto → Fl} {n : Nat} {ρ : En} {S S1 : Sto} (h : c ρ S = .ok false S1) : whileN c f (n + 1) ρ S = .nx ρ S1 := by
  unfold whileN
  rw [h]
noncomputable abbrev cf (P : Prg) (k : Nat) : Cfg := ⟨evF P k, P.sub, P.w, evF1 P k, P.init, P.meth, P.prop, P.hot, P.fok⟩
theorem evF1_eq {P : Prg} {k : Nat} {f : Nat} {xs : List D} {S : Sto} : evF1 P (k + 1) f xs S = evF P k f xs S := by rw [evF1]
theorem evF_succ {P : Prg} {k f : Nat} {F : Fn} {xs : List D} {S : Sto} (h : P.fn f = some F) (l : xs.length = F.ps) (l2 : F.ps ≤ F.slots) :
    evF P (k + 1) f xs S = tidyR S.length (fin (evSs (cf P k) F.body (xs.map some ++ List.replicate (F.slots - F.ps) none) S)) := by
  rw [evF, h]
  simp only [if_pos (And.intro l l2)]
/-! ### equality of plain data -/
mutual
def py : D → PyData
  | .non => .none
  | .bl b => .bool b
  | .int i => .int i
  | .str x => .str x
  | .tup xs => .tuple (pys xs)
  | _ => .none
def pys : List D → List PyData
  | [] => []
  | x :: xs => py x :: pys xs
end
mutual
/-- data without places, truth values; no deeper than n -/
def pu : Nat → D → Prop
  | _ + 1, .non => True
  | _ + 1, .int _ => True
  | _ + 1, .str x => PyData.strOk x = true
  | n + 1, .tup xs => pus n xs
  | _, _ => False
def pus : Nat → List D → Prop
  | _, [] => True
  | n, x :: xs => pu n x ∧ pus n xs
end
mutual
theorem toP_pu {S : Sto} : ∀ (n : Nat) (d : D), pu n d → toP S n d = some (py d)
  | 0, d, h => by unfold pu at h; cases d <;> exact False.elim h
  | n + 1, .non, _ => rfl
  | n + 1, .int i, _ => rfl
  | n + 1, .str x, h => by
    have h : PyData.strOk x = true := by unfold pu at h; exact h
    show (if PyData.strOk x then some (PyData.str x) else none) = _
    rw [if_pos h]; simp only [py]
  | n + 1, .tup xs, h => by
    have h : pus n xs := by unfold pu at h; exact h
    show (optAll (xs.map (toP S n))).map PyData.tuple = _
    rw [toPs_pu n xs h]; simp only [py, Option.map_some]
  | n + 1, .bl _, h => by unfold pu at h; exact False.elim h
  | n + 1, .fzl _, h => by unfold pu at h; exact False.elim h
  | n + 1, .ref _, h => by unfold pu at h; exact False.elim h
  | n + 1, .exc _, h => by unfold pu at h; exact False.elim h
theorem toPs_pu {S : Sto} : ∀ (n : Nat) (xs : List D), pus n xs → optAll (xs.map (toP S n)) = some (pys xs)
  | n, [], _ => by simp only [pys]; rfl
  | n, x :: xs, h => by
    unfold pus at h
    rw [List.map_cons, toP_pu n x h.1]
    unfold optAll
    rw [toPs_pu n xs h.2]
    simp only [pys]
end
mutual
theorem eqv_pu : ∀ (n : Nat) (d e : D), pu n d → pu n e → PyData.eqv (py d) (py e) = decide (d = e)
  | 0, d, e, h, _ => by unfold pu at h; cases d <;> exact False.elim h
  | n + 1, d, e, h, k => by
    cases d <;> cases e <;> first
      | (exact False.elim (by unfold pu at h; exact h))
      | (exact False.elim (by unfold pu at k; exact k))
      | (simp [py, PyData.eqv]; done)
      | skip
    · rename_i x y
      simp only [py, PyData.eqv, D.int.injEq]
      by_cases z : x = y
      · simp [z]
      · simp [z]
    · rename_i x y
      simp only [py, PyData.eqv, D.str.injEq]
      by_cases z : x = y
      · simp [z]
      · simp [z]
    · rename_i xs ys
      unfold pu at h k
      simp only [py, PyData.eqv, D.tup.injEq]
      exact eqvs_pu n xs ys h k
theorem eqvs_pu : ∀ (n : Nat) (xs ys : List D), pus n xs → pus n ys → PyData.eqvAll (pys xs) (pys ys) = decide (xs = ys)
  | n, [], [], _, _ => by simp [pys, PyData.eqvAll]
  | n, [], y :: ys, _, _ => by simp [pys, PyData.eqvAll]
  | n, x :: xs, [], _, _ => by simp [pys, PyData.eqvAll]
  | n, x :: xs, y :: ys, h, k => by
    unfold pus at h k
    simp only [pys, PyData.eqvAll]
    rw [eqv_pu n x y h.1 k.1, eqvs_pu n xs ys h.2 k.2]
    by_cases z : x = y <;> by_cases z2 : xs = ys <;> simp [z, z2]
end
theorem cmp_eq {x y : D} {S : Sto} (h : pu 60 x) (k : pu 60 y) : cmpD .eq x y S = .ok (.bl (decide (x = y))) S := by
  have h1 := toP_pu (S := S) 60 x h
  have h2 := toP_pu (S := S) 60 y k
  unfold cmpD
  show (match toP S 60 x, toP S 60 y with | some d, some e => R.ok (D.bl (PyData.eqv d e)) S | _, _ => .bad) = _
  rw [h1, h2]
  show R.ok (D.bl (PyData.eqv (py x) (py y))) S = _
  rw [eqv_pu 60 x y h k]
theorem cmp_ne {x y : D} {S : Sto} (h : pu 60 x) (k : pu 60 y) : cmpD .ne x y S = .ok (.bl (!decide (x = y))) S := by
  have h1 := toP_pu (S := S) 60 x h
  have h2 := toP_pu (S := S) 60 y k
  unfold cmpD
  show (match toP S 60 x, toP S 60 y with | some d, some e => R.ok (D.bl (!PyData.eqv d e)) S | _, _ => .bad) = _
  rw [h1, h2]
  show R.ok (D.bl (!PyData.eqv (py x) (py y))) S = _
  rw [eqv_pu 60 x y h k]
@[simp] theorem pu_non {n : Nat} : pu (n + 1) .non := by unfold pu; trivial
@[simp] theorem pu_int {n : Nat} {i : Int} : pu (n + 1) (.int i) := by unfold pu; trivial
@[simp] theorem pu_tup {n : Nat} {xs : List D} : pu (n + 1) (.tup xs) = pus n xs := by conv => lhs; unfold pu
@[simp] theorem pus_nil {n : Nat} : pus n [] := by unfold pus; trivial
@[simp] theorem pus_cons {n : Nat} {x : D} {xs : List D} : pus n (x :: xs) = (pu n x ∧ pus n xs) := by conv => lhs; unfold pus
@[simp] theorem pu_fr {n : Nat} {x : Rat} : pu (n + 2) (fr x) := by unfold fr; simp
@[simp] theorem cmp_eq_int {i j : Int} {S : Sto} : cmpD .eq (.int i) (.int j) S = .ok (.bl (decide (i = j))) S := by
  rw [cmp_eq (by simp) (by simp)]; simp
@[simp] theorem cmp_ne_int {i j : Int} {S : Sto} : cmpD .ne (.int i) (.int j) S = .ok (.bl (!decide (i = j))) S := by
  rw [cmp_ne (by simp) (by simp)]; simp
@[simp] theorem fr_eq {x y : Rat} : (fr x = fr y) = (x = y) := propext ⟨fr_inj, fun h => by rw [h]⟩
@[simp] theorem cmp_eq_fr {x y : Rat} {S : Sto} : cmpD .eq (fr x) (fr y) S = .ok (.bl (decide (x = y))) S := by
  rw [cmp_eq (by simp) (by simp)]; simp
@[simp] theorem cmp_ne_fr {x y : Rat} {S : Sto} : cmpD .ne (fr x) (fr y) S = .ok (.bl (!decide (x = y))) S := by
  rw [cmp_ne (by simp) (by simp)]; simp
@[simp] theorem cmp_lt {i j : Int} {S : Sto} : cmpD .lt (.int i) (.int j) S = .ok (.bl (decide (i < j))) S := rfl
@[simp] theorem cmp_le {i j : Int} {S : Sto} : cmpD .le (.int i) (.int j) S = .ok (.bl (decide (i ≤ j))) S := rfl
@[simp] theorem cmp_gt {i j : Int} {S : Sto} : cmpD .gt (.int i) (.int j) S = .ok (.bl (decide (j < i))) S := rfl
@[simp] theorem cmp_is {a b : Bool} {S : Sto} : cmpD .is (.bl a) (.bl b) S = .ok (.bl (decide (a = b))) S := rfl
@[simp] theorem cmp_ns {a b : Bool} {S : Sto} : cmpD .ns (.bl a) (.bl b) S = .ok (.bl (!decide (a = b))) S := rfl
@[simp] theorem rev_tup {xs : List D} {S : Sto} : revD (.tup xs) S = .ok (.tup xs.reverse) S := rfl
@[simp] theorem cmp_ge {i j : Int} {S : Sto} : cmpD .ge (.int i) (.int j) S = .ok (.bl (decide (j ≤ i))) S := rfl
/-! ### expressions, statements -/
section
variable {c : Cfg} {ρ : En} {S : Sto}
@[simp] theorem xv_var {i : Nat} : evE c (.var i) ρ S = ro (ρ[i]?.join) S := by simp only [evE]
@[simp] theorem xv_cst {d : D} : evE c (.cst d) ρ S = .ok d S := by simp only [evE]
@[simp] theorem xv_bin {o : Op} {a b : E} : evE c (.bin o a b) ρ S = ((evE c a ρ S).bind fun x S1 => (evE c b ρ S1).bind fun y S2 => bop o x y S2) := by simp only [evE]
@[simp] theorem xv_neg {a : E} : evE c (.neg a) ρ S = (evE c a ρ S).bind negD := by simp only [evE]
@[simp] theorem xv_no {a : E} : evE c (.no a) ρ S = (((evE c a ρ S).bind toB).bind fun b S1 => .ok (.bl (!b)) S1) := by simp only [evE]
@[simp] theorem xv_cmp {o : Cm} {a b : E} : evE c (.cmp o a b) ρ S = ((evE c a ρ S).bind fun x S1 => (evE c b ρ S1).bind fun y S2 => cmpD o x y S2) := by simp only [evE]
@[simp] theorem xv_chn {o p : Cm} {a b d : E} : evE c (.chn o p a b d) ρ S = ((evE c a ρ S).bind fun x S1 => (evE c b ρ S1).bind fun y S2 => ((cmpD o x y S2).bind toB).bind fun k S3 => if k = true then (evE c d ρ S3).bind fun z S4 => cmpD p y z S4 else .ok (.bl false) S3) := by simp only [evE]
@[simp] theorem xv_isN {n : Bool} {a : E} : evE c (.isN n a) ρ S = (evE c a ρ S).bind (isND n) := by simp only [evE]
@[simp] theorem xv_mem {n : Bool} {a b : E} : evE c (.mem n a b) ρ S = ((evE c a ρ S).bind fun x S1 => (evE c b ρ S1).bind fun y S2 => memD n x y S2) := by simp only [evE]
@[simp] theorem xv_and {a b : E} : evE c (.and a b) ρ S = (((evE c a ρ S).bind toB).bind fun k S1 => if k = true then ((evE c b ρ S1).bind toB).bind fun k S2 => .ok (.bl k) S2 else .ok (.bl false) S1) := by simp only [evE]
@[simp] theorem xv_or {a b : E} : evE c (.or a b) ρ S = (((evE c a ρ S).bind toB).bind fun k S1 => if k = true then .ok (.bl true) S1 else ((evE c b ρ S1).bind toB).bind fun k S2 => .ok (.bl k) S2) := by simp only [evE]
@[simp] theorem xv_ite {t a b : E} : evE c (.ite t a b) ρ S = (((evE c t ρ S).bind toB).bind fun k S1 => if k = true then evE c a ρ S1 else evE c b ρ S1) := by simp only [evE]
@[simp] theorem xv_tup {es : Es} : evE c (.tup es) ρ S = (evEs c es ρ S).bind tupD := by simp only [evE]
@[simp] theorem xv_ix {a i : E} : evE c (.ix a i) ρ S = ((evE c a ρ S).bind fun x S1 => (evE c i ρ S1).bind fun y S2 => ixD x y S2) := by simp only [evE]
@[simp] theorem xv_sl {a : E} {lo hi : Eo} : evE c (.sl a lo hi) ρ S = ((evE c a ρ S).bind fun x S1 => (evO c lo ρ S1).bind fun l S2 => (evO c hi ρ S2).bind fun h S3 => slD x l h S3) := by simp only [evE]
@[simp] theorem xv_call {f : Nat} {es : Es} : evE c (.call f es) ρ S = ((evEs c es ρ S).bind fun xs S1 => c.call f xs S1) := by simp only [evE]
@[simp] theorem xv_bi {b : Bi} {es : Es} : evE c (.bi b es) ρ S = ((evEs c es ρ S).bind fun xs S1 => biD b xs S1) := by simp only [evE]
@[simp] theorem xv_new {l : L} : evE c (.new l) ρ S = (evL c l ρ S).bind newD := by simp only [evE]
@[simp] theorem xv_bil {b : Bl} {l : L} : evE c (.bil b l) ρ S = ((evL c l ρ S).bind fun xs S1 => blD b xs S1) := by simp only [evE]
@[simp] theorem xv_isE {k : Nat} {a : E} : evE c (.isE k a) ρ S = (evE c a ρ S).bind (excD c.sub k) := by simp only [evE]
@[simp] theorem xv_rev {a : E} : evE c (.rev a) ρ S = (evE c a ρ S).bind revD := by simp only [evE]
@[simp] theorem xv_app {a e : E} : evE c (.app a e) ρ S = ((evE c a ρ S).bind fun x S1 => (chkL x S1).bind fun _ S1 => (evE c e ρ S1).bind fun y S2 => appD x y S2) := by simp only [evE]
@[simp] theorem xv_enil : evEs c .nil ρ S = .ok [] S := by simp only [evEs]
@[simp] theorem xv_econs {e : E} {es : Es} : evEs c (.cons e es) ρ S = ((evE c e ρ S).bind fun x S1 => (evEs c es ρ S1).bind fun xs S2 => .ok (x :: xs) S2) := by simp only [evEs]
@[simp] theorem xv_onone : evO c .none ρ S = .ok none S := by simp only [evO]
@[simp] theorem xv_osome {e : E} : evO c (.some e) ρ S = (evE c e ρ S).bind intO := by simp only [evO]
@[simp] theorem xv_cnone : evC c .none ρ S = .ok true S := by simp only [evC]
@[simp] theorem xv_csome {e : E} : evC c (.some e) ρ S = (evE c e ρ S).bind toB := by simp only [evC]
@[simp] theorem xv_disp {es : Es} : evL c (.disp es) ρ S = (evEs c es ρ S).bind lstD := by simp only [evL]
@[simp] theorem xv_comp {e : E} {t : Tg} {it : Src} {cnd : Eo} {own : List Nat} : evL c (.comp e t it cnd own) ρ S = ((evIt c it ρ S).bind fun p S1 => compL p.2 (fun x S2 => (evT c t x (wipeE ρ own) S2).bind fun ρ2 S3 => (evC c cnd ρ2 S3).bind fun k S4 => if k = true then (evE c e ρ2 S4).bind fun d S5 => .ok (some d) S5 else .ok none S4) p.1 [] S1) := by simp only [evL]
@[simp] theorem xv_cat {a b : L} : evL c (.cat a b) ρ S = ((evL c a ρ S).bind fun xs S1 => (evL c b ρ S1).bind fun ys S2 => catD xs ys S2) := by simp only [evL]
@[simp] theorem xv_catEL {e : E} {l : L} : evL c (.catEL e l) ρ S = ((evE c e ρ S).bind fun x S1 => (evL c l ρ S1).bind fun ys S2 => catEL x ys S2) := by simp only [evL]
@[simp] theorem xv_catLE {e : E} {l : L} : evL c (.catLE l e) ρ S = ((evL c l ρ S).bind fun xs S1 => (evE c e ρ S1).bind fun y S2 => catLE xs y S2) := by simp only [evL]
@[simp] theorem xv_copy {e : E} : evL c (.copy e) ρ S = (evE c e ρ S).bind copyD := by simp only [evL]
@[simp] theorem xv_cut {e : E} {lo hi : Eo} : evL c (.cut e lo hi) ρ S = ((evE c e ρ S).bind fun x S1 => (evO c lo ρ S1).bind fun l S2 => (evO c hi ρ S2).bind fun h S3 => cutL S3 x l h) := by simp only [evL]
@[simp] theorem xv_rep {e n : E} : evL c (.rep e n) ρ S = ((evE c e ρ S).bind fun x S1 => (evE c n ρ S1).bind fun k S2 => repD x k S2) := by simp only [evL]
@[simp] theorem xv_ival {e : E} : evIt c (.val e) ρ S = (evE c e ρ S).bind valI := by simp only [evIt]
@[simp] theorem xv_ilst {l : L} : evIt c (.lst l) ρ S = ((evL c l ρ S).bind fun xs S1 => .ok (xs, fun _ => True) S1) := by simp only [evIt]
@[simp] theorem xv_rg1 {a : E} : evIt c (.rg1 a) ρ S = (evE c a ρ S).bind rgI1 := by simp only [evIt]
@[simp] theorem xv_rg2 {a b : E} : evIt c (.rg2 a b) ρ S = ((evE c a ρ S).bind fun x S1 => (evE c b ρ S1).bind fun y S2 => rgI2 x y S2) := by simp only [evIt]
@[simp] theorem xv_nm {i : Nat} {d : D} : evT c (.nm i) d ρ S = .ok (ρ.set i (some d)) S := by simp only [evT]
@[simp] theorem xv_tp {ts : Tgs} {xs : List D} : evT c (.tp ts) (.tup xs) ρ S = evTs c ts xs ρ S := by simp only [evT]
@[simp] theorem xv_sub {o i : E} {d : D} : evT c (.sub o i) d ρ S = ((evE c o ρ S).bind fun x S1 => (evE c i ρ S1).bind fun y S2 => setD x y d ρ S2) := by simp only [evT]
@[simp] theorem xv_tnil : evTs c .nil [] ρ S = .ok ρ S := by simp only [evTs]
@[simp] theorem xv_tcons {t : Tg} {ts : Tgs} {x : D} {xs : List D} : evTs c (.cons t ts) (x :: xs) ρ S = ((evT c t x ρ S).bind fun ρ1 S1 => evTs c ts xs ρ1 S1) := by simp only [evTs]
@[simp] theorem xv_asg {t : Tg} {e : E} : evS c (.asg t e) ρ S = ((evE c e ρ S).flow ρ fun d S1 => R.calm (evT c t d ρ S1) fun ρ2 S2 => .nx ρ2 S2) := by simp only [evS]
@[simp] theorem xv_par {i j : Nat} {a b : E} : evS c (.par i j a b) ρ S = ((evE c a ρ S).flow ρ fun x S1 => (evE c b ρ S1).flow ρ fun y S2 => .nx ((ρ.set i (some x)).set j (some y)) S2) := by simp only [evS]
@[simp] theorem xv_ex {e : E} : evS c (.ex e) ρ S = ((evE c e ρ S).flow ρ fun _ S1 => .nx ρ S1) := by simp only [evS]
@[simp] theorem xv_ret {e : E} : evS c (.ret e) ρ S = ((evE c e ρ S).flow ρ fun d S1 => .rt d S1) := by simp only [evS]
@[simp] theorem xv_retN : evS c .retN ρ S = .rt .non S := by simp only [evS]
@[simp] theorem xv_if {t : E} {a b : Ss} : evS c (.ite t a b) ρ S = (((evE c t ρ S).bind toB).flow ρ fun k S1 => if k = true then evSs c a ρ S1 else evSs c b ρ S1) := by simp only [evS]
@[simp] theorem xv_for {t : Tg} {it : Src} {b : Ss} : evS c (.forr t it b) ρ S = ((evIt c it ρ S).flow ρ fun p S1 => forL p.2 (fun x ρ1 S2 => R.calm (evT c t x ρ1 S2) fun ρ2 S3 => evSs c b ρ2 S3) p.1 ρ S1) := by simp only [evS]
@[simp] theorem xv_whl {t : E} {b : Ss} : evS c (.whl t b) ρ S = whileN (fun ρ1 S1 => (evE c t ρ1 S1).bind toB) (fun ρ1 S1 => evSs c b ρ1 S1) c.w ρ S := by simp only [evS]
@[simp] theorem xv_raise {k : Nat} : evS c (.raise k) ρ S = .er k ρ S := by simp only [evS]
@[simp] theorem xv_pass : evS c .pass ρ S = .nx ρ S := by simp only [evS]
@[simp] theorem xv_brk : evS c .brk ρ S = .bk ρ S := by simp only [evS]
@[simp] theorem xv_cont : evS c .cont ρ S = .ct ρ S := by simp only [evS]
@[simp] theorem xv_try {b h : Ss} {k : Nat} : evS c (.tryE b k none h) ρ S = tryF c.sub k (evSs c b ρ S) fun j ρ1 S1 => noEr (evSs c h ρ1 S1) := by simp only [evS]
@[simp] theorem xv_tryAs {b h : Ss} {k i : Nat} : evS c (.tryE b k (some i) h) ρ S = tryF c.sub k (evSs c b ρ S) fun j ρ1 S1 => rtOnly S1 (evSs c h (ρ1.set i (some (.exc j))) S1) := by simp only [evS]
@[simp] theorem xv_snil : evSs c .nil ρ S = .nx ρ S := by simp only [evSs]
@[simp] theorem xv_scons {s : St} {ss : Ss} : evSs c (.cons s ss) ρ S = seqF (evS c s ρ S) fun ρ1 S1 => evSs c ss ρ1 S1 := by simp only [evSs]
end
@[simp] theorem calm_ok {α : Type} {a : α} {S : Sto} {f : α → Sto → Fl} : R.calm (.ok a S) f = f a S := rfl
@[simp] theorem toB_bl {b : Bool} {S : Sto} : toB (.bl b) S = .ok b S := rfl
@[simp] theorem fin_nx {ρ : En} {S : Sto} : fin (.nx ρ S) = .ok .non S := rfl
@[simp] theorem fin_rt {d : D} {S : Sto} : fin (.rt d S) = .ok d S := rfl
@[simp] theorem fin_er {k : Nat} {ρ : En} {S : Sto} : fin (.er k ρ S) = .err k S := rfl
@[simp] theorem tidyR_ok {n : Nat} {d : D} {S : Sto} : tidyR n (.ok d S) = .ok d (tidy n d S) := rfl
@[simp] theorem tidyR_err {n k : Nat} {S : Sto} : tidyR n (.err k S) = .err k (tidy n .non S) := rfl
@[simp] theorem neg_int {i : Int} {S : Sto} : negD (.int i) S = .ok (.int (-i)) S := rfl
@[simp] theorem intO_int {i : Int} {S : Sto} : intO (.int i) S = .ok (some i) S := rfl
@[simp] theorem bop_add {i j : Int} {S : Sto} : bop .add (.int i) (.int j) S = .ok (.int (i + j)) S := rfl
@[simp] theorem bop_sub {i j : Int} {S : Sto} : bop .sub (.int i) (.int j) S = .ok (.int (i - j)) S := rfl
theorem bop_mul {i j : Int} {S : Sto} (h : mulOk i j) : bop .mul (.int i) (.int j) S = .ok (.int (i * j)) S := if_pos h
theorem bop_div {i j : Int} {S : Sto} {n : Nat} (h : 0 < j) (b : Bz n j) (l : n < 9000) : bop .fdiv (.int i) (.int j) S = .ok (.int (i / j)) S := if_pos ⟨h, by have := b.log; omega⟩
theorem bop_mod {i j : Int} {S : Sto} (h : 0 < j) : bop .mod (.int i) (.int j) S = .ok (.int (i % j)) S := if_pos h
theorem tupD_ok {xs : List D} {S : Sto} (h : xs.length ≤ sizeLine) : tupD xs S = .ok (.tup xs) S := if_pos h
@[simp] theorem tupD_0 {S : Sto} : tupD [] S = .ok (.tup []) S := tupD_ok (by decide)
@[simp] theorem tupD_1 {a : D} {S : Sto} : tupD [a] S = .ok (.tup [a]) S := tupD_ok (by decide : 1 ≤ sizeLine)
@[simp] theorem tupD_2 {a b : D} {S : Sto} : tupD [a, b] S = .ok (.tup [a, b]) S := tupD_ok (by decide : 2 ≤ sizeLine)
@[simp] theorem tupD_3 {a b d : D} {S : Sto} : tupD [a, b, d] S = .ok (.tup [a, b, d]) S := tupD_ok (by decide : 3 ≤ sizeLine)
@[simp] theorem tupD_4 {a b d e : D} {S : Sto} : tupD [a, b, d, e] S = .ok (.tup [a, b, d, e]) S := tupD_ok (by decide : 4 ≤ sizeLine)
@[simp] theorem lstD_0 {S : Sto} : lstD [] S = .ok [] S := if_pos (by decide)
@[simp] theorem lstD_1 {a : D} {S : Sto} : lstD [a] S = .ok [a] S := if_pos (by decide : 1 ≤ sizeLine)
@[simp] theorem lstD_2 {a b : D} {S : Sto} : lstD [a, b] S = .ok [a, b] S := if_pos (by decide : 2 ≤ sizeLine)
@[simp] theorem lstD_4 {a b d e : D} {S : Sto} : lstD [a, b, d, e] S = .ok [a, b, d, e] S := if_pos (by decide : 4 ≤ sizeLine)
@[simp] theorem newD_eq {xs : List D} {S : Sto} : newD xs S = .ok (.ref S.length) (S ++ [.lst xs]) := rfl
@[simp] theorem bi_abs {i : Int} {S : Sto} : biD .abs [.int i] S = .ok (.int (if i < 0 then -i else i)) S := rfl
@[simp] theorem bi_int {i : Int} {S : Sto} : biD .int [.int i] S = .ok (.int i) S := rfl
@[simp] theorem bi_gcd {i j : Int} {S : Sto} : biD .gcd [.int i, .int j] S = .ok (.int ((Nat.gcd i.natAbs j.natAbs : Nat) : Int)) S := rfl
theorem atI_nn {α : Type} {xs : List α} {k : Int} (h : 0 ≤ k) : atI xs k = xs[k.toNat]? := by
  unfold atI ixN
  rw [if_pos h]
  by_cases l : k < xs.length
  · rw [if_pos l]; rfl
  · rw [if_neg l, List.getElem?_eq_none (by omega)]; rfl
theorem ixD_of {a i : D} {S : Sto} (h : isDic S a = false) : ixD a i S = ixS a i S := if_neg (by rw [h]; exact Bool.false_ne_true)
theorem memD_of {b : Bool} {x y : D} {S : Sto} (h : isDic S y = false) : memD b x y S = memS b x y S := if_neg (by rw [h]; exact Bool.false_ne_true)
theorem setD_of {x y d : D} {ρ : En} {S : Sto} (h : isDic S x = false) : setD x y d ρ S = setS x y d ρ S := if_neg (by rw [h]; exact Bool.false_ne_true)
theorem noDic {S : Sto} {m : Nat} {xs : List D} (h : S[m]? = some (.lst xs)) : isDic S (.ref m) = false := by unfold isDic; dsimp only; rw [h]
theorem ix_tup {xs : List D} {k : Int} {v : D} {S : Sto} (h : atI xs k = some v) : ixD (.tup xs) (.int k) S = .ok v S := by
  rw [ixD_of rfl]; unfold ixS; dsimp only [itemsOf]; rw [h]
@[simp] theorem ix_t0 {a : D} {xs : List D} {S : Sto} : ixD (.tup (a :: xs)) (.int 0) S = .ok a S := ix_tup (by rw [atI_nn (by omega)]; rfl)
@[simp] theorem ix_t1 {a b : D} {xs : List D} {S : Sto} : ixD (.tup (a :: b :: xs)) (.int 1) S = .ok b S := ix_tup (by rw [atI_nn (by omega)]; rfl)
@[simp] theorem ix_t2 {a b d : D} {xs : List D} {S : Sto} : ixD (.tup (a :: b :: d :: xs)) (.int 2) S = .ok d S := ix_tup (by rw [atI_nn (by omega)]; rfl)
@[simp] theorem ix_f0 {x : Rat} {S : Sto} : ixD (fr x) (.int 0) S = .ok (.int x.num) S := by unfold fr; simp
@[simp] theorem ix_f1 {x : Rat} {S : Sto} : ixD (fr x) (.int 1) S = .ok (.int x.den) S := by unfold fr; simp
theorem bop_pow {i j : Int} {S : Sto} (h : 0 ≤ j ∧ j ≤ 1000000 ∧ i.natAbs < 2 ^ 64) : bop .pow (.int i) (.int j) S = .ok (.int (i ^ j.toNat)) S := if_pos h
/-! ### lists at places -/
theorem lstAt_get {S : Sto} {m : Nat} {xs : List D} (h : S[m]? = some (.lst xs)) : lstAt S m = some xs := by unfold lstAt; rw [h]
theorem ix_ref {S : Sto} {m : Nat} {xs : List D} {k : Int} {v : D} (h : S[m]? = some (.lst xs)) (e : atI xs k = some v) : ixD (.ref m) (.int k) S = .ok v S := by
  rw [ixD_of (noDic h)]; unfold ixS; dsimp only [itemsOf]; rw [h]; dsimp only; rw [e]
theorem len_ref {S : Sto} {m : Nat} {xs : List D} (h : S[m]? = some (.lst xs)) : biD .len [.ref m] S = .ok (.int xs.length) S := by
  unfold biD; dsimp only; rw [h]
theorem set_ref {S : Sto} {m : Nat} {xs : List D} {k : Int} {j : Nat} {d : D} {ρ : En} (h : S[m]? = some (.lst xs)) (e : ixN xs.length k = some j) : setD (.ref m) (.int k) d ρ S = .ok ρ (S.set m (.lst (xs.set j d))) := by
  rw [setD_of (noDic h)]; unfold setS; dsimp only; rw [lstAt_get h]; dsimp only; rw [e]
theorem app_ref {S : Sto} {m : Nat} {xs : List D} {d : D} (h : S[m]? = some (.lst xs)) (l : xs.length < sizeLine) : appD (.ref m) d S = .ok .non (S.set m (.lst (xs ++ [d]))) := by
  unfold appD; dsimp only; rw [lstAt_get h]; dsimp only; rw [if_pos l]
theorem chk_ref {S : Sto} {m : Nat} {xs : List D} (h : S[m]? = some (.lst xs)) : chkL (.ref m) S = .ok () S := by
  unfold chkL; dsimp only; rw [lstAt_get h]
/-- the drawing list's four cells -/
abbrev q4 (a b c d : D) : O := .lst [a, b, c, d]
section
variable {S : Sto} {m j : Nat} {a b c d v : D} {ρ : En}
theorem q_get (h : m < S.length) : (S.set m (q4 a b c d))[m]? = some (q4 a b c d) := by simp [h]
theorem q_i0 (h : m < S.length) : ixD (.ref m) (.int 0) (S.set m (q4 a b c d)) = .ok a (S.set m (q4 a b c d)) := ix_ref (q_get h) (by rw [atI_nn (by omega)]; rfl)
theorem q_i1 (h : m < S.length) : ixD (.ref m) (.int 1) (S.set m (q4 a b c d)) = .ok b (S.set m (q4 a b c d)) := ix_ref (q_get h) (by rw [atI_nn (by omega)]; rfl)
theorem q_i2 (h : m < S.length) : ixD (.ref m) (.int 2) (S.set m (q4 a b c d)) = .ok c (S.set m (q4 a b c d)) := ix_ref (q_get h) (by rw [atI_nn (by omega)]; rfl)
theorem q_i3 (h : m < S.length) : ixD (.ref m) (.int 3) (S.set m (q4 a b c d)) = .ok d (S.set m (q4 a b c d)) := ix_ref (q_get h) (by rw [atI_nn (by omega)]; rfl)
theorem q_s1 (h : m < S.length) : setD (.ref m) (.int 1) v ρ (S.set m (q4 a b c d)) = .ok ρ (S.set m (q4 a v c d)) := by
  rw [set_ref (q_get h) (j := 1) (show ixN 4 1 = some 1 by decide)]; simp
theorem q_s2 (h : m < S.length) : setD (.ref m) (.int 2) v ρ (S.set m (q4 a b c d)) = .ok ρ (S.set m (q4 a b v d)) := by
  rw [set_ref (q_get h) (j := 2) (show ixN 4 2 = some 2 by decide)]; simp
theorem q_s3 (h : m < S.length) : setD (.ref m) (.int 3) v ρ (S.set m (q4 a b c d)) = .ok ρ (S.set m (q4 a b c v)) := by
  rw [set_ref (q_get h) (j := 3) (show ixN 4 3 = some 3 by decide)]; simp
theorem q_other (h : j ≠ m) : (S.set m (q4 a b c d))[j]? = S[j]? := by rw [List.getElem?_set_ne (Ne.symm h)]
end
/-- the place m holds a drawing list -/
structure Dr (S : Sto) (m : Nat) : Prop where
  ex : ∃ (j : Nat) (cells : List Int) (pos num seed : Int), 0 ≤ pos ∧ 0 ≤ num ∧ 0 ≤ seed ∧ seed < 2147483647 ∧ S[m]? = some (q4 (.ref j) (.int pos) (.int num) (.int seed)) ∧ S[j]? = some (.lst (cells.map .int)) ∧ j < m
/-- nothing but the place m has changed -/
structure Ex (m : Nat) (S S' : Sto) : Prop where
  len : S'.length = S.length
  at_ : ∀ i, i ≠ m → S'[i]? = S[i]?
theorem Ex.refl {m : Nat} {S : Sto} : Ex m S S := ⟨rfl, fun _ _ => rfl⟩
theorem Ex.trans {m : Nat} {S S1 S2 : Sto} (a : Ex m S S1) (b : Ex m S1 S2) : Ex m S S2 := ⟨b.len.trans a.len, fun i h => (b.at_ i h).trans (a.at_ i h)⟩
theorem Ex.set {m : Nat} {S : Sto} {o : O} : Ex m S (S.set m o) := ⟨by simp, fun i h => List.getElem?_set_ne (Ne.symm h)⟩
theorem tidy_ex {m : Nat} {S S' : Sto} {d : D} (h : Ex m S S') : tidy S.length d S' = S' := tidy_self h.len
theorem compL_map {ok : Sto → Prop} {f : D → Sto → R (Option D)} {g : D → D} {S : Sto} (hS : ok S) : ∀ (xs acc : List D), (∀ x ∈ xs, f x S = .ok (some (g x)) S) → compL ok f xs acc S = .ok (acc ++ xs.map g) S
  | [], acc, _ => by simp [compL, hS]
  | x :: xs, acc, h => by
    have h1 := h x (by simp)
    have ih := compL_map hS xs (acc ++ [g x]) (fun y hy => h y (by simp [hy]))
    simp [compL, hS, h1, ih]
theorem any_eqv {n : Nat} {x : D} (hx : pu n x) : ∀ (xs : List D), pus n xs → (pys xs).any (fun z => PyData.eqv z (py x)) = decide (x ∈ xs)
  | [], _ => by simp [pys]
  | y :: ys, h => by
    unfold pus at h
    have ih := any_eqv hx ys h.2
    simp only [pys, List.any_cons, ih, eqv_pu n y x h.1 hx, List.mem_cons]
    by_cases z : y = x
    · simp [z]
    · have z' : ¬ x = y := fun e => z e.symm
      simp [z, z']
theorem mem_ref {neg : Bool} {x : D} {n : Nat} {xs : List D} {S : Sto} (h : S[n]? = some (.lst xs)) (hs : ∀ c, x ≠ .str c) (hx : pu 59 x) (hxs : pus 59 xs) : memD neg x (.ref n) S = .ok (.bl (if neg then !decide (x ∈ xs) else decide (x ∈ xs))) S := by
  have up : ∀ (n : Nat) (d : D), pu n d → pu (n + 1) d := by
    intro n
    induction n with
    | zero => intro d h; unfold pu at h; cases d <;> exact False.elim h
    | succ n ih =>
      have ihs : ∀ ds : List D, pus n ds → pus (n + 1) ds := by
        intro ds
        induction ds with
        | nil => intro _; simp
        | cons d ds ih2 => intro h; unfold pus at h ⊢; exact ⟨ih d h.1, ih2 h.2⟩
      intro d h
      cases d <;> first
        | (unfold pu at h ⊢; first | trivial | exact h | exact False.elim h)
        | (unfold pu at h ⊢; exact ihs _ h)
  have h1 := toP_pu (S := S) 60 x (up 59 x hx)
  have h2 : toP S 60 (.ref n) = some (.list (pys xs)) := by
    show (match S[n]? with | some (.lst ys) => (optAll (ys.map (toP S 59))).map PyData.list | _ => none) = _
    rw [h]
    dsimp only
    rw [toPs_pu 59 xs hxs]
    rfl
  have e : memD neg x (.ref n) S = (match toP S 60 x, toP S 60 (.ref n) with
    | some d, some (.list es) => .ok (.bl (if neg then !es.any (fun z => PyData.eqv z d) else es.any (fun z => PyData.eqv z d))) S
    | _, _ => .bad) := by
    rw [memD_of (noDic h)]
    cases x <;> first | rfl | exact (hs _ rfl).elim
  rw [e, h1, h2]
  dsimp only
  rw [any_eqv hx xs hxs]
theorem pus_map {α : Type} {n : Nat} {f : α → D} : ∀ (xs : List α), (∀ x ∈ xs, pu n (f x)) → pus n (xs.map f)
  | [], _ => by simp
  | x :: xs, h => by
    simp only [List.map_cons, pus_cons]
    exact ⟨h x (by simp), pus_map xs fun y hy => h y (by simp [hy])⟩
theorem allB_map {α : Type} (f : α → Bool) : ∀ (xs : List α), allB (xs.map fun x => D.bl (f x)) = some (xs.map f)
  | [] => rfl
  | x :: xs => by simp [allB, allB_map f xs]
theorem divInt_cross {p q : Int} (h : q ≠ 0) : (Rat.divInt p q).num * q = p * (Rat.divInt p q).den := by
  have e := Rat.num_divInt_den (Rat.divInt p q)
  exact (Rat.divInt_eq_divInt_iff den_ne h).mp e
theorem sl_from1 {a : D} {xs : List D} {S : Sto} : slD (.tup (a :: xs)) (some 1) none S = .ok (.tup xs) S := by
  have h1 : HT.sIx (a :: xs).length 0 (some 1) = 1 := by unfold HT.sIx; simp
  have h2 : HT.sIx (a :: xs).length (a :: xs).length none = (a :: xs).length := rfl
  unfold slD
  dsimp only
  unfold cutD
  rw [h1, h2]
  simp
theorem Dr.lt {S : Sto} {m : Nat} (h : Dr S m) : m < S.length := by
  obtain ⟨j, cells, pos, num, seed, a1, a2, a3, a4, a5, a6, a7⟩ := h.ex
  exact (List.getElem?_eq_some_iff.mp a5).1
theorem Dr.set {S : Sto} {m i : Nat} {o : O} (h : Dr S m) (hi : m < i) : Dr (S.set i o) m := by
  obtain ⟨j, cells, pos, num, seed, a1, a2, a3, a4, a5, a6, a7⟩ := h.ex
  exact ⟨j, cells, pos, num, seed, a1, a2, a3, a4, by rw [List.getElem?_set_ne (by omega)]; exact a5, by rw [List.getElem?_set_ne (by omega)]; exact a6, a7⟩
theorem Dr.push {S : Sto} {m : Nat} {o : O} (h : Dr S m) : Dr (S ++ [o]) m := by
  have hl := h.lt
  obtain ⟨j, cells, pos, num, seed, a1, a2, a3, a4, a5, a6, a7⟩ := h.ex
  exact ⟨j, cells, pos, num, seed, a1, a2, a3, a4, by rw [List.getElem?_append_left hl]; exact a5, by rw [List.getElem?_append_left (by omega)]; exact a6, a7⟩
@[simp] theorem wipe_nil {ρ : En} : wipeE ρ [] = ρ := rfl
@[simp] theorem wipe_cons {ρ : En} {v : Nat} {vs : List Nat} : wipeE ρ (v :: vs) = (wipeE ρ vs).set v none := rfl
theorem any_none (xs : List D) (S : Sto) : blD .any (xs.map fun _ => D.bl false) S = .ok (.bl false) S := by
  unfold blD
  dsimp only
  rw [allB_map (fun _ => false)]
  dsimp only
  congr 2
  induction xs with
  | nil => rfl
  | cons x xs ih => simpa using ih
theorem fr_int {x : Rat} (i : Int) (h : x = Rat.divInt i 1) : fr x = .tup [.int i, .int 1] := by
  rw [h, fr_pos (by omega)]; simp
/-- the sign of a comparison -/
def cmpR (x y : Rat) : Int := if x < y then -1 else if y < x then 1 else 0
def lowR (b : Rat) (r : List Rat) : Rat := r.foldl (fun b i => if i < b then i else b) b
def highR (b : Rat) (r : List Rat) : Rat := r.foldl (fun b i => if b < i then i else b) b
theorem low_mem : ∀ (r : List Rat) (x : Rat), lowR x r ∈ x :: r
  | [], x => by simp [lowR]
  | i :: r, x => by
    have h := low_mem r (if i < x then i else x)
    have e : lowR x (i :: r) = lowR (if i < x then i else x) r := rfl
    rw [e]
    rcases List.mem_cons.mp h with h | h
    · rw [h]; split <;> simp
    · simp [h]
theorem low_le : ∀ (r : List Rat) (x y : Rat), y ∈ x :: r → lowR x r ≤ y
  | [], x, y, h => by
    have : y = x := by simpa using h
    rw [this]; exact Rat.le_refl
  | i :: r, x, y, h => by
    have e : lowR x (i :: r) = lowR (if i < x then i else x) r := rfl
    rw [e]
    rcases List.mem_cons.mp h with rfl | h
    · by_cases l : i < y
      · rw [if_pos l]; exact Rat.le_trans (low_le r i i (by simp)) (Rat.le_of_lt l)
      · rw [if_neg l]; exact low_le r y y (by simp)
    · rcases List.mem_cons.mp h with rfl | h
      · by_cases l : y < x
        · rw [if_pos l]; exact low_le r y y (by simp)
        · rw [if_neg l]; exact Rat.le_trans (low_le r x x (by simp)) (Rat.not_lt.mp l)
      · exact low_le r _ y (by simp [h])
theorem high_mem : ∀ (r : List Rat) (x : Rat), highR x r ∈ x :: r
  | [], x => by simp [highR]
  | i :: r, x => by
    have h := high_mem r (if x < i then i else x)
    have e : highR x (i :: r) = highR (if x < i then i else x) r := rfl
    rw [e]
    rcases List.mem_cons.mp h with h | h
    · rw [h]; split <;> simp
    · simp [h]
theorem le_high : ∀ (r : List Rat) (x y : Rat), y ∈ x :: r → y ≤ highR x r
  | [], x, y, h => by
    have : y = x := by simpa using h
    rw [this]; exact Rat.le_refl
  | i :: r, x, y, h => by
    have e : highR x (i :: r) = highR (if x < i then i else x) r := rfl
    rw [e]
    rcases List.mem_cons.mp h with rfl | h
    · by_cases l : y < i
      · rw [if_pos l]; exact Rat.le_trans (Rat.le_of_lt l) (le_high r i i (by simp))
      · rw [if_neg l]; exact le_high r y y (by simp)
    · rcases List.mem_cons.mp h with rfl | h
      · by_cases l : x < y
        · rw [if_pos l]; exact le_high r y y (by simp)
        · rw [if_neg l]; exact Rat.le_trans (Rat.not_lt.mp l) (le_high r x x (by simp))
      · exact le_high r _ y (by simp [h])
theorem dr_begin {ns : List Int} {seed : Int} (h0 : 0 ≤ seed) (h1 : seed < 2147483647) : Dr [.lst (ns.map .int), q4 (.ref 0) (.int 0) (.int 0) (.int seed)] 1 :=
  ⟨0, ns, 0, 0, seed, by omega, by omega, h0, h1, rfl, rfl, by omega⟩
@[simp] theorem isInt_int {i : Int} {S : Sto} : biD .isInt [.int i] S = .ok (.bl true) S := rfl
@[simp] theorem isBool_int {i : Int} {S : Sto} : biD .isBool [.int i] S = .ok (.bl false) S := rfl
@[simp] theorem isTuple_tup {xs : List D} {S : Sto} : biD .isTuple [.tup xs] S = .ok (.bl true) S := rfl
@[simp] theorem len_tup {xs : List D} {S : Sto} : biD .len [.tup xs] S = .ok (.int xs.length) S := rfl
@[simp] theorem isTuple_fr {x : Rat} {S : Sto} : biD .isTuple [fr x] S = .ok (.bl true) S := rfl
@[simp] theorem len_fr {x : Rat} {S : Sto} : biD .len [fr x] S = .ok (.int 2) S := rfl
/-! ### vectors -/
def vc (v : Rat × Rat) : D := .tup [fr v.1, fr v.2]
structure Vz (n : Nat) (v : Rat × Rat) : Prop where
  x : Sz n v.1
  y : Sz n v.2
theorem Vz.mono {m n : Nat} {v : Rat × Rat} (h : Vz m v) (l : m ≤ n) : Vz n v := ⟨h.x.mono l, h.y.mono l⟩
@[simp] theorem ix_v0 {v : Rat × Rat} {S : Sto} : ixD (vc v) (.int 0) S = .ok (fr v.1) S := by unfold vc; simp
@[simp] theorem ix_v1 {v : Rat × Rat} {S : Sto} : ixD (vc v) (.int 1) S = .ok (fr v.2) S := by unfold vc; simp
@[simp] theorem pu_vc {n : Nat} {v : Rat × Rat} : pu (n + 3) (vc v) := by unfold vc; simp
theorem vc_inj {v w : Rat × Rat} (h : vc v = vc w) : v = w := by
  unfold vc at h
  simp at h
  exact Prod.ext h.1 h.2
@[simp] theorem vc_eq {v w : Rat × Rat} : (vc v = vc w) = (v = w) := propext ⟨vc_inj, fun h => by rw [h]⟩
theorem tup_vc {x y : Rat} : D.tup [fr x, fr y] = vc (x, y) := rfl
/-! ### boxes -/
abbrev Box := (Rat × Rat) × (Rat × Rat)
def bx (b : Box) : D := .tup [vc b.1, vc b.2]
structure Xz (n : Nat) (b : Box) : Prop where
  p : Vz n b.1
  s : Vz n b.2
theorem Xz.mono {m n : Nat} {b : Box} (h : Xz m b) (l : m ≤ n) : Xz n b := ⟨h.p.mono l, h.s.mono l⟩
@[simp] theorem ix_b0 {b : Box} {S : Sto} : ixD (bx b) (.int 0) S = .ok (vc b.1) S := by unfold bx; simp
@[simp] theorem ix_b1 {b : Box} {S : Sto} : ixD (bx b) (.int 1) S = .ok (vc b.2) S := by unfold bx; simp
@[simp] theorem pu_bx {n : Nat} {b : Box} : pu (n + 4) (bx b) := by unfold bx; simp
theorem tup_bx {v w : Rat × Rat} : D.tup [vc v, vc w] = bx (v, w) := rfl
/-- an axis -/
def Axi (i : Int) : Prop := i = 0 ∨ i = 1
@[simp] theorem axi0 : Axi 0 := .inl rfl
@[simp] theorem axi1 : Axi 1 := .inr rfl
def ax (v : Rat × Rat) (i : Int) : Rat := if i = 0 then v.1 else v.2
@[simp] theorem ax_0 {v : Rat × Rat} : ax v 0 = v.1 := rfl
@[simp] theorem ax_1 {v : Rat × Rat} : ax v 1 = v.2 := rfl
theorem ix_va {v : Rat × Rat} {i : Int} {S : Sto} (h : Axi i) : ixD (vc v) (.int i) S = .ok (fr (ax v i)) S := by
  rcases h with rfl | rfl <;> simp
theorem Vz.ax {n : Nat} {v : Rat × Rat} (h : Vz n v) (i : Int) : Sz n (ax v i) := by
  unfold SB.ax; split
  · exact h.x
  · exact h.y
def hiR (b : Box) (i : Int) : Rat := ax b.1 i + ax b.2 i
theorem Xz.hi {n : Nat} {b : Box} (h : Xz n b) (i : Int) : Sz (n + n + 1) (hiR b i) := (h.p.ax i).add (h.s.ax i)
def gapR (a b : Box) (i : Int) : Rat := if ax a.1 i - hiR b i ≤ ax b.1 i - hiR a i then ax b.1 i - hiR a i else ax a.1 i - hiR b i
theorem gap_sz {n : Nat} {a b : Box} (ha : Xz n a) (hb : Xz n b) (i : Int) : Sz (3 * n + 2) (gapR a b i) := by
  unfold gapR; split
  · exact ((hb.p.ax i).sub (ha.hi i)).mono (by omega)
  · exact ((ha.p.ax i).sub (hb.hi i)).mono (by omega)
theorem num_le0 {x : Rat} : x.num ≤ 0 ↔ x ≤ 0 := by
  have h := Rat.le_iff x 0
  simp at h
  exact h.symm
theorem num_lt0 {x : Rat} : x.num < 0 ↔ x < 0 := by
  have h := Rat.lt_iff x 0
  simp at h
  exact h.symm
theorem num_gt0 {x : Rat} : 0 < x.num ↔ 0 < x := by
  have h := Rat.lt_iff 0 x
  simp at h
  exact h.symm
theorem num_ge0 {x : Rat} : 0 ≤ x.num ↔ 0 ≤ x := Rat.num_nonneg
theorem num_eq0 {x : Rat} : x.num = 0 ↔ x = 0 := by
  constructor
  · intro h
    have a := num_le0.mp (by omega : x.num ≤ 0)
    have b := num_ge0.mp (by omega : 0 ≤ x.num)
    grind
  · intro h; rw [h]; rfl
theorem cmpR_ge {x y : Rat} : (0 ≤ cmpR x y) = (y ≤ x) := by
  unfold cmpR
  by_cases h : x < y
  · have h2 : ¬ y ≤ x := by grind
    simp [h, h2]
  · by_cases h2 : y < x
    · have h3 : y ≤ x := by grind
      simp [h, h2, h3]
    · have h3 : y ≤ x := by grind
      simp [h, h2, h3]
theorem cmpR_gt {x y : Rat} : (0 < cmpR x y) = (y < x) := by
  unfold cmpR
  by_cases h : x < y
  · have h2 : ¬ y < x := by grind
    simp [h, h2]
  · by_cases h2 : y < x <;> simp [h, h2]
/-! ### what a call leaves -/
/-- nothing but the place m has changed; new things may stand behind -/
structure Gr (m : Nat) (S S' : Sto) : Prop where
  len : S.length ≤ S'.length
  at_ : ∀ i, i ≠ m → i < S.length → S'[i]? = S[i]?
theorem Ex.gr {m : Nat} {S S' : Sto} (h : Ex m S S') : Gr m S S' := ⟨by rw [h.len]; exact Nat.le_refl _, fun i a _ => h.at_ i a⟩
theorem Gr.refl {m : Nat} {S : Sto} : Gr m S S := ⟨Nat.le_refl _, fun _ _ _ => rfl⟩
theorem Gr.trans {m : Nat} {S S1 S2 : Sto} (a : Gr m S S1) (b : Gr m S1 S2) : Gr m S S2 := ⟨Nat.le_trans a.len b.len, fun i h l => (b.at_ i h (Nat.lt_of_lt_of_le l a.len)).trans (a.at_ i h l)⟩
theorem Gr.push {m : Nat} {S : Sto} {o : O} : Gr m S (S ++ [o]) := ⟨by simp, fun i _ l => List.getElem?_append_left l⟩
theorem Gr.set {m i : Nat} {S S' : Sto} {o : O} (h : Gr m S S') (hi : S.length ≤ i) : Gr m S (S'.set i o) := ⟨by simpa using h.len, fun j a l => by rw [List.getElem?_set_ne (by omega)]; exact h.at_ j a l⟩
theorem Gr.get {m i : Nat} {S S' : Sto} {o : O} (h : Gr m S S') (hi : i ≠ m) (g : S[i]? = some o) : S'[i]? = some o := by
  rw [h.at_ i hi (List.getElem?_eq_some_iff.mp g).1]; exact g
theorem Dr.take {S : Sto} {m n : Nat} (h : Dr S m) (hn : m < n) : Dr (S.take n) m := by
  obtain ⟨j, cells, pos, num, seed, a1, a2, a3, a4, a5, a6, a7⟩ := h.ex
  exact ⟨j, cells, pos, num, seed, a1, a2, a3, a4, by rw [List.getElem?_take_of_lt hn]; exact a5, by rw [List.getElem?_take_of_lt (by omega)]; exact a6, a7⟩
theorem tidy_gr {m : Nat} {S S' : Sto} {d : D} (hd : Dr S' m) (hm : m < S.length) (h : Gr m S S') : Dr (tidy S.length d S') m ∧ Gr m S (tidy S.length d S') := by
  unfold tidy
  split
  · rename_i c
    refine ⟨hd.take hm, by rw [List.length_take]; omega, fun i a l => ?_⟩
    rw [List.getElem?_take_of_lt l]; exact h.at_ i a l
  · exact ⟨hd, h⟩
/-- nothing has changed; new things may stand behind -/
structure Gw (S S' : Sto) : Prop where
  len : S.length ≤ S'.length
  at_ : ∀ i, i < S.length → S'[i]? = S[i]?
theorem Gw.refl {S : Sto} : Gw S S := ⟨Nat.le_refl _, fun _ _ => rfl⟩
theorem Gw.trans {S S1 S2 : Sto} (a : Gw S S1) (b : Gw S1 S2) : Gw S S2 := ⟨Nat.le_trans a.len b.len, fun i l => (b.at_ i (Nat.lt_of_lt_of_le l a.len)).trans (a.at_ i l)⟩
theorem Gw.push {S : Sto} {o : O} : Gw S (S ++ [o]) := ⟨by simp, fun i l => List.getElem?_append_left l⟩
theorem Gw.gr {m : Nat} {S S' : Sto} (h : Gw S S') : Gr m S S' := ⟨h.len, fun i _ l => h.at_ i l⟩
theorem Gw.get {i : Nat} {S S' : Sto} {o : O} (h : Gw S S') (g : S[i]? = some o) : S'[i]? = some o := by
  rw [h.at_ i (List.getElem?_eq_some_iff.mp g).1]; exact g
theorem Gw.set {i : Nat} {S S' : Sto} {o : O} (h : Gw S S') (hi : S.length ≤ i) : Gw S (S'.set i o) := ⟨by simpa using h.len, fun j l => by rw [List.getElem?_set_ne (by omega)]; exact h.at_ j l⟩
theorem Gw.tidy {S S' : Sto} {d : D} (h : Gw S S') : Gw S (tidy S.length d S') := by
  unfold SB.tidy
  split
  · rename_i c
    exact ⟨by rw [List.length_take]; omega, fun i l => by rw [List.getElem?_take_of_lt l]; exact h.at_ i l⟩
  · exact h
theorem Dr.gw {m : Nat} {S S' : Sto} (d : Dr S m) (h : Gw S S') : Dr S' m := by
  have hl := d.lt
  obtain ⟨j, cells, pos, num, seed, a1, a2, a3, a4, a5, a6, a7⟩ := d.ex
  exact ⟨j, cells, pos, num, seed, a1, a2, a3, a4, h.get a5, h.get a6, a7⟩
/-! ### sorted lists -/
def insR (x : Rat) : List Rat → List Rat
  | [] => [x]
  | y :: ys => if y < x then y :: insR x ys else if y = x then y :: ys else x :: y :: ys
abbrev Asc (ys : List Rat) : Prop := ys.Pairwise (· < ·)
theorem mem_ins {x z : Rat} : ∀ {ys : List Rat}, z ∈ insR x ys ↔ z = x ∨ z ∈ ys
  | [] => by simp [insR]
  | y :: ys => by
    unfold insR
    split
    · simp only [List.mem_cons, mem_ins]
      constructor
      · rintro (h | h | h) <;> simp [h]
      · rintro (h | h | h) <;> simp [h]
    · split
      · rename_i e; simp only [List.mem_cons, e]
        constructor
        · rintro (h | h) <;> simp [h]
        · rintro (h | h | h) <;> simp [h]
      · simp only [List.mem_cons]
theorem asc_ins {x : Rat} : ∀ {ys : List Rat}, Asc ys → Asc (insR x ys)
  | [], _ => by simp [insR]
  | y :: ys, h => by
    have h1 := List.pairwise_cons.mp h
    unfold insR
    split
    · rename_i l
      refine List.pairwise_cons.mpr ⟨fun z hz => ?_, asc_ins h1.2⟩
      rcases mem_ins.mp hz with e | hz
      · rw [e]; exact l
      · exact h1.1 z hz
    · split
      · exact h
      · rename_i l e
        refine List.pairwise_cons.mpr ⟨fun z hz => ?_, h⟩
        rcases List.mem_cons.mp hz with rfl | hz
        · grind
        · have := h1.1 z hz
          grind
theorem ins_eq {x : Rat} : ∀ {ys : List Rat}, Asc ys → insR x ys = if (ys.filter fun y => decide (y < x)).length = ys.length ∨ ¬ ys[(ys.filter fun y => decide (y < x)).length]? = some x then ys.take (ys.filter fun y => decide (y < x)).length ++ [x] ++ ys.drop (ys.filter fun y => decide (y < x)).length else ys
  | [], _ => by simp [insR]
  | y :: ys, h => by
    have h1 := List.pairwise_cons.mp h
    unfold insR
    by_cases l : y < x
    · have ih := ins_eq (x := x) h1.2
      rw [if_pos l, ih]
      have e : ((y :: ys).filter fun y => decide (y < x)) = y :: (ys.filter fun y => decide (y < x)) := by simp [l]
      rw [e]
      simp only [List.length_cons, Nat.add_right_cancel_iff, List.getElem?_cons_succ, List.take_succ_cons, List.drop_succ_cons]
      split <;> rfl
    · have e : ((y :: ys).filter fun y => decide (y < x)) = [] := by
        rw [List.filter_eq_nil_iff]
        intro z hz
        rcases List.mem_cons.mp hz with rfl | hz
        · simpa using l
        · have := h1.1 z hz
          have : ¬ z < x := by grind
          simpa using this
      rw [if_neg l, e]
      by_cases z : y = x
      · simp [z]
      · simp [z]
theorem compL_filter {ok : Sto → Prop} {f : D → Sto → R (Option D)} {p : D → Bool} {S : Sto} (hS : ok S) : ∀ (xs acc : List D), (∀ x ∈ xs, f x S = .ok (if p x then some x else none) S) → compL ok f xs acc S = .ok (acc ++ xs.filter p) S
  | [], acc, _ => by simp [compL, hS]
  | x :: xs, acc, h => by
    have h1 := h x (by simp)
    have ih := fun acc => compL_filter hS xs acc (fun y hy => h y (by simp [hy]))
    by_cases e : p x <;> simp [compL, hS, h1, ih, e]
theorem cutD_to {xs : List D} {n : Nat} (h : n ≤ xs.length) : cutD xs none (some (n : Int)) = xs.take n := by
  unfold cutD HT.sIx
  simp only [List.drop_zero, Nat.sub_zero]
  rw [if_neg (by omega)]
  simp [Nat.min_eq_left h]
theorem cutD_from {xs : List D} {n : Nat} (h : n ≤ xs.length) : cutD xs (some (n : Int)) none = xs.drop n := by
  unfold cutD
  rw [HT.sIx_nat, HT.sIx_none, Nat.min_eq_left h, List.take_of_length_le (by simp)]
theorem cutL_ref {S : Sto} {n : Nat} {xs : List D} {l h : Option Int} (g : S[n]? = some (.lst xs)) : cutL S (.ref n) l h = .ok (cutD xs l h) S := by
  unfold cutL; dsimp only; rw [g]
theorem valI_ref {S : Sto} {n : Nat} {xs : List D} (g : S[n]? = some (.lst xs)) : valI (.ref n) S = .ok (xs, fun S2 => lstAt S2 n = some xs) S := by
  unfold valI; dsimp only; rw [lstAt_get g]
theorem catD_ok {xs ys : List D} {S : Sto} (h : xs.length + ys.length ≤ sizeLine) : catD xs ys S = .ok (xs ++ ys) S := if_pos h
/-! ### two of them -/
def minR (x y : Rat) : Rat := if y < x then y else x
def maxR (x y : Rat) : Rat := if x < y then y else x
theorem low_two {x y : Rat} : lowR x [y] = minR x y := rfl
theorem high_two {x y : Rat} : highR x [y] = maxR x y := rfl
theorem le_min {t x y : Rat} : t ≤ minR x y ↔ t ≤ x ∧ t ≤ y := by
  unfold minR; split <;> grind
theorem max_le {t x y : Rat} : maxR x y ≤ t ↔ x ≤ t ∧ y ≤ t := by
  unfold maxR; split <;> grind
theorem min_or {x y : Rat} : minR x y = x ∨ minR x y = y := by unfold minR; split <;> simp
theorem max_or {x y : Rat} : maxR x y = x ∨ maxR x y = y := by unfold maxR; split <;> simp
theorem min_sz {n : Nat} {x y : Rat} (hx : Sz n x) (hy : Sz n y) : Sz n (minR x y) := by unfold minR; split <;> assumption
theorem max_sz {n : Nat} {x y : Rat} (hx : Sz n x) (hy : Sz n y) : Sz n (maxR x y) := by unfold maxR; split <;> assumption
theorem mul_le_r {a b c : Rat} (hc : 0 < c) : a * c ≤ b * c ↔ a ≤ b := by
  rw [← Rat.not_lt, ← Rat.not_lt, Rat.mul_lt_mul_right hc]
/-- a stretch of t, divided -/
theorem in_div {lo hi w t : Rat} (hw : w ≠ 0) (h : lo ≤ hi) : (minR (lo / w) (hi / w) ≤ t ∧ t ≤ maxR (lo / w) (hi / w)) ↔ (lo ≤ w * t ∧ w * t ≤ hi) := by
  have e1 : lo / w * w = lo := Rat.div_mul_cancel hw
  have e2 : hi / w * w = hi := Rat.div_mul_cancel hw
  generalize lo / w = a at *
  generalize hi / w = b at *
  subst e1; subst e2
  by_cases c : 0 < w
  · have hab : a ≤ b := by
      by_cases z : a ≤ b
      · exact z
      · have : b * w < a * w := (Rat.mul_lt_mul_right c).mpr (by grind)
        grind
    have m1 : minR a b = a := by unfold minR; rw [if_neg (by grind)]
    have m2 : maxR a b = b := by unfold maxR; split <;> grind
    rw [m1, m2]
    have k1 : a ≤ t ↔ a * w ≤ t * w := (mul_le_r c).symm
    have k2 : t ≤ b ↔ t * w ≤ b * w := (mul_le_r c).symm
    rw [k1, k2, Rat.mul_comm w t]
  · have c' : 0 < -w := by grind
    have hab : b ≤ a := by
      by_cases z : b ≤ a
      · exact z
      · have : a * -w < b * -w := (Rat.mul_lt_mul_right c').mpr (by grind)
        grind
    have m1 : minR a b = b := by unfold minR; split <;> grind
    have m2 : maxR a b = a := by unfold maxR; rw [if_neg (by grind)]
    rw [m1, m2]
    have k1 : b ≤ t ↔ b * -w ≤ t * -w := (mul_le_r c').symm
    have k2 : t ≤ a ↔ t * -w ≤ a * -w := (mul_le_r c').symm
    rw [k1, k2, Rat.mul_comm w t]
    constructor
    · rintro ⟨h1, h2⟩; constructor <;> grind
    · rintro ⟨h1, h2⟩; constructor <;> grind
theorem comp_fil {α : Type} {g : α → D} {q : α → Bool} {ok : Sto → Prop} {f : D → Sto → R (Option D)} {S : Sto} (hS : ok S) : ∀ (zs : List α) (acc : List D), (∀ z ∈ zs, f (g z) S = .ok (if q z then some (g z) else none) S) → compL ok f (zs.map g) acc S = .ok (acc ++ (zs.filter q).map g) S
  | [], acc, _ => by simp [compL, hS]
  | z :: zs, acc, h => by
    have h1 := h z (by simp)
    have ih := fun acc => comp_fil hS zs acc (fun y hy => h y (by simp [hy]))
    by_cases e : q z <;> simp [compL, hS, h1, ih, e]
theorem atI_last {α : Type} {xs : List α} (h : xs ≠ []) : atI xs (-1) = some (xs.getLast h) := by
  have hl : 0 < xs.length := List.length_pos_iff.mpr h
  unfold atI ixN
  rw [if_neg (by omega), if_pos (by omega)]
  show xs[(-1 + (xs.length : Int)).toNat]? = _
  rw [show (-1 + (xs.length : Int)).toNat = xs.length - 1 by omega, List.getLast_eq_getElem, List.getElem?_eq_getElem]
theorem asc_head {y : Rat} {ys : List Rat} (h : Asc (y :: ys)) {z : Rat} (hz : z ∈ y :: ys) : y ≤ z := by
  rcases List.mem_cons.mp hz with rfl | hz
  · exact Rat.le_refl
  · have := (List.pairwise_cons.mp h).1 z hz
    grind
theorem asc_last : ∀ {ys : List Rat} (hn : ys ≠ []), Asc ys → ∀ {z : Rat}, z ∈ ys → z ≤ ys.getLast hn
  | [y], _, _, z, hz => by
    have : z = y := by simpa using hz
    rw [this]; exact Rat.le_refl
  | y :: y2 :: ys, _, h, z, hz => by
    have h1 := List.pairwise_cons.mp h
    have ih := @asc_last (y2 :: ys) (by simp) h1.2
    rw [List.getLast_cons (by simp)]
    rcases List.mem_cons.mp hz with rfl | hz
    · have a := h1.1 y2 (by simp)
      have b := @ih y2 (by simp)
      grind
    · exact ih hz
theorem forL_step {ok : Sto → Prop} {f : D → En → Sto → Fl} {x : D} {xs : List D} {ρ ρ' : En} {S S' : Sto} (hok : ok S) (h : f x ρ S = .nx ρ' S') : forL ok f (x :: xs) ρ S = forL ok f xs ρ' S' := by
  conv => lhs; unfold forL
  rw [if_pos hok, h]
theorem forL_nil {ok : Sto → Prop} {f : D → En → Sto → Fl} {ρ : En} {S : Sto} (hok : ok S) : forL ok f [] ρ S = .nx ρ S := by
  unfold forL; rw [if_pos hok]
@[simp] theorem valI_tup {xs : List D} {S : Sto} : valI (.tup xs) S = .ok (xs, fun _ => True) S := rfl
end SB

/-! plain facts, second part: loops by invariants, tables, bodies, joints, states -/
namespace SB
open PySem PySem.Spec PyProof.Rows L2
open Classical
/-! ### truth values -/
theorem ite_and {p : Prop} [Decidable p] {q : Bool} {S : Sto} : (if p then R.ok (D.bl q) S else R.ok (D.bl false) S) = R.ok (D.bl (decide p && q)) S := by by_cases h : p <;> simp [h]
theorem ite_or {p : Prop} [Decidable p] {q : Bool} {S : Sto} : (if p then R.ok (D.bl true) S else R.ok (D.bl q) S) = R.ok (D.bl (decide p || q)) S := by by_cases h : p <;> simp [h]
theorem ite_andB {p : Prop} [Decidable p] {q : Bool} {S : Sto} : (if p then R.ok q S else R.ok false S) = R.ok (decide p && q) S := by by_cases h : p <;> simp [h]
/-! ### loops by an invariant -/
def Fl.out : Fl → Prop | .rt _ _ => True | .er _ _ _ => True | _ => False
theorem forL_inv {ok : Sto → Prop} {f : D → En → Sto → Fl} {I : Nat → En → Sto → Prop} {xs : List D} (hok : ∀ i ρ S, I i ρ S → ok S)
    (step : ∀ i (hi : i < xs.length) ρ S, I i ρ S → ∃ ρ' S', f xs[i] ρ S = .nx ρ' S' ∧ I (i + 1) ρ' S') {ρ : En} {S : Sto} (h0 : I 0 ρ S) : ∃ ρ' S', forL ok f xs ρ S = .nx ρ' S' ∧ I xs.length ρ' S' := by
  suffices h : ∀ (ys : List D) (i : Nat) (ρ : En) (S : Sto), i + ys.length = xs.length → xs.drop i = ys → I i ρ S → ∃ ρ' S', forL ok f ys ρ S = .nx ρ' S' ∧ I xs.length ρ' S' from h xs 0 ρ S (by simp) rfl h0
  intro ys
  induction ys with
  | nil =>
    intro i ρ S e _ hI
    have : i = xs.length := by simpa using e
    subst this
    exact ⟨ρ, S, by unfold forL; rw [if_pos (hok _ _ _ hI)], hI⟩
  | cons y ys ih =>
    intro i ρ S e ed hI
    have hi : i < xs.length := by rw [List.length_cons] at e; omega
    have ey : xs[i] = y ∧ xs.drop (i + 1) = ys := by
      have := List.drop_eq_getElem_cons hi
      rw [ed] at this
      injection this with a b
      exact ⟨a.symm, b.symm⟩
    obtain ⟨ρ1, S1, e1, h1⟩ := step i hi ρ S hI
    obtain ⟨ρ2, S2, e2, h2⟩ := ih (i + 1) ρ1 S1 (by rw [List.length_cons] at e; omega) ey.2 h1
    refine ⟨ρ2, S2, ?_, h2⟩
    rw [← e2]
    rw [ey.1] at e1
    exact forL_step (hok _ _ _ hI) e1
/-- the same, where a turn may leave -/
theorem forL_inv2 {ok : Sto → Prop} {f : D → En → Sto → Fl} {I : Nat → En → Sto → Prop} {X : Fl → Prop} {xs : List D} (hok : ∀ i ρ S, I i ρ S → ok S)
    (step : ∀ i (hi : i < xs.length) ρ S, I i ρ S → (∃ ρ' S', f xs[i] ρ S = .nx ρ' S' ∧ I (i + 1) ρ' S') ∨ ∃ r, f xs[i] ρ S = r ∧ r.out ∧ X r) {ρ : En} {S : Sto} (h0 : I 0 ρ S) :
    (∃ ρ' S', forL ok f xs ρ S = .nx ρ' S' ∧ I xs.length ρ' S') ∨ ∃ r, forL ok f xs ρ S = r ∧ r.out ∧ X r := by
  suffices h : ∀ (ys : List D) (i : Nat) (ρ : En) (S : Sto), i + ys.length = xs.length → xs.drop i = ys → I i ρ S → (∃ ρ' S', forL ok f ys ρ S = .nx ρ' S' ∧ I xs.length ρ' S') ∨ ∃ r, forL ok f ys ρ S = r ∧ r.out ∧ X r from h xs 0 ρ S (by simp) rfl h0
  intro ys
  induction ys with
  | nil =>
    intro i ρ S e _ hI
    have : i = xs.length := by simpa using e
    subst this
    exact .inl ⟨ρ, S, by unfold forL; rw [if_pos (hok _ _ _ hI)], hI⟩
  | cons y ys ih =>
    intro i ρ S e ed hI
    have hi : i < xs.length := by rw [List.length_cons] at e; omega
    have ey : xs[i] = y ∧ xs.drop (i + 1) = ys := by
      have := List.drop_eq_getElem_cons hi
      rw [ed] at this
      injection this with a b
      exact ⟨a.symm, b.symm⟩
    rcases step i hi ρ S hI with ⟨ρ1, S1, e1, h1⟩ | ⟨r, e1, o, h1⟩
    · rw [ey.1] at e1
      have e3 := forL_step (xs := ys) (hok _ _ _ hI) e1
      rw [e3]
      exact ih (i + 1) ρ1 S1 (by rw [List.length_cons] at e; omega) ey.2 h1
    · rw [ey.1] at e1
      refine .inr ⟨r, ?_, o, h1⟩
      unfold forL
      rw [if_pos (hok _ _ _ hI), e1]
      cases r <;> first | rfl | exact o.elim
/-- a comprehension by an invariant: items kept so far -/
theorem compL_inv {ok : Sto → Prop} {f : D → Sto → R (Option D)} {I : Nat → List D → Sto → Prop} {xs : List D} (hok : ∀ i a S, I i a S → ok S)
    (step : ∀ i (hi : i < xs.length) a S, I i a S → ∃ o S', f xs[i] S = .ok o S' ∧ I (i + 1) (a ++ o.toList) S') {S : Sto} (h0 : I 0 [] S) : ∃ a S', compL ok f xs [] S = .ok a S' ∧ I xs.length a S' := by
  suffices h : ∀ (ys : List D) (i : Nat) (a : List D) (S : Sto), i + ys.length = xs.length → xs.drop i = ys → I i a S → ∃ a' S', compL ok f ys a S = .ok a' S' ∧ I xs.length a' S' from h xs 0 [] S (by simp) rfl h0
  intro ys
  induction ys with
  | nil =>
    intro i a S e _ hI
    have : i = xs.length := by simpa using e
    subst this
    exact ⟨a, S, by unfold compL; rw [if_pos (hok _ _ _ hI)], hI⟩
  | cons y ys ih =>
    intro i a S e ed hI
    have hi : i < xs.length := by rw [List.length_cons] at e; omega
    have ey : xs[i] = y ∧ xs.drop (i + 1) = ys := by
      have := List.drop_eq_getElem_cons hi
      rw [ed] at this
      injection this with a b
      exact ⟨a.symm, b.symm⟩
    obtain ⟨o, S1, e1, h1⟩ := step i hi a S hI
    obtain ⟨a2, S2, e2, h2⟩ := ih (i + 1) _ S1 (by rw [List.length_cons] at e; omega) ey.2 h1
    refine ⟨a2, S2, ?_, h2⟩
    rw [← e2]
    rw [ey.1] at e1
    conv => lhs; unfold compL
    rw [if_pos (hok _ _ _ hI), e1]
    cases o <;> simp
/-! ### ranges -/
theorem rangeD_len {a b : Int} : (rangeD a b).length = (b - a).toNat := by unfold rangeD; rw [List.length_map, List.length_range]
theorem rangeD_get {a b : Int} {i : Nat} (h : i < (rangeD a b).length) : (rangeD a b)[i] = .int (a + i) := by
  have h1 : i < (b - a).toNat := by rw [rangeD_len] at h; exact h
  have : (rangeD a b)[i]? = some (.int (a + i)) := by
    unfold rangeD
    rw [List.getElem?_map, List.getElem?_range h1]; rfl
  rw [List.getElem?_eq_getElem h] at this
  exact Option.some.inj this
theorem rgI1_ok {j : Int} {S : Sto} (h : j < 1000000) (h0 : 0 ≤ j) : rgI1 (.int j) S = .ok (rangeD 0 j, fun _ => True) S := by
  unfold rgI1; dsimp only
  rw [if_pos ⟨⟨by omega, by omega⟩, by rw [sizeLine_eq]; omega⟩]
theorem rgI2_ok {i j : Int} {S : Sto} (h : j < 1000000) (h0 : -1000000 ≤ i) (h1 : -1000000 ≤ j) (h2 : i < 1000000) : rgI2 (.int i) (.int j) S = .ok (rangeD i j, fun _ => True) S := by
  unfold rgI2; dsimp only
  rw [if_pos ⟨⟨by omega, by omega⟩, ⟨by omega, by omega⟩, by rw [sizeLine_eq]; omega⟩]
/-! ### what a call leaves that makes things but changes none -/
theorem Gw.at' {S S' : Sto} {i : Nat} (h : Gw S S') (l : i < S.length) : S'[i]? = S[i]? := h.at_ i l
theorem Gw.set_last {S : Sto} {o o2 : O} : Gw S ((S ++ [o]).set S.length o2) := Gw.push.set (Nat.le_refl _)
/-! ### dicts -/
theorem dic_dic {S : Sto} {n : Nat} {kvs : List (Key × D)} (h : S[n]? = some (.dic kvs)) : isDic S (.ref n) = true := by unfold isDic; dsimp only; rw [h]
theorem getD_dic {S : Sto} {n : Nat} {kvs : List (Key × D)} {y : D} {k : Key} (h : S[n]? = some (.dic kvs)) (hk : keyD y = some k) : getD (.ref n) y S = some (valD kvs k) := by
  unfold getD; dsimp only; rw [h]; dsimp only; rw [hk]; rfl
theorem ix_dic {S : Sto} {n : Nat} {kvs : List (Key × D)} {i : Int} {v : D} (h : S[n]? = some (.dic kvs)) (hv : valD kvs (.inl i) = some v) : ixD (.ref n) (.int i) S = .ok v S := by
  unfold ixD
  rw [if_pos (dic_dic h), getD_dic (k := .inl i) h rfl, hv]
theorem mem_dic {neg : Bool} {S : Sto} {n : Nat} {kvs : List (Key × D)} {i : Int} (h : S[n]? = some (.dic kvs)) : memD neg (.int i) (.ref n) S = .ok (.bl (if neg then !(valD kvs (.inl i)).isSome else (valD kvs (.inl i)).isSome)) S := by
  unfold memD
  rw [if_pos (dic_dic h), getD_dic (k := .inl i) h rfl]
theorem set_dic {S : Sto} {n : Nat} {kvs : List (Key × D)} {i : Int} {d : D} {ρ : En} (h : S[n]? = some (.dic kvs)) (l : kvs.length < 1000000) : setD (.ref n) (.int i) d ρ S = .ok ρ (S.set n (.dic (putD kvs (.inl i) d))) := by
  unfold setD
  rw [if_pos (dic_dic h)]
  unfold putO; dsimp only; rw [h]; dsimp only [keyD]
  rw [if_pos (by rw [sizeLine_eq]; omega)]
theorem valD_app {κ : Type} [DecidableEq κ] {a b : List (κ × D)} {k : κ} (h : valD a k = none) : valD (a ++ b) k = valD b k := by
  unfold valD at h ⊢
  rw [List.find?_append]
  cases e : a.find? fun kv => decide (kv.1 = k) with
  | none => rfl
  | some x => rw [e] at h; cases h
theorem putD_new {κ : Type} [DecidableEq κ] {a : List (κ × D)} {k : κ} {d : D} (h : ∀ p ∈ a, p.1 ≠ k) : putD a k d = a ++ [(k, d)] := by
  unfold putD
  rw [if_neg]
  intro z
  obtain ⟨p, hp, e⟩ := List.any_eq_true.mp z
  exact h p hp (by simpa using e)
@[simp] theorem dnewD_f {S : Sto} : dnewD false S = .ok (.ref S.length) (S ++ [.dic []]) := rfl
@[simp] theorem dnewD_t {S : Sto} : dnewD true S = .ok (.ref S.length) (S ++ [.dit []]) := rfl
section
variable {c : Cfg} {ρ : En} {S : Sto}
@[simp] theorem xv_dnew {t : Bool} : evE c (.dnew t) ρ S = dnewD t S := by simp only [evE]
@[simp] theorem xv_dget {a b d : E} : evE c (.dget a b d) ρ S = ((evE c a ρ S).bind fun x S1 => (isDicU x S1).bind fun _ S1 => (evE c b ρ S1).bind fun y S2 => (evE c d ρ S2).bind fun w S3 => dgetD x y w S3) := by simp only [evE]
@[simp] theorem xv_dget1 {a b : E} : evE c (.dget1 a b) ρ S = ((evE c a ρ S).bind fun x S1 => (isDicU x S1).bind fun _ S1 => (evE c b ρ S1).bind fun y S2 => dget1D x y S2) := by simp only [evE]
@[simp] theorem xv_dpop {a b : E} : evE c (.dpop a b) ρ S = ((evE c a ρ S).bind fun x S1 => (isDicU x S1).bind fun _ S1 => (evE c b ρ S1).bind fun y S2 => dpopD x y none S2) := by simp only [evE]
@[simp] theorem xv_srt {a : E} : evL c (.srt a) ρ S = (evE c a ρ S).bind srtD := by simp only [evL]
@[simp] theorem xv_srtL {l : L} : evL c (.srtL l) ρ S = (evL c l ρ S).bind srtLD := by simp only [evL]
@[simp] theorem xv_del {a b : E} : evS c (.del a b) ρ S = ((evE c a ρ S).flow ρ fun x S1 => (evE c b ρ S1).flow ρ fun y S2 => (delD x y S2).flow ρ fun _ S3 => .nx ρ S3) := by simp only [evS]
@[simp] theorem xv_fld {f : Str} {a : E} : evE c (.fld f a) ρ S = (evE c a ρ S).bind (fldD c.fok f) := by simp only [evE]
@[simp] theorem xv_hot {f : Nat} {a : E} : evE c (.hot f a) ρ S = ((evE c a ρ S).bind fun x S1 => hotD c f x S1) := by simp only [evE]
end
/-! ### bodies, joints, states -/
structure Body where
  name : Int
  place : Rat × Rat
  size : Rat × Rat
  mass : Int
  grip : Rat
  speed : Rat × Rat
def bd (b : Body) : D := .tup [.int b.name, vc b.place, vc b.size, .int b.mass, fr b.grip, vc b.speed]
structure Joint where
  one : Int
  other : Int
  axis : Int
  low : Rat
  high : Rat
def jd (j : Joint) : D := .tup [.int j.one, .int j.other, .int j.axis, fr j.low, fr j.high]
structure State where
  bodies : List Body
  joints : List Joint
  pull : Rat × Rat
def sd (s : State) : D := .tup [.tup (s.bodies.map bd), .tup (s.joints.map jd), vc s.pull]
structure Bdz (n : Nat) (b : Body) : Prop where
  p : Vz n b.place
  s : Vz n b.size
  g : Sz n b.grip
  v : Vz n b.speed
theorem Bdz.mono {m n : Nat} {b : Body} (h : Bdz m b) (l : m ≤ n) : Bdz n b := ⟨h.p.mono l, h.s.mono l, h.g.mono l, h.v.mono l⟩
structure Jz (n : Nat) (j : Joint) : Prop where
  l : Sz n j.low
  h : Sz n j.high
structure Stz (n : Nat) (s : State) : Prop where
  b : ∀ b ∈ s.bodies, Bdz n b
  j : ∀ j ∈ s.joints, Jz n j
  p : Vz n s.pull
def Body.box (b : Body) : Box := (b.place, b.size)
theorem Bdz.box {n : Nat} {b : Body} (h : Bdz n b) : Xz n b.box := ⟨h.p, h.s⟩
theorem ix_t3 {a b d e : D} {xs : List D} {S : Sto} : ixD (.tup (a :: b :: d :: e :: xs)) (.int 3) S = .ok e S := ix_tup (by rw [atI_nn (by omega)]; rfl)
theorem ix_t4 {a b d e f : D} {xs : List D} {S : Sto} : ixD (.tup (a :: b :: d :: e :: f :: xs)) (.int 4) S = .ok f S := ix_tup (by rw [atI_nn (by omega)]; rfl)
theorem ix_t5 {a b d e f g : D} {xs : List D} {S : Sto} : ixD (.tup (a :: b :: d :: e :: f :: g :: xs)) (.int 5) S = .ok g S := ix_tup (by rw [atI_nn (by omega)]; rfl)
section
variable {b : Body} {j : Joint} {s : State} {S : Sto} {n : Nat}
@[simp] theorem ix_bd0 : ixD (bd b) (.int 0) S = .ok (.int b.name) S := by unfold bd; simp
@[simp] theorem ix_bd1 : ixD (bd b) (.int 1) S = .ok (vc b.place) S := by unfold bd; simp
@[simp] theorem ix_bd2 : ixD (bd b) (.int 2) S = .ok (vc b.size) S := by unfold bd; simp
@[simp] theorem ix_bd3 : ixD (bd b) (.int 3) S = .ok (.int b.mass) S := by unfold bd; exact ix_t3
@[simp] theorem ix_bd4 : ixD (bd b) (.int 4) S = .ok (fr b.grip) S := by unfold bd; exact ix_t4
@[simp] theorem ix_bd5 : ixD (bd b) (.int 5) S = .ok (vc b.speed) S := by unfold bd; exact ix_t5
@[simp] theorem ix_sd0 : ixD (sd s) (.int 0) S = .ok (.tup (s.bodies.map bd)) S := by unfold sd; simp
@[simp] theorem ix_sd1 : ixD (sd s) (.int 1) S = .ok (.tup (s.joints.map jd)) S := by unfold sd; simp
@[simp] theorem ix_sd2 : ixD (sd s) (.int 2) S = .ok (vc s.pull) S := by unfold sd; simp
theorem pu_bd : pu (n + 4) (bd b) := by unfold bd; simp
theorem pu_jd : pu (n + 4) (jd j) := by unfold jd; simp
theorem ix_bds {bs : List Body} {i : Nat} (h : i < bs.length) : ixD (.tup (bs.map bd)) (.int i) S = .ok (bd bs[i]) S := ix_tup (by rw [atI_nn (by omega)]; simp [h])
end
def Named (bs : List Body) (i : Int) : Option Body := bs.find? fun b => decide (b.name = i)
def tabB (bs : List Body) : List (Key × D) := bs.map fun b => (.inl b.name, bd b)
@[simp] theorem tab_nil : tabB [] = [] := rfl
@[simp] theorem tab_len {bs : List Body} : (tabB bs).length = bs.length := by unfold tabB; simp
theorem tab_take {bs : List Body} {i : Nat} (h : i < bs.length) : tabB (bs.take (i + 1)) = tabB (bs.take i) ++ [(.inl bs[i].name, bd bs[i])] := by
  unfold tabB
  rw [List.take_add_one, List.map_append, List.getElem?_eq_getElem h]; rfl
theorem val_tab {bs : List Body} {i : Int} : valD (tabB bs) (.inl i) = (Named bs i).map bd := by
  induction bs with
  | nil => rfl
  | cons b bs ih =>
    unfold tabB Named at *
    rw [List.map_cons, List.find?_cons]
    by_cases h : b.name = i
    · rw [valD_pos (by simp [h])]
      simp [h]
    · rw [valD_neg (by simp [h]), ih]
      simp [h]
abbrev AscN (bs : List Body) : Prop := bs.Pairwise fun a b => a.name < b.name
theorem lexLt_irrefl : ∀ xs : List Int, HT.lexLt xs xs = false
  | [] => rfl
  | x :: xs => by rw [HT.lexLt_cons, if_pos rfl]; exact lexLt_irrefl xs
end SB
namespace SB
open PySem PySem.Spec PyProof.Rows L2
open Classical
theorem evF_of {P : Prg} {k f : Nat} {F : Fn} {xs : List D} {S : Sto} {r : Fl} (h : P.fn f = some F) (l : xs.length = F.ps) (l2 : F.ps ≤ F.slots) (e : evSs (cf P k) F.body (xs.map some ++ List.replicate (F.slots - F.ps) none) S = r) :
    evF P (k + 1) f xs S = tidyR S.length (fin r) := by rw [evF_succ h l l2, e]
section
variable {c : Cfg} {s : St} {ss : Ss} {ρ ρ' : En} {S S' : Sto} {r : Fl} {d : D} {k : Nat}
theorem ss_nx (h : evS c s ρ S = .nx ρ' S') (h2 : evSs c ss ρ' S' = r) : evSs c (.cons s ss) ρ S = r := by rw [xv_scons, h, seqF_nx, h2]
theorem ss_rt (h : evS c s ρ S = .rt d S') : evSs c (.cons s ss) ρ S = .rt d S' := by rw [xv_scons, h, seqF_rt]
theorem ss_er (h : evS c s ρ S = .er k ρ' S') : evSs c (.cons s ss) ρ S = .er k ρ' S' := by rw [xv_scons, h, seqF_er]
theorem ss_out (h : evS c s ρ S = r) (o : r.out) : evSs c (.cons s ss) ρ S = r := by
  rw [xv_scons, h]; cases r <;> first | rfl | exact o.elim
theorem ss_end : evSs c .nil ρ S = .nx ρ S := by simp
end
/-- a for statement by an invariant -/
theorem for_inv {c : Cfg} {t : Tg} {it : Src} {b : Ss} {ρ : En} {S S1 : Sto} {xs : List D} {ok : Sto → Prop} (I : Nat → En → Sto → Prop) (h : evIt c it ρ S = .ok (xs, ok) S1) (hok : ∀ i ρ S, I i ρ S → ok S)
    (step : ∀ i (hi : i < xs.length) ρ S, I i ρ S → ∃ ρ1 S1 ρ' S', evT c t xs[i] ρ S = .ok ρ1 S1 ∧ evSs c b ρ1 S1 = .nx ρ' S' ∧ I (i + 1) ρ' S') (h0 : I 0 ρ S1) : ∃ ρ' S', evS c (.forr t it b) ρ S = .nx ρ' S' ∧ I xs.length ρ' S' := by
  rw [xv_for, h]
  exact forL_inv hok (fun i hi ρ S hI => by
    obtain ⟨ρ1, S1, ρ', S', e1, e2, h⟩ := step i hi ρ S hI
    exact ⟨ρ', S', by rw [e1, calm_ok, e2], h⟩) h0
theorem for_inv2 {c : Cfg} {t : Tg} {it : Src} {b : Ss} {ρ : En} {S S1 : Sto} {xs : List D} {ok : Sto → Prop} (I : Nat → En → Sto → Prop) (X : Fl → Prop) (h : evIt c it ρ S = .ok (xs, ok) S1) (hok : ∀ i ρ S, I i ρ S → ok S)
    (step : ∀ i (hi : i < xs.length) ρ S, I i ρ S → ∃ ρ1 S1, evT c t xs[i] ρ S = .ok ρ1 S1 ∧ ((∃ ρ' S', evSs c b ρ1 S1 = .nx ρ' S' ∧ I (i + 1) ρ' S') ∨ ∃ r, evSs c b ρ1 S1 = r ∧ r.out ∧ X r)) (h0 : I 0 ρ S1) :
    (∃ ρ' S', evS c (.forr t it b) ρ S = .nx ρ' S' ∧ I xs.length ρ' S') ∨ ∃ r, evS c (.forr t it b) ρ S = r ∧ r.out ∧ X r := by
  rw [xv_for, h]
  exact forL_inv2 hok (fun i hi ρ S hI => by
    obtain ⟨ρ1, S1, e1, h⟩ := step i hi ρ S hI
    rcases h with ⟨ρ', S', e2, h⟩ | ⟨r, e2, o, h⟩
    · exact .inl ⟨ρ', S', by rw [e1, calm_ok, e2], h⟩
    · exact .inr ⟨r, by rw [e1, calm_ok, e2], o, h⟩) h0
end SB
namespace SB
open PySem PySem.Spec PyProof.Rows L2
open Classical
theorem cmpR_lt {x y : Rat} : (cmpR x y < 0) = (x < y) := by
  unfold cmpR
  by_cases h : x < y
  · simp [h]
  · by_cases h2 : y < x <;> simp [h, h2]
theorem cmpR_le {x y : Rat} : (cmpR x y ≤ 0) = (x ≤ y) := by
  unfold cmpR
  by_cases h : x < y
  · have : x ≤ y := by grind
    simp [h, this]
  · by_cases h2 : y < x
    · have : ¬ x ≤ y := by grind
      simp [h, h2, this]
    · have : x ≤ y := by grind
      simp [h, h2, this]
theorem cmpR_eq {x y : Rat} : (cmpR x y = 0) = (x = y) := by
  unfold cmpR
  by_cases h : x < y
  · have : ¬ x = y := by grind
    simp [h, this]
  · by_cases h2 : y < x
    · have : ¬ x = y := by grind
      simp [h, h2, this]
    · have : x = y := by grind
      simp [this]
theorem mem_ints {neg : Bool} {i : Int} {is : List Int} {S : Sto} : memD neg (.int i) (.tup (is.map .int)) S = .ok (.bl (if neg then !decide (i ∈ is) else decide (i ∈ is))) S := by
  rw [memD_of rfl]
  have h1 := toP_pu (S := S) 60 (.int i) (by simp)
  have h2 := toP_pu (S := S) 60 (.tup (is.map .int)) (by simp; exact pus_map _ fun _ _ => by simp)
  have hp : py (.tup (is.map .int)) = .tuple (pys (is.map .int)) := by simp only [py]
  have e : memS neg (.int i) (.tup (is.map .int)) S = (match toP S 60 (.int i), toP S 60 (.tup (is.map .int)) with
    | some d, some (.tuple es) => .ok (.bl (if neg then !es.any (fun z => PyData.eqv z d) else es.any (fun z => PyData.eqv z d))) S
    | _, _ => .bad) := rfl
  rw [e, h1, h2, hp]
  dsimp only
  rw [any_eqv (n := 1) (by simp) (is.map .int) (pus_map _ fun _ _ => by simp)]
  have : (D.int i ∈ is.map D.int) = (i ∈ is) := by simp
  rw [show decide (D.int i ∈ is.map D.int) = decide (i ∈ is) by simp]
theorem mem_01 {neg : Bool} {i : Int} {S : Sto} : memD neg (.int i) (.tup [.int 0, .int 1]) S = .ok (.bl (if neg then !decide (i = 0 ∨ i = 1) else decide (i = 0 ∨ i = 1))) S := by
  have := mem_ints (neg := neg) (i := i) (is := [0, 1]) (S := S)
  simp at this
  simp [this]
end SB
namespace SB
open PySem PySem.Spec PyProof.Rows L2
open Classical
/-! ### pushes, free speeds -/
abbrev Push := Int × (Rat × Rat)
def pd (p : Push) : D := .tup [.int p.1, vc p.2]
@[simp] theorem ix_pd0 {p : Push} {S : Sto} : ixD (pd p) (.int 0) S = .ok (.int p.1) S := by unfold pd; simp
@[simp] theorem ix_pd1 {p : Push} {S : Sto} : ixD (pd p) (.int 1) S = .ok (vc p.2) S := by unfold pd; simp
theorem pu_pd {p : Push} {n : Nat} : pu (n + 4) (pd p) := by unfold pd; simp
/-- neighbors ascend: all ascend -/
theorem asc_near {n : Nat} {f : Nat → Int} (h : ∀ i, i + 1 < n → f i < f (i + 1)) : ∀ i j, i < j → j < n → f i < f j := by
  intro i j hij
  induction j with
  | zero => omega
  | succ j ih =>
    intro hj
    by_cases e : i = j
    · subst e; exact h i hj
    · exact Int.lt_trans (ih (by omega) (by omega)) (h j hj)
def okPush (bs : List Body) (ps : List Push) (i : Nat) (p : Push) : Prop := ∃ b, Named bs p.1 = some b ∧ b.mass ≠ 0 ∧ (i = 0 ∨ ∃ q, ps[i - 1]? = some q ∧ q.1 < p.1)
def goodPush (bs : List Body) (ps : List Push) : Prop := ∀ i p, ps[i]? = some p → okPush bs ps i p
abbrev AscP (ps : List Push) : Prop := ps.Pairwise fun a b => a.1 < b.1
theorem goodPush.asc {bs : List Body} {ps : List Push} (h : goodPush bs ps) : AscP ps := by
  refine List.pairwise_iff_getElem.mpr fun i j hi hj hij => ?_
  have := asc_near (n := ps.length) (f := fun i => if h : i < ps.length then ps[i].1 else 0) (fun i hi => by
    obtain ⟨b, _, _, z⟩ := h (i + 1) _ (List.getElem?_eq_getElem hi)
    rcases z with z | ⟨q, hq, l⟩
    · cases z
    · have hi' : i < ps.length := by omega
      simp only [Nat.add_sub_cancel] at hq
      rw [List.getElem?_eq_getElem hi'] at hq
      cases hq
      simp only [hi, hi', dif_pos]
      exact l) i j hij hj
  simpa [hi, hj] using this
def pushOf (ps : List Push) (i : Int) : Option (Rat × Rat) := (ps.find? fun p => decide (p.1 = i)).map (·.2)
def baseR (s : State) (b : Body) : Rat × Rat := if b.mass = 0 then (0, 0) else (b.speed.1 + s.pull.1, b.speed.2 + s.pull.2)
def freeR (s : State) (ps : List Push) (b : Body) : Rat × Rat := match pushOf ps b.name with
  | none => baseR s b
  | some v => ((baseR s b).1 + v.1 * Rat.divInt 1 b.mass, (baseR s b).2 + v.2 * Rat.divInt 1 b.mass)
def tabF (bs : List Body) (f : Body → Rat × Rat) : List (Key × D) := bs.map fun b => (.inl b.name, vc (f b))
@[simp] theorem tabF_len {bs : List Body} {f : Body → Rat × Rat} : (tabF bs f).length = bs.length := by unfold tabF; simp
theorem tabF_take {bs : List Body} {f : Body → Rat × Rat} {i : Nat} (h : i < bs.length) : tabF (bs.take (i + 1)) f = tabF (bs.take i) f ++ [(.inl bs[i].name, vc (f bs[i]))] := by
  unfold tabF
  rw [List.take_add_one, List.map_append, List.getElem?_eq_getElem h]; rfl
theorem val_tabF {bs : List Body} {f : Body → Rat × Rat} {i : Int} : valD (tabF bs f) (.inl i) = (Named bs i).map fun b => vc (f b) := by
  induction bs with
  | nil => rfl
  | cons b bs ih =>
    unfold tabF Named at *
    rw [List.map_cons, List.find?_cons]
    by_cases h : b.name = i
    · rw [valD_pos (by simp [h])]
      simp [h]
    · rw [valD_neg (by simp [h]), ih]
      simp [h]
theorem tabF_put {bs : List Body} {f g : Body → Rat × Rat} {i : Int} {v : Rat × Rat} (h : ∃ b ∈ bs, b.name = i) (hg : ∀ b ∈ bs, g b = if b.name = i then v else f b) : putD (tabF bs f) (.inl i) (vc v) = tabF bs g := by
  unfold putD
  rw [if_pos]
  · unfold tabF
    rw [List.map_map]
    refine List.map_congr_left fun b hb => ?_
    have := hg b hb
    by_cases e : b.name = i
    · simp [e, this]
    · simp [e, this]
  · obtain ⟨b, hb, e⟩ := h
    exact List.any_eq_true.mpr ⟨_, List.mem_map.mpr ⟨b, hb, rfl⟩, by simp [e]⟩
/-- the table of masses -/
def tabM (bs : List Body) : List (Key × D) := bs.map fun b => (.inl b.name, .int b.mass)
@[simp] theorem tabM_len {bs : List Body} : (tabM bs).length = bs.length := by unfold tabM; simp
theorem tabM_take {bs : List Body} {i : Nat} (h : i < bs.length) : tabM (bs.take (i + 1)) = tabM (bs.take i) ++ [(.inl bs[i].name, .int bs[i].mass)] := by
  unfold tabM
  rw [List.take_add_one, List.map_append, List.getElem?_eq_getElem h]; rfl
theorem val_tabM {bs : List Body} {i : Int} : valD (tabM bs) (.inl i) = (Named bs i).map fun b => .int b.mass := by
  induction bs with
  | nil => rfl
  | cons b bs ih =>
    unfold tabM Named at *
    rw [List.map_cons, List.find?_cons]
    by_cases h : b.name = i
    · rw [valD_pos (by simp [h])]
      simp [h]
    · rw [valD_neg (by simp [h]), ih]
      simp [h]
theorem take_fresh {bs : List Body} (ha : AscN bs) {i : Nat} (h : i < bs.length) : ∀ b ∈ bs.take i, b.name ≠ bs[i].name := fun b hb => by
  obtain ⟨j, hj, rfl⟩ := List.mem_take_iff_getElem.mp hb
  have := List.pairwise_iff_getElem.mp ha j i (by omega) h (by omega)
  omega
theorem inv_fr {m : Int} (h : 0 < m) : D.tup [.int 1, .int m] = fr (Rat.divInt 1 m) := by
  rw [fr_pos h]; simp
theorem inv_sz {m : Int} (h : 0 < m) (l : m ≤ 1000) : Sz 10 (Rat.divInt 1 m) := divInt_sz ⟨by decide⟩ (Bz.of 10 (k := 1000) (by omega) (by decide)) (by omega)
end SB

/-! plain facts, third part: sixths -/
namespace SB
open PySem PySem.Spec PyProof.Rows L2
open Classical
/-- a number of sixths, at most c -/
def Gd (c : Int) (x : Rat) : Prop := ∃ m : Int, x = Rat.divInt m 6 ∧ -c ≤ m ∧ m ≤ c
theorem Gd.mono {c d : Int} {x : Rat} (h : Gd c x) (l : c ≤ d) : Gd d x := by
  obtain ⟨m, e, a, b⟩ := h
  exact ⟨m, e, by omega, by omega⟩
theorem Gd.add {c d : Int} {x y : Rat} (h : Gd c x) (k : Gd d y) : Gd (c + d) (x + y) := by
  obtain ⟨m, rfl, a, b⟩ := h
  obtain ⟨n, rfl, a2, b2⟩ := k
  refine ⟨m + n, ?_, by omega, by omega⟩
  rw [Rat.divInt_add_divInt _ _ (by decide) (by decide), Rat.divInt_eq_divInt_iff (by decide) (by decide)]
  omega
theorem Gd.sub {c d : Int} {x y : Rat} (h : Gd c x) (k : Gd d y) : Gd (c + d) (x - y) := by
  obtain ⟨m, rfl, a, b⟩ := h
  obtain ⟨n, rfl, a2, b2⟩ := k
  refine ⟨m - n, ?_, by omega, by omega⟩
  rw [Rat.divInt_sub_divInt _ _ (by decide) (by decide), Rat.divInt_eq_divInt_iff (by decide) (by decide)]
  omega
theorem Gd.sz {c : Int} {n : Nat} {x : Rat} (h : Gd c x) (l : c < 2 ^ n) (h3 : 3 ≤ n) : Sz n x := by
  obtain ⟨m, rfl, a, b⟩ := h
  refine divInt_sz ⟨?_⟩ (Bz.mono (m := 3) (Bz.of 3 (k := 6) (by decide) (by decide)) h3) (by decide)
  have : ((2 ^ n : Nat) : Int) = 2 ^ n := by simp
  omega
theorem gd_div {a p q : Int} (h1 : -a ≤ p) (h2 : p ≤ a) (hq : q = 1 ∨ q = 2 ∨ q = 3) : Gd (6 * a) (Rat.divInt p q) := by
  rcases hq with rfl | rfl | rfl
  · refine ⟨6 * p, ?_, by omega, by omega⟩
    rw [Rat.divInt_eq_divInt_iff (by decide) (by decide)]; omega
  · refine ⟨3 * p, ?_, by omega, by omega⟩
    rw [Rat.divInt_eq_divInt_iff (by decide) (by decide)]; omega
  · refine ⟨2 * p, ?_, by omega, by omega⟩
    rw [Rat.divInt_eq_divInt_iff (by decide) (by decide)]; omega
theorem gd_0 {c : Int} (h : 0 ≤ c) : Gd c 0 := ⟨0, by decide, by omega, h⟩
def Gv (c : Int) (v : Rat × Rat) : Prop := Gd c v.1 ∧ Gd c v.2
theorem Gv.mono {c d : Int} {v : Rat × Rat} (h : Gv c v) (l : c ≤ d) : Gv d v := ⟨h.1.mono l, h.2.mono l⟩
theorem Gv.ax {c : Int} {v : Rat × Rat} (h : Gv c v) (i : Int) : Gd c (ax v i) := by
  unfold SB.ax; split
  · exact h.1
  · exact h.2
theorem Gv.vz {c : Int} {n : Nat} {v : Rat × Rat} (h : Gv c v) (l : c < 2 ^ n) (h3 : 3 ≤ n) : Vz n v := ⟨h.1.sz l h3, h.2.sz l h3⟩
/-- a box of a law: place at most c sixths, size at most 36 -/
structure Gb (c : Int) (b : Box) : Prop where
  p : Gv c b.1
  s : Gv 36 b.2
  s1 : 0 < b.2.1
  s2 : 0 < b.2.2
theorem Gb.mono {c d : Int} {b : Box} (h : Gb c b) (l : c ≤ d) : Gb d b := ⟨h.p.mono l, h.s, h.s1, h.s2⟩
theorem Gb.xz {c : Int} {n : Nat} {b : Box} (h : Gb c b) (l : c < 2 ^ n) (h3 : 6 ≤ n) : Xz n b := ⟨h.p.vz l (by omega), (h.s.vz (n := 6) (by decide) (by decide)).mono h3⟩
theorem Gb.hi {c : Int} {b : Box} (h : Gb c b) (i : Int) : Gd (c + 36) (hiR b i) := (h.p.ax i).add (h.s.ax i)
end SB
namespace SB
open PySem PySem.Spec PyProof.Rows L2
open Classical
theorem comp_map {α : Type} {g h : α → D} {ok : Sto → Prop} {f : D → Sto → R (Option D)} {S : Sto} (hS : ok S) : ∀ (zs : List α) (acc : List D), (∀ z ∈ zs, f (g z) S = .ok (some (h z)) S) → compL ok f (zs.map g) acc S = .ok (acc ++ zs.map h) S
  | [], acc, _ => by simp [compL, hS]
  | z :: zs, acc, hh => by
    have h1 := hh z (by simp)
    have ih := fun acc => comp_map (g := g) (h := h) hS zs acc (fun y hy => hh y (by simp [hy]))
    simp [compL, hS, h1, ih]
theorem bl_any {α : Type} (p : α → Bool) (zs : List α) {S : Sto} : blD .any (zs.map fun z => .bl (p z)) S = .ok (.bl (zs.any p)) S := by
  unfold blD; dsimp only
  rw [allB_map]; dsimp only
  rw [List.any_map]; rfl
theorem bl_all {α : Type} (p : α → Bool) (zs : List α) {S : Sto} : blD .all (zs.map fun z => .bl (p z)) S = .ok (.bl (zs.all p)) S := by
  unfold blD; dsimp only
  rw [allB_map]; dsimp only
  rw [List.all_map]; rfl
theorem gap_comm {a b : Box} {i : Int} : gapR a b i = gapR b a i := by
  unfold gapR; split <;> split <;> grind
/-- a body of a law's state -/
structure LB (c : Int) (b : Body) : Prop where
  x : Gb c b.box
  n : 0 ≤ b.name ∧ b.name ≤ 500
  m : 0 ≤ b.mass ∧ b.mass ≤ 4
  g : Gd 12 b.grip ∧ 0 ≤ b.grip ∧ b.grip ≤ 4
  v : Gv 36 b.speed
  f : b.mass = 0 → b.speed = (0, 0)
theorem LB.mono {c d : Int} {b : Body} (h : LB c b) (l : c ≤ d) : LB d b := ⟨h.x.mono l, h.n, h.m, h.g, h.v, h.f⟩
theorem LB.bdz {c : Int} {n : Nat} {b : Body} (h : LB c b) (l : c < 2 ^ n) (h6 : 6 ≤ n) : Bdz n b := ⟨(h.x.xz l h6).p, (h.x.xz l h6).s, (h.g.1.sz (n := 4) (by decide) (by decide)).mono (by omega), (h.v.vz (n := 6) (by decide) (by decide)).mono h6⟩
def apartB (a b : Body) : Prop := ¬ (gapR a.box b.box 0 < 0 ∧ gapR a.box b.box 1 < 0)
structure LBs (c : Int) (bs : List Body) : Prop where
  b : ∀ b ∈ bs, LB c b
  asc : AscN bs
  ap : bs.Pairwise apartB
theorem LBs.nil {c : Int} : LBs c [] := ⟨fun _ h => (by cases h), .nil, .nil⟩
theorem LBs.snoc {c d : Int} {bs : List Body} {b : Body} (h : LBs c bs) (l : c ≤ d) (hb : LB d b) (hn : ∀ a ∈ bs, a.name < b.name) (ha : ∀ a ∈ bs, apartB b a) : LBs d (bs ++ [b]) := by
  refine ⟨fun a m => ?_, ?_, ?_⟩
  · rcases List.mem_append.mp m with m | m
    · exact (h.b a m).mono l
    · cases List.mem_singleton.mp m; exact hb
  · refine List.pairwise_append.mpr ⟨h.asc, List.pairwise_singleton _ _, fun a m c m2 => ?_⟩
    cases List.mem_singleton.mp m2; exact hn a m
  · refine List.pairwise_append.mpr ⟨h.ap, List.pairwise_singleton _ _, fun a m c m2 => ?_⟩
    cases List.mem_singleton.mp m2
    unfold apartB
    rw [gap_comm, gap_comm (i := 1)]
    exact ha a m
theorem LBs.mono {c d : Int} {bs : List Body} (h : LBs c bs) (l : c ≤ d) : LBs d bs := ⟨fun b m => (h.b b m).mono l, h.asc, h.ap⟩
theorem Gr.trans_ex {m : Nat} {S S1 S2 : Sto} (a : Gr m S S1) (b : Ex m S1 S2) : Gr m S S2 := a.trans b.gr
end SB
namespace SB
open PySem PySem.Spec PyProof.Rows L2
open Classical
@[simp] theorem tupD_5 {a b d e f : D} {S : Sto} : tupD [a, b, d, e, f] S = .ok (.tup [a, b, d, e, f]) S := tupD_ok (by decide : 5 ≤ sizeLine)
@[simp] theorem tupD_6 {a b d e f g : D} {S : Sto} : tupD [a, b, d, e, f, g] S = .ok (.tup [a, b, d, e, f, g]) S := tupD_ok (by decide : 6 ≤ sizeLine)
end SB

namespace SB
open PySem PySem.Spec PyProof.Rows L2
open Classical
theorem putD_last {κ : Type} [DecidableEq κ] {a : List (κ × D)} {k : κ} {d e : D} (h : ∀ p ∈ a, p.1 ≠ k) : putD (a ++ [(k, d)]) k e = a ++ [(k, e)] := by
  unfold putD
  rw [if_pos (by simp), List.map_append]
  congr 1
  · have : a.map (fun kv => if kv.1 = k then (kv.1, e) else kv) = a.map id := List.map_congr_left fun p hp => by simp [h p hp]
    rw [this]; simp
  · simp
theorem tup_ref {S : Sto} {n : Nat} {xs : List D} (g : S[n]? = some (.lst xs)) : biD .tuple [.ref n] S = .ok (.tup xs) S := by
  show (match itemsOf S (.ref n) with | some xs => R.ok (D.tup xs) S | none => R.bad) = _
  unfold itemsOf; dsimp only; rw [g]
/-- a law's state -/
structure LSt (s : State) : Prop where
  b : LBs 1000 s.bodies
  bl : s.bodies.length ≤ 24
  jl : s.joints.length ≤ 24
  p : Gv 6 s.pull
/-- a joint's ends, in sixths -/
def Jg (j : Joint) : Prop := Gd 4000 j.low ∧ Gd 4000 j.high
theorem tab_nodup {bs : List Body} (ha : AscN bs) {i : Nat} (hi : i < bs.length) {f : Body → Rat × Rat} : ∀ p ∈ tabF (bs.take i) f, p.1 ≠ Sum.inl bs[i].name := fun p hp => by
  obtain ⟨b, hb, rfl⟩ := List.mem_map.mp hp
  have := take_fresh ha hi b hb
  intro z; injection z with z; exact this z
theorem pushOf_mem {ps : List Push} {i : Int} {v : Rat × Rat} (h : pushOf ps i = some v) : (i, v) ∈ ps := by
  unfold pushOf at h
  cases e : ps.find? fun p => decide (p.1 = i) with
  | none => rw [e] at h; cases h
  | some p =>
    rw [e] at h
    have h1 := List.mem_of_find?_eq_some e
    have h2 := List.find?_some e
    have h3 : p.2 = v := by simpa using h
    have h4 : p.1 = i := by simpa using h2
    rw [← h3, ← h4]; exact h1
theorem valD_none {κ : Type} [DecidableEq κ] {a : List (κ × D)} {k : κ} (h : ∀ p ∈ a, p.1 ≠ k) : valD a k = none := by
  unfold valD
  rw [List.find?_eq_none.mpr]
  · rfl
  · intro p hp; simpa using h p hp
theorem val_last {κ : Type} [DecidableEq κ] {a : List (κ × D)} {k : κ} {d : D} (h : ∀ p ∈ a, p.1 ≠ k) : valD (a ++ [(k, d)]) k = some d := by
  rw [valD_app (valD_none h), valD_pos rfl]
section
variable {c : Cfg} {e : E} {a b : Ss} {ρ ρ' : En} {S S1 : Sto} {r : Fl}
theorem if_t (h : evE c e ρ S = .ok (.bl true) S1) (h2 : evSs c a ρ S1 = r) : evS c (.ite e a b) ρ S = r := by rw [xv_if, h]; simpa using h2
theorem if_f (h : evE c e ρ S = .ok (.bl false) S1) (h2 : evSs c b ρ S1 = r) : evS c (.ite e a b) ρ S = r := by rw [xv_if, h]; simpa using h2
end
end SB

/-! plain facts, fifth part: while loops, pairs, rows in order -/
namespace SB
open PySem PySem.Spec PyProof.Rows L2
open Classical
theorem whl_inv {c : En → Sto → R Bool} {f : En → Sto → Fl} (I : Nat → En → Sto → Prop) (X : En → Sto → Prop) {n : Nat}
    (step : ∀ i, i < n → ∀ ρ S, I i ρ S → ∃ S1 ρ' S', c ρ S = .ok true S1 ∧ f ρ S1 = .nx ρ' S' ∧ I (i + 1) ρ' S')
    (last : ∀ ρ S, I n ρ S → (∃ S1, c ρ S = .ok false S1 ∧ X ρ S1) ∨ (∃ S1 ρ' S', c ρ S = .ok true S1 ∧ f ρ S1 = .bk ρ' S' ∧ X ρ' S'))
    {ρ : En} {S : Sto} (h0 : I 0 ρ S) {w : Nat} (hw : n < w) : ∃ ρ' S', whileN c f w ρ S = .nx ρ' S' ∧ X ρ' S' := by
  suffices h : ∀ (m i w : Nat) (ρ : En) (S : Sto), i + m = n → m < w → I i ρ S → ∃ ρ' S', whileN c f w ρ S = .nx ρ' S' ∧ X ρ' S' from h n 0 w ρ S (by omega) hw h0
  intro m
  induction m with
  | zero =>
    intro i w ρ S e hw hI
    have : i = n := by omega
    subst this
    obtain ⟨w, rfl⟩ : ∃ v, w = v + 1 := ⟨w - 1, by omega⟩
    rcases last ρ S hI with ⟨S1, e1, x⟩ | ⟨S1, ρ', S', e1, e2, x⟩
    · exact ⟨ρ, S1, whileN_f e1, x⟩
    · refine ⟨ρ', S', ?_, x⟩
      unfold whileN
      rw [e1]; dsimp only; rw [e2]
  | succ m ih =>
    intro i w ρ S e hw hI
    obtain ⟨w, rfl⟩ : ∃ v, w = v + 1 := ⟨w - 1, by omega⟩
    obtain ⟨S1, ρ', S', e1, e2, h⟩ := step i (by omega) ρ S hI
    obtain ⟨ρ2, S2, e3, x⟩ := ih (i + 1) w ρ' S' (by omega) (by omega) h
    exact ⟨ρ2, S2, by rw [whileN_t e1 e2, e3], x⟩
/-- all pairs i < j < n -/
theorem pairs_inv {c : Cfg} {x y : Nat} {it1 it2 : Src} {b : Ss} {n : Nat} {ρ : En} {S : Sto} (O : Nat → En → Sto → Prop) (I : Nat → Nat → En → Sto → Prop)
    (h1 : evIt c it1 ρ S = .ok (rangeD 0 n, fun _ => True) S)
    (enter : ∀ i ρ S, i < n → O i ρ S → ∃ ρ1, evT c (.nm x) (.int i) ρ S = .ok ρ1 S ∧ evIt c it2 ρ1 S = .ok (rangeD (i + 1) n, fun _ => True) S ∧ I i (i + 1) ρ1 S)
    (step : ∀ i j ρ S, i < j → j < n → I i j ρ S → ∃ ρ1 ρ' S', evT c (.nm y) (.int j) ρ S = .ok ρ1 S ∧ evSs c b ρ1 S = .nx ρ' S' ∧ I i (j + 1) ρ' S')
    (leave : ∀ i ρ S, i < n → I i n ρ S → O (i + 1) ρ S) (h0 : O 0 ρ S) : ∃ ρ' S', evS c (.forr (.nm x) it1 (.cons (.forr (.nm y) it2 b) .nil)) ρ S = .nx ρ' S' ∧ O n ρ' S' := by
  have hl : (rangeD 0 (n : Int)).length = n := by rw [rangeD_len]; omega
  obtain ⟨ρ', S', e, h⟩ := for_inv (b := .cons (.forr (.nm y) it2 b) .nil) (t := .nm x) O h1 (fun _ _ _ _ => trivial) (fun i hi ρ S hO => by
    rw [hl] at hi
    obtain ⟨ρ1, e1, e2, hI⟩ := enter i ρ S hi hO
    have hl2 : (rangeD ((i : Int) + 1) (n : Int)).length = n - (i + 1) := by rw [rangeD_len]; omega
    obtain ⟨ρ2, S2, e3, h3⟩ := for_inv (b := b) (t := .nm y) (fun k ρ S => I i (i + 1 + k) ρ S) e2 (fun _ _ _ _ => trivial) (fun k hk ρ S hI => by
      rw [hl2] at hk
      obtain ⟨ρ1, ρ', S', a1, a2, a3⟩ := step i (i + 1 + k) ρ S (by omega) (by omega) hI
      refine ⟨ρ1, S, ρ', S', ?_, a2, a3⟩
      rw [rangeD_get, ← a1]
      congr 2) hI
    rw [hl2, show i + 1 + (n - (i + 1)) = n by omega] at h3
    refine ⟨ρ1, S, ρ2, S2, ?_, ss_nx e3 ss_end, leave i ρ2 S2 hi h3⟩
    rw [rangeD_get, ← e1]
    congr 2; omega) h0
  rw [hl] at h
  exact ⟨ρ', S', e, h⟩
/-! ### rows in order -/
abbrev HRow := Rat × Int × Int
def rd (r : HRow) : D := .tup [fr r.1, .int r.2.1, .int r.2.2]
def RL (x y : HRow) : Prop := x.1 < y.1 ∨ (x.1 = y.1 ∧ (x.2.1 < y.2.1 ∨ (x.2.1 = y.2.1 ∧ x.2.2 < y.2.2)))
theorem RL.tri {x y : HRow} (h : x.2 ≠ y.2) (n : ¬ RL x y) : RL y x := by
  unfold RL at *
  obtain ⟨a, b, c⟩ := x
  obtain ⟨a', b', c'⟩ := y
  simp only at *
  by_cases h1 : a < a'
  · exact (n (.inl h1)).elim
  · by_cases h2 : a' < a
    · exact .inl h2
    · have e : a = a' := by grind
      subst e
      refine .inr ⟨rfl, ?_⟩
      by_cases h3 : b < b'
      · exact (n (.inr ⟨rfl, .inl h3⟩)).elim
      · by_cases h4 : b' < b
        · exact .inl h4
        · have e : b = b' := by omega
          subst e
          refine .inr ⟨rfl, ?_⟩
          by_cases h5 : c < c'
          · exact (n (.inr ⟨rfl, .inr ⟨rfl, h5⟩⟩)).elim
          · have : c ≠ c' := fun e => h (by rw [e])
            omega
theorem RL.trans {x y z : HRow} (h : RL x y) (k : RL y z) : RL x z := by
  unfold RL at *
  rcases h with h | ⟨e, h⟩ <;> rcases k with k | ⟨f, k⟩
  · exact .inl (by grind)
  · exact .inl (by rw [← f]; exact h)
  · exact .inl (by rw [e]; exact k)
  · refine .inr ⟨e.trans f, ?_⟩
    omega
theorem RL.irrefl {x : HRow} : ¬ RL x x := by
  unfold RL
  rintro (h | ⟨_, h⟩)
  · exact Rat.lt_irrefl h
  · omega
theorem RL.asymm {x y : HRow} (h : RL x y) : ¬ RL y x := fun k => RL.irrefl (h.trans k)
theorem pre_filter {α : Type} {p : α → Bool} : ∀ {l : List α}, l.Pairwise (fun x y => p y = true → p x = true) → ∀ i (h : i < l.length), p l[i] = true ↔ i < (l.filter p).length
  | [], _, i, h => by cases h
  | a :: l, hp, i, h => by
    obtain ⟨h1, h2⟩ := List.pairwise_cons.mp hp
    by_cases c : p a = true
    · rw [List.filter_cons_of_pos c]
      cases i with
      | zero => simp [c]
      | succ i =>
        have := pre_filter h2 i (by simpa using h)
        simp only [List.getElem_cons_succ, List.length_cons, this]
        omega
    · rw [List.filter_cons_of_neg c]
      have : l.filter p = [] := List.filter_eq_nil_iff.mpr fun y hy z => c (h1 y hy z)
      rw [this]
      constructor
      · intro z
        cases i with
        | zero => exact (c z).elim
        | succ i =>
          simp only [List.getElem_cons_succ] at z
          exact (c (h1 _ (List.getElem_mem _) z)).elim
      · intro z; simp at z
abbrev SortR (l : List HRow) : Prop := l.Pairwise RL
noncomputable def cntW (r : HRow) (l : List HRow) : Nat := (l.filter fun x => decide (RL x r)).length
theorem cntW_le {r : HRow} {l : List HRow} : cntW r l ≤ l.length := List.length_filter_le _ _
theorem cntW_iff {r : HRow} {l : List HRow} (h : SortR l) (i : Nat) (hi : i < l.length) : RL l[i] r ↔ i < cntW r l := by
  have := pre_filter (p := fun x => decide (RL x r)) (h.imp fun {a b} hab z => by
    simp only [decide_eq_true_eq] at *
    exact hab.trans z) i hi
  simp only [decide_eq_true_eq] at this
  exact this
noncomputable def insW (r : HRow) (l : List HRow) : List HRow := l.take (cntW r l) ++ [r] ++ l.drop (cntW r l)
theorem mem_insW {r z : HRow} {l : List HRow} : z ∈ insW r l ↔ z = r ∨ z ∈ l := by
  unfold insW
  have e : z ∈ l ↔ z ∈ l.take (cntW r l) ∨ z ∈ l.drop (cntW r l) := by
    rw [← List.mem_append, List.take_append_drop]
  simp only [List.mem_append, List.mem_singleton, e]
  constructor
  · rintro ((h | h) | h) <;> simp [h]
  · rintro (h | h | h) <;> simp [h]
theorem len_insW {r : HRow} {l : List HRow} : (insW r l).length = l.length + 1 := by
  unfold insW
  have := @cntW_le r l
  simp only [List.length_append, List.length_take, List.length_drop, List.length_cons, List.length_nil]
  omega
theorem sort_insW {r : HRow} {l : List HRow} (h : SortR l) (hn : ∀ x ∈ l, x.2 ≠ r.2) : SortR (insW r l) := by
  have lo : ∀ x ∈ l.take (cntW r l), RL x r := fun x hx => by
    obtain ⟨i, hi, rfl⟩ := List.mem_take_iff_getElem.mp hx
    exact (cntW_iff h i (by omega)).mpr (by omega)
  have hi : ∀ x ∈ l.drop (cntW r l), RL r x := fun x hx => by
    have hm : x ∈ l := List.mem_of_mem_drop hx
    obtain ⟨i, hi, rfl⟩ := List.mem_drop_iff_getElem.mp hx
    exact RL.tri (hn _ hm) fun z => by
      have := (cntW_iff h _ (by omega)).mp z
      omega
  unfold insW
  refine List.pairwise_append.mpr ⟨List.pairwise_append.mpr ⟨h.sublist (List.take_sublist _ _), List.pairwise_singleton _ _, fun a ha b hb => ?_⟩, h.sublist (List.drop_sublist _ _), fun a ha b hb => ?_⟩
  · cases List.mem_singleton.mp hb; exact lo a ha
  · rcases List.mem_append.mp ha with ha | ha
    · exact (lo a ha).trans (hi b hb)
    · cases List.mem_singleton.mp ha; exact hi b hb
theorem sort_ext : ∀ {l m : List HRow}, SortR l → SortR m → (∀ x, x ∈ l ↔ x ∈ m) → l = m
  | [], [], _, _, _ => rfl
  | [], b :: m, _, _, h => by have := (h b).mpr (by simp); simp at this
  | a :: l, [], _, _, h => by have := (h a).mp (by simp); simp at this
  | a :: l, b :: m, h1, h2, h => by
    obtain ⟨p1, q1⟩ := List.pairwise_cons.mp h1
    obtain ⟨p2, q2⟩ := List.pairwise_cons.mp h2
    have e : a = b := by
      have ha := (h a).mp (by simp)
      have hb := (h b).mpr (by simp)
      rcases List.mem_cons.mp ha with e | ha
      · exact e
      · rcases List.mem_cons.mp hb with e | hb
        · exact e.symm
        · exact ((p1 b hb).asymm (p2 a ha)).elim
    subst e
    congr 1
    refine sort_ext q1 q2 fun x => ?_
    have := h x
    simp only [List.mem_cons] at this
    constructor
    · intro hx
      rcases this.mp (.inr hx) with rfl | z
      · exact (RL.irrefl (p1 _ hx)).elim
      · exact z
    · intro hx
      rcases this.mpr (.inr hx) with rfl | z
      · exact (RL.irrefl (p2 _ hx)).elim
      · exact z
theorem intsD_2 {a b : Int} : intsD [.int a, .int b] = some [a, b] := rfl
theorem lex_2 {a b c d : Int} : HT.lexLt [a, b] [c, d] = decide (a < c ∨ (a = c ∧ b < d)) := by
  rw [HT.lexLt_cons, HT.lexLt_cons]
  by_cases h : a = c
  · subst h
    simp
    by_cases k : b = d
    · subst k; simp; rfl
    · simp [k]
  · simp [h]
theorem cmp_gt2 {a b c d : Int} {S : Sto} : cmpD .gt (.tup [.int a, .int b]) (.tup [.int c, .int d]) S = .ok (.bl (decide (c < a ∨ (c = a ∧ d < b)))) S := by
  show lexD [.int c, .int d] [.int a, .int b] S = _
  unfold lexD; rw [intsD_2, intsD_2]; dsimp only; rw [lex_2]
theorem cmp_lt2 {a b c d : Int} {S : Sto} : cmpD .lt (.tup [.int a, .int b]) (.tup [.int c, .int d]) S = .ok (.bl (decide (a < c ∨ (a = c ∧ b < d)))) S := by
  show lexD [.int a, .int b] [.int c, .int d] S = _
  unfold lexD; rw [intsD_2, intsD_2]; dsimp only; rw [lex_2]
theorem sl_rd {r : HRow} {S : Sto} : slD (rd r) (some 1) none S = .ok (.tup [.int r.2.1, .int r.2.2]) S := by
  unfold slD rd; dsimp only; rfl
@[simp] theorem ix_rd0 {r : HRow} {S : Sto} : ixD (rd r) (.int 0) S = .ok (fr r.1) S := by unfold rd; simp
@[simp] theorem ix_rd1 {r : HRow} {S : Sto} : ixD (rd r) (.int 1) S = .ok (.int r.2.1) S := by unfold rd; simp
@[simp] theorem ix_rd2 {r : HRow} {S : Sto} : ixD (rd r) (.int 2) S = .ok (.int r.2.2) S := by unfold rd; simp
theorem pu_rd {r : HRow} {n : Nat} : pu (n + 3) (rd r) := by unfold rd; simp
theorem name_inj {bs : List Body} (ha : AscN bs) {i j : Nat} (hi : i < bs.length) (hj : j < bs.length) (e : bs[i].name = bs[j].name) : i = j := by
  rcases Nat.lt_trichotomy i j with h | h | h
  · have := List.pairwise_iff_getElem.mp ha i j hi hj h; omega
  · exact h
  · have := List.pairwise_iff_getElem.mp ha j i hj hi h; omega
/-- the rows of all pairs before (i, j) -/
structure Dn (bs : List Body) (H : Body → Body → Rat → Prop) (i j : Nat) (xs : List HRow) : Prop where
  so : SortR xs
  mem : ∀ x, x ∈ xs ↔ ∃ i' j', ∃ (h : i' < j') (hj : j' < bs.length), (i' < i ∨ (i' = i ∧ j' < j)) ∧ H bs[i'] bs[j'] x.1 ∧ x.2 = (bs[i'].name, bs[j'].name)
  len : xs.length ≤ 24 * i + j
theorem Dn.nil {bs : List Body} {H : Body → Body → Rat → Prop} : Dn bs H 0 0 [] := ⟨.nil, fun x => ⟨fun h => (by cases h), fun ⟨i, j, _, _, h, _⟩ => by omega⟩, by simp⟩
theorem Dn.enter {bs : List Body} {H : Body → Body → Rat → Prop} {i : Nat} {xs : List HRow} (h : Dn bs H i 0 xs) : Dn bs H i (i + 1) xs := by
  refine ⟨h.so, fun x => ?_, by have := h.len; omega⟩
  rw [h.mem]
  constructor
  · rintro ⟨i', j', a, b, c, d⟩; exact ⟨i', j', a, b, by omega, d⟩
  · rintro ⟨i', j', a, b, c, d⟩; exact ⟨i', j', a, b, by omega, d⟩
theorem Dn.leave {bs : List Body} {H : Body → Body → Rat → Prop} {i : Nat} {xs : List HRow} (h : Dn bs H i bs.length xs) (hl : bs.length ≤ 24) : Dn bs H (i + 1) 0 xs := by
  refine ⟨h.so, fun x => ?_, by have := h.len; omega⟩
  rw [h.mem]
  constructor
  · rintro ⟨i', j', a, b, c, d⟩; exact ⟨i', j', a, b, by omega, d⟩
  · rintro ⟨i', j', a, b, c, d⟩; exact ⟨i', j', a, b, by omega, d⟩
theorem Dn.skip {bs : List Body} {H : Body → Body → Rat → Prop} {i j : Nat} {xs : List HRow} (h : Dn bs H i j xs) (hij : i < j) (hj : j < bs.length) (n : ∀ t, ¬ H bs[i] bs[j] t) : Dn bs H i (j + 1) xs := by
  refine ⟨h.so, fun x => ?_, by have := h.len; omega⟩
  rw [h.mem]
  constructor
  · rintro ⟨i', j', a, b, c, d⟩; exact ⟨i', j', a, b, by omega, d⟩
  · rintro ⟨i', j', a, b, c, d⟩
    by_cases e : i' = i ∧ j' = j
    · obtain ⟨rfl, rfl⟩ := e
      exact (n _ d.1).elim
    · exact ⟨i', j', a, b, by omega, d⟩
theorem Dn.fresh {bs : List Body} {H : Body → Body → Rat → Prop} {i j : Nat} {xs : List HRow} (h : Dn bs H i j xs) (ha : AscN bs) (hij : i < j) (hj : j < bs.length) : ∀ x ∈ xs, x.2 ≠ (bs[i].name, bs[j].name) := fun x hx e => by
  obtain ⟨i', j', a, b, c, _, d⟩ := (h.mem x).mp hx
  rw [d] at e
  injection e with e1 e2
  have k1 := name_inj ha (by omega) (by omega) e1
  have k2 := name_inj ha (by omega) (by omega) e2
  omega
theorem Dn.put {bs : List Body} {H : Body → Body → Rat → Prop} {i j : Nat} {xs : List HRow} {t : Rat} (h : Dn bs H i j xs) (ha : AscN bs) (hij : i < j) (hj : j < bs.length) (ht : H bs[i] bs[j] t) (u : ∀ t', H bs[i] bs[j] t' → t' = t) : Dn bs H i (j + 1) (insW (t, bs[i].name, bs[j].name) xs) := by
  refine ⟨sort_insW h.so (h.fresh ha hij hj), fun x => ?_, by have := h.len; rw [len_insW]; omega⟩
  rw [mem_insW, h.mem]
  constructor
  · rintro (rfl | ⟨i', j', a, b, c, d⟩)
    · exact ⟨i, j, hij, hj, by omega, ht, rfl⟩
    · exact ⟨i', j', a, b, by omega, d⟩
  · rintro ⟨i', j', a, b, c, d, e⟩
    by_cases z : i' = i ∧ j' = j
    · obtain ⟨rfl, rfl⟩ := z
      refine .inl ?_
      have := u _ d
      obtain ⟨x1, x2⟩ := x
      simp only at this e
      rw [this, e]
    · exact .inr ⟨i', j', a, b, by omega, d, e⟩
theorem Dn.one {bs : List Body} {H : Body → Body → Rat → Prop} {i j : Nat} {xs ys : List HRow} (h : Dn bs H i j xs) (k : Dn bs H i j ys) : xs = ys := sort_ext h.so k.so fun x => (h.mem x).trans (k.mem x).symm
theorem free_sz {n : Nat} {s : State} {ps : List Push} {b : Body} (zb : Vz n b.speed) (zp : Vz n s.pull) (hm : 0 ≤ b.mass ∧ b.mass ≤ 1000) (hv : ∀ p ∈ ps, Vz n p.2) : Vz (3 * n + 12) (freeR s ps b) := by
  have z0 : Sz 1 0 := ⟨⟨by decide⟩, ⟨by decide⟩⟩
  have zbase : Vz (2 * n + 1) (baseR s b) := by
    unfold baseR; split
    · exact ⟨z0.mono (by omega), z0.mono (by omega)⟩
    · exact ⟨(zb.x.add zp.x).mono (by omega), (zb.y.add zp.y).mono (by omega)⟩
  unfold freeR
  cases e : pushOf ps b.name with
  | none => exact zbase.mono (by omega)
  | some v =>
    have zv := hv _ (pushOf_mem e)
    have zi : Sz 10 (Rat.divInt 1 b.mass) := by
      by_cases c : b.mass = 0
      · rw [c]; exact z0.mono (by omega)
      · exact inv_sz (by omega) hm.2
    exact ⟨(zbase.x.add (zv.x.mul zi)).mono (by omega), (zbase.y.add (zv.y.mul zi)).mono (by omega)⟩
theorem Named.mem {bs : List Body} {i : Int} {b : Body} (h : Named bs i = some b) : b ∈ bs ∧ b.name = i := ⟨List.mem_of_find?_eq_some h, by have := List.find?_some h; simpa using this⟩
theorem asc_inj {bs : List Body} (ha : AscN bs) {a b : Body} (h1 : a ∈ bs) (h2 : b ∈ bs) (e : a.name = b.name) : a = b := by
  obtain ⟨i, hi, rfl⟩ := List.getElem_of_mem h1
  obtain ⟨j, hj, rfl⟩ := List.getElem_of_mem h2
  rcases Nat.lt_trichotomy i j with h | h | h
  · have := List.pairwise_iff_getElem.mp ha i j hi hj h; omega
  · subst h; rfl
  · have := List.pairwise_iff_getElem.mp ha j i hj hi h; omega
theorem named_of {bs : List Body} (ha : AscN bs) {i : Nat} (hi : i < bs.length) : Named bs bs[i].name = some bs[i] := by
  cases h : Named bs bs[i].name with
  | none =>
    have := List.find?_eq_none.mp h bs[i] (List.getElem_mem hi)
    simp at this
  | some b =>
    obtain ⟨m, e⟩ := Named.mem h
    rw [asc_inj ha m (List.getElem_mem hi) e]
@[simp] theorem nd_n {n : Bool} {S : Sto} : isND n .non S = .ok (.bl (!n)) S := by cases n <;> rfl
@[simp] theorem nd_f {n : Bool} {x : Rat} {S : Sto} : isND n (fr x) S = .ok (.bl n) S := by cases n <;> rfl
@[simp] theorem nd_t {n : Bool} {xs : List D} {S : Sto} : isND n (.tup xs) S = .ok (.bl n) S := by cases n <;> rfl
@[simp] theorem nd_i {n : Bool} {i : Int} {S : Sto} : isND n (.int i) S = .ok (.bl n) S := by cases n <;> rfl
@[simp] theorem nd_s {n : Bool} {x : Str} {S : Sto} : isND n (.str x) S = .ok (.bl n) S := by cases n <;> rfl
end SB

/-! plain facts, sixth part: parts, rows, axes -/
namespace SB
open PySem PySem.Spec PyProof.Rows L2
open Classical
theorem comp_fm {α : Type} {g h : α → D} {q : α → Bool} {ok : Sto → Prop} {f : D → Sto → R (Option D)} {S : Sto} (hS : ok S) : ∀ (zs : List α) (acc : List D), (∀ z ∈ zs, f (g z) S = .ok (if q z then some (h z) else none) S) → compL ok f (zs.map g) acc S = .ok (acc ++ (zs.filter q).map h) S
  | [], acc, _ => by simp [compL, hS]
  | z :: zs, acc, hh => by
    have h1 := hh z (by simp)
    have ih := fun acc => comp_fm (g := g) (h := h) (q := q) hS zs acc (fun y hy => hh y (by simp [hy]))
    by_cases e : q z <;> simp [compL, hS, h1, ih, e]
abbrev Item := Body × Int × Rat
def itD (x : Item) : D := .tup [bd x.1, .int x.2.1, fr x.2.2]
def ptD (x : Item) : D := .tup [.int x.1.name, .int x.2.1, fr x.2.2]
def keepI (x : Item) : Bool := decide (0 < x.1.mass) && !decide (x.2.2 = 0)
abbrev ItOk (xs : List Item) : Prop := xs.Pairwise fun x y => x.1.name ≠ y.1.name ∨ x.2.1 ≠ y.2.1
noncomputable def partsD (xs : List Item) : D := .tup ((sortD ((xs.filter keepI).map ptD)).getD [])
theorem keysK_pt : ∀ xs : List Item, keysK (xs.map ptD) = some (xs.map fun x => ((x.1.name, some x.2.1), ptD x))
  | [] => rfl
  | x :: xs => by
    rw [List.map_cons]
    unfold keysK
    rw [keysK_pt xs]; rfl
theorem sortD_pt {xs : List Item} (h : ItOk xs) : sortD (xs.map ptD) = some ((sortK (xs.map fun x => ((x.1.name, x.2.1), ptD x))).map (·.2)) := by
  cases xs with
  | nil => rfl
  | cons x xs =>
    unfold sortD
    have e : intsD ((x :: xs).map ptD) = none := rfl
    rw [e]; dsimp only
    rw [keysK_pt]; dsimp only
    rw [if_pos]
    · rw [List.map_map]; rfl
    · refine List.pairwise_map.mpr (h.imp fun {a b} hab => ?_)
      rcases hab with hab | hab
      · exact .inl hab
      · exact .inr ⟨_, _, rfl, rfl, hab⟩
theorem itOk_filter {xs : List Item} {q : Item → Bool} (h : ItOk xs) : ItOk (xs.filter q) := h.sublist List.filter_sublist
theorem partsD_eq {xs : List Item} (h : ItOk xs) : partsD xs = .tup ((sortK ((xs.filter keepI).map fun x => ((x.1.name, x.2.1), ptD x))).map (·.2)) := by
  unfold partsD; rw [sortD_pt (itOk_filter h)]; rfl
theorem srtLD_pt {xs : List Item} {S : Sto} (h : ItOk xs) : srtLD ((xs.filter keepI).map ptD) S = .ok ((sortD ((xs.filter keepI).map ptD)).getD []) S := by
  unfold srtLD; rw [sortD_pt (itOk_filter h)]; rfl
theorem partsD_perm {xs ys : List Item} (h : ItOk xs) (p : xs.Perm ys) : partsD xs = partsD ys := by
  have h2 : ItOk ys := by
    refine (List.Perm.pairwise_iff (fun {a b} hab => ?_) p).mp h
    rcases hab with hab | hab
    · exact .inl hab.symm
    · exact .inr hab.symm
  rw [partsD_eq h, partsD_eq h2]
  have pp : ((xs.filter keepI).map fun x => ((x.1.name, x.2.1), ptD x)).Perm ((ys.filter keepI).map fun x => ((x.1.name, x.2.1), ptD x)) := (p.filter _).map _
  rw [sortK_uniq (l := (ys.filter keepI).map fun x => ((x.1.name, x.2.1), ptD x)) ?_ ((sortK_perm _).trans pp) (sortK_pw _)]
  refine List.pairwise_map.mpr ((itOk_filter h2).imp fun {a b} hab e => ?_)
  injection e with e1 e2
  rcases hab with hab | hab
  · exact hab e1
  · exact hab e2
theorem pu_pt {x : Item} {n : Nat} : pu (n + 3) (ptD x) := by unfold ptD; simp
theorem pu_parts {xs : List Item} {n : Nat} (h : ItOk xs) : pu (n + 4) (partsD xs) := by
  rw [partsD_eq h]
  simp only [pu_tup]
  refine pus_map _ fun z hz => ?_
  have := (sortK_perm _).mem_iff.mp hz
  obtain ⟨x, hx, rfl⟩ := List.mem_map.mp this
  exact pu_pt
/-! ### axes -/
/-- the bodies keep clear on one axis -/
def ApB (a b : Body) : Prop := 0 ≤ gapR a.box b.box 0 ∨ 0 ≤ gapR a.box b.box 1
theorem ApB_of {a b : Body} (h : apartB a b) : ApB a b := by
  unfold apartB at h
  unfold ApB
  by_cases c : gapR a.box b.box 0 < 0
  · right
    have : ¬ gapR a.box b.box 1 < 0 := fun z => h ⟨c, z⟩
    grind
  · left; grind
def behR (a b : Body) (i : Int) : Bool := decide (hiR a.box i ≤ ax b.place i)
theorem beh_law {a b : Body} {i : Int} (hi : Axi i) (g : 0 ≤ gapR a.box b.box i) (sa : 0 < a.size.1 ∧ 0 < a.size.2) (sb : 0 < b.size.1 ∧ 0 < b.size.2) : (behR a b i = decide (ax a.place i < ax b.place i)) ∧ (behR a b i = !decide (ax b.place i < ax a.place i)) := by
  have pa : 0 < ax a.size i := by unfold SB.ax; split; exact sa.1; exact sa.2
  have pb : 0 < ax b.size i := by unfold SB.ax; split; exact sb.1; exact sb.2
  have e1 : hiR a.box i = ax a.place i + ax a.size i := rfl
  have e2 : hiR b.box i = ax b.place i + ax b.size i := rfl
  have e3 : ax a.box.1 i = ax a.place i := rfl
  have e4 : ax b.box.1 i = ax b.place i := rfl
  unfold gapR at g
  rw [e1, e2, e3, e4] at g
  unfold behR
  rw [e1]
  by_cases c : ax a.place i + ax a.size i ≤ ax b.place i
  · have h1 : ax a.place i < ax b.place i := by grind
    have h2 : ¬ ax b.place i < ax a.place i := by grind
    simp [c, h1, h2]
  · have h0 : ¬ 0 ≤ ax b.place i - (ax a.place i + ax a.size i) := by grind
    have h1 : ax b.place i < ax a.place i := by
      split at g
      · grind
      · grind
    have h2 : ¬ ax a.place i < ax b.place i := by grind
    simp [c, h1, h2]
/-- the way of the front one seen from the back one -/
def wayR (f : Body → Rat × Rat) (a b : Body) (i : Int) : Rat := if behR a b i then ax (f b) i - ax (f a) i else ax (f a) i - ax (f b) i
def endR (f : Body → Rat × Rat) (a b : Body) (i : Int) : Option Rat := if gapR a.box b.box i < 0 then none else some (gapR a.box b.box i + wayR f a b i)
noncomputable def axisR (f : Body → Rat × Rat) (a b : Body) : Int := match endR f a b 0, endR f a b 1 with
  | none, _ => 1
  | some x, some y => if x < y then 1 else 0
  | some _, none => 0
theorem axisR_axi {f : Body → Rat × Rat} {a b : Body} : Axi (axisR f a b) := by
  unfold axisR
  split
  · exact .inr rfl
  · split
    · exact .inr rfl
    · exact .inl rfl
  · exact .inl rfl
theorem axis_gap {f : Body → Rat × Rat} {a b : Body} (h : ApB a b) : 0 ≤ gapR a.box b.box (axisR f a b) := by
  unfold axisR
  unfold ApB at h
  have e : ∀ i x, endR f a b i = some x → 0 ≤ gapR a.box b.box i := fun i x hx => by
    unfold endR at hx
    split at hx
    · cases hx
    · grind
  have n : ∀ i, endR f a b i = none → gapR a.box b.box i < 0 := fun i hx => by
    unfold endR at hx
    split at hx
    · assumption
    · cases hx
  split
  · rename_i h0
    have := n _ h0
    rcases h with h | h
    · grind
    · exact h
  · rename_i h0 h1
    split
    · exact e _ _ h1
    · exact e _ _ h0
  · rename_i h0 h1
    exact e _ _ h0
/-! ### rows -/
noncomputable def sideR (a b : Body) (pl : List Item) (fb bb : Body) (across side : Int) (m : Rat) : D :=
  .tup [.tup [.str "apart", .int a.name, .int b.name, .int side], partsD (pl ++ [(fb, across, m), (bb, across, -m)]), fr 0]
noncomputable def apartRs (f : Body → Rat × Rat) (a b : Body) : List D :=
  let x := axisR f a b
  let fb := if behR a b x then b else a
  let bb := if behR a b x then a else b
  let g := minR a.grip b.grip
  let pl : List Item := [(fb, x, 1), (bb, x, -1)]
  if g = 0 ∨ gapR a.box b.box x ≠ 0 ∨ 0 < gapR a.box b.box (1 - x) then
    [.tup [.tup [.str "apart", .int a.name, .int b.name, .int 0], partsD pl, fr (-gapR a.box b.box x)]]
  else [sideR a b pl fb bb (1 - x) 0 g, sideR a b pl fb bb (1 - x) 1 (-g)]
noncomputable def jointRs (bs : List Body) (k : Nat) (j : Joint) : List D := match Named bs j.one, Named bs j.other with
  | some a, some b => if a.mass = 0 ∧ b.mass = 0 then [] else
    [.tup [.tup [.str "joint", .int k, .int 0, .int 0], partsD [(b, j.axis, 1), (a, j.axis, -1)], fr (j.low - (ax b.place j.axis - ax a.place j.axis))],
     .tup [.tup [.str "joint", .int k, .int 0, .int 1], partsD [(b, j.axis, -1), (a, j.axis, 1)], fr ((ax b.place j.axis - ax a.place j.axis) - j.high)]]
  | _, _ => []
noncomputable def pairR (bs : List Body) (f : Body → Rat × Rat) (i j : Nat) : List D := match bs[i]?, bs[j]? with
  | some a, some b => if 0 < a.mass ∨ 0 < b.mass then apartRs f a b else []
  | _, _ => []
noncomputable def prJ (bs : List Body) (f : Body → Rat × Rat) (i j : Nat) : List D := (List.range (j - (i + 1))).flatMap fun d => pairR bs f i (i + 1 + d)
noncomputable def prI (bs : List Body) (f : Body → Rat × Rat) (i : Nat) : List D := (List.range i).flatMap fun i' => prJ bs f i' bs.length
noncomputable def prA (bs : List Body) (f : Body → Rat × Rat) (i j : Nat) : List D := prI bs f i ++ prJ bs f i j
theorem prA_step {bs : List Body} {f : Body → Rat × Rat} {i j : Nat} (h : i < j) : prA bs f i (j + 1) = prA bs f i j ++ pairR bs f i j := by
  unfold prA prJ
  rw [show j + 1 - (i + 1) = (j - (i + 1)) + 1 by omega, List.range_succ, List.flatMap_append, List.append_assoc]
  congr 2
  simp [show i + 1 + (j - (i + 1)) = j by omega]
theorem prA_enter {bs : List Body} {f : Body → Rat × Rat} {i : Nat} : prA bs f i (i + 1) = prI bs f i := by
  unfold prA prJ; simp
theorem prA_leave {bs : List Body} {f : Body → Rat × Rat} {i : Nat} : prA bs f i bs.length = prI bs f (i + 1) := by
  unfold prA prI
  rw [List.range_succ, List.flatMap_append]; simp
noncomputable def jrs (s : State) (k : Nat) : List D := (List.range k).flatMap fun k => match s.joints[k]? with | some j => jointRs s.bodies k j | none => []
theorem jrs_step {s : State} {k : Nat} (h : k < s.joints.length) : jrs s (k + 1) = jrs s k ++ jointRs s.bodies k s.joints[k] := by
  unfold jrs
  rw [List.range_succ, List.flatMap_append]
  simp [h]
noncomputable def rowsR (s : State) (f : Body → Rat × Rat) : List D := prI s.bodies f s.bodies.length ++ jrs s s.joints.length
theorem neg_fr {x : Rat} : D.tup [.int (-x.num), .int x.den] = fr (-x) := by unfold fr; simp
theorem neg_fr' {x : Rat} : D.tup [.int (0 - x.num), .int x.den] = fr (-x) := by rw [← neg_fr]; simp
end SB

namespace LW
open PySem PySem.Spec PyProof.Rows L2 SB
open Classical
@[simp] theorem sb_0_0 : P.sub 0 0 = some true := rfl
@[simp] theorem sb_0_2 : P.sub 0 2 = some false := rfl
@[simp] theorem sb_0_3 : P.sub 0 3 = some false := rfl
@[simp] theorem sb_1_0 : P.sub 1 0 = some true := rfl
@[simp] theorem sb_1_2 : P.sub 1 2 = some false := rfl
@[simp] theorem sb_1_3 : P.sub 1 3 = some false := rfl
@[simp] theorem sb_2_0 : P.sub 2 0 = some true := rfl
@[simp] theorem sb_2_2 : P.sub 2 2 = some true := rfl
@[simp] theorem sb_2_3 : P.sub 2 3 = some false := rfl
@[simp] theorem sb_3_0 : P.sub 3 0 = some true := rfl
@[simp] theorem sb_3_2 : P.sub 3 2 = some false := rfl
@[simp] theorem sb_3_3 : P.sub 3 3 = some true := rfl
theorem s0 {n k : Nat} {S : Sto} {p q : Int} (hq : Bz n q) (hn : n < 9000) : evF P (k + 1) 0 [.int p, .int q] S = if q = 0 then .err 1 S else .ok (fr (Rat.divInt p q)) S := by
  rw [evF_succ (F := F0) rfl rfl (by decide)]
  by_cases h0 : q = 0
  · simp [F0, h0]
  · have core : ∀ (a b : Int), Bz n b → 0 < b → ∃ g : Int, (0 < g ∧ Bz n g) ∧ g = (Nat.gcd a.natAbs b.natAbs : Nat) := fun a b hb h => by
      have h1 : 0 < Nat.gcd a.natAbs b.natAbs := Nat.gcd_pos_of_pos_right _ (by omega)
      exact ⟨_, ⟨by omega, hb.le (by
        have := Nat.gcd_le_right a.natAbs (show 0 < b.natAbs by omega)
        simpa using this)⟩, rfl⟩
    by_cases h1 : q < 0
    · obtain ⟨g, ⟨g1, g2⟩, e⟩ := core (-p) (-q) hq.neg (by omega)
      have e3 : Rat.divInt p q = Rat.divInt (-p) (-q) := (Rat.neg_divInt_neg p q).symm
      rw [e3, fr_pos (show 0 < -q by omega), ← e]
      simp [F0, h0, h1]
      rw [show ((p.natAbs.gcd q.natAbs : Nat) : Int) = g by rw [e]; simp]
      simp [bop_div g1 g2 hn]
    · obtain ⟨g, ⟨g1, g2⟩, e⟩ := core p q hq (by omega)
      rw [fr_pos (show 0 < q by omega), ← e]
      simp [F0, h0, h1]
      rw [← e]
      simp [bop_div g1 g2 hn]

theorem s1 {m n k : Nat} {S : Sto} {x y : Rat} (hx : Sz m x) (hy : Sz n y) (h : m + n < 9000) : evF P (k + 2) 1 [fr x, fr y] S = .ok (fr (x + y)) S := by
  rw [evF_succ (F := F1) rfl rfl (by decide)]
  have h1 := bop_mul (S := S) (hx.num.mulOk hy.den (by omega))
  have h2 := bop_mul (S := S) (hy.num.mulOk hx.den (by omega))
  have h3 := bop_mul (S := S) (hx.den.mulOk hy.den (by omega))
  have hc := s0 (k := k) (S := S) (p := x.num * y.den + y.num * x.den) (hx.den.mul hy.den) h
  rw [if_neg (Int.mul_ne_zero den_ne den_ne), ← add_divInt] at hc
  by_cases e : (x.den : Int) = y.den ∧ (y.den : Int) = 1
  · have e3 : fr (x + y) = .tup [.int (x.num + y.num), .int 1] := fr_int _ (by rw [add_divInt, e.1, e.2]; simp)
    rw [e3]
    simp [F1, e.1, e.2]
  · by_cases e1 : (x.den : Int) = y.den
    · have e2 : ¬ (y.den : Int) = 1 := fun z => e ⟨e1, z⟩
      rw [e1] at h2 h3 hc
      simp [F1, e1, e2, h1, h2, h3, hc]
    · simp [F1, e1, h1, h2, h3, hc]

theorem s2 {m n k : Nat} {S : Sto} {x y : Rat} (hx : Sz m x) (hy : Sz n y) (h : m + n < 9000) : evF P (k + 2) 2 [fr x, fr y] S = .ok (fr (x - y)) S := by
  rw [evF_succ (F := F2) rfl rfl (by decide)]
  have h1 := bop_mul (S := S) (hx.num.mulOk hy.den (by omega))
  have h2 := bop_mul (S := S) (hy.num.mulOk hx.den (by omega))
  have h3 := bop_mul (S := S) (hx.den.mulOk hy.den (by omega))
  have hc := s0 (k := k) (S := S) (p := x.num * y.den - y.num * x.den) (hx.den.mul hy.den) h
  rw [if_neg (Int.mul_ne_zero den_ne den_ne), ← sub_divInt] at hc
  by_cases e : (x.den : Int) = y.den ∧ (y.den : Int) = 1
  · have e3 : fr (x - y) = .tup [.int (x.num - y.num), .int 1] := fr_int _ (by rw [sub_divInt, e.1, e.2]; simp)
    rw [e3]
    simp [F2, e.1, e.2]
  · by_cases e1 : (x.den : Int) = y.den
    · have e2 : ¬ (y.den : Int) = 1 := fun z => e ⟨e1, z⟩
      rw [e1] at h2 h3 hc
      simp [F2, e1, e2, h1, h2, h3, hc]
    · simp [F2, e1, h1, h2, h3, hc]

theorem s5 {m n k : Nat} {S : Sto} {x y : Rat} (hx : Sz m x) (hy : Sz n y) (h : m + n < 900000) : evF P (k + 1) 5 [fr x, fr y] S = .ok (.int (cmpR x y)) S := by
  rw [evF_succ (F := F5) rfl rfl (by decide)]
  have h1 := bop_mul (S := S) (hx.num.mulOk hy.den (by omega))
  have h2 := bop_mul (S := S) (hy.num.mulOk hx.den (by omega))
  have l1 := Rat.lt_iff x y
  have l2 := Rat.lt_iff y x
  simp only [cmpR, l1, l2]
  by_cases e1 : x.num * y.den < y.num * x.den
  · simp [F5, h1, h2, e1]
  · by_cases e2 : y.num * x.den < x.num * y.den
    · simp [F5, h1, h2, e1, e2]
    · simp [F5, h1, h2, e1, e2]

theorem least_loop {k n : Nat} {S : Sto} {P' : Sto → Prop} (hP : P' S) (hn : n + n < 9000) (a : Option D) : ∀ (r : List Rat) (b : Rat) (o : Option D), Sz n b → (∀ y ∈ r, Sz n y) →
    ∃ o', forL P' (fun x ρ1 S2 => R.calm (evT (cf P (k + 1)) (.nm 2) x ρ1 S2) fun ρ2 S3 => evSs (cf P (k + 1)) (.cons (.ite (.cmp .lt (.call 5 (.cons (.var 2) (.cons (.var 1) .nil))) (.cst (.int (0)))) (.cons (.asg (.nm 1) (.var 2)) .nil) .nil) .nil) ρ2 S3) (r.map fr) [a, some (fr b), o] S =
      .nx [a, some (fr (r.foldl (fun b i => if i < b then i else b) b)), o'] S
  | [], b, o, _, _ => ⟨o, by simp [forL, hP]⟩
  | i :: r, b, o, hb, hr => by
    have hi := hr i (by simp)
    have hc := s5 (k := k) (S := S) hi hb (by omega)
    obtain ⟨o', e⟩ := least_loop (k := k) hP hn a r (if i < b then i else b) (some (fr i)) (by split <;> assumption) (fun y hy => hr y (by simp [hy]))
    refine ⟨o', ?_⟩
    by_cases l : i < b
    · simp only [if_pos l] at e
      simp [forL, hP, hc, cmpR, l]
      simpa using e
    · simp only [if_neg l] at e
      by_cases l2 : b < i
      · simp [forL, hP, hc, cmpR, l, l2]
        simpa using e
      · simp [forL, hP, hc, cmpR, l, l2]
        simpa using e
theorem s6 {n k : Nat} {S : Sto} {x : Rat} {r : List Rat} (hn : n + n < 9000) (h : ∀ y ∈ x :: r, Sz n y) : evF P (k + 2) 6 [.tup ((x :: r).map fr)] S = .ok (fr (lowR x r)) S := by
  obtain ⟨o', e⟩ := least_loop (k := k) (S := S) (P' := fun _ => True) trivial hn (some (.tup ((x :: r).map fr))) r x none (h x (by simp)) (fun y hy => h y (by simp [hy]))
  rw [evF_succ (F := F6) rfl rfl (by decide)]
  simp at e
  simp [F6, sl_from1, valI, e, lowR]

theorem great_loop {k n : Nat} {S : Sto} {P' : Sto → Prop} (hP : P' S) (hn : n + n < 9000) (a : Option D) : ∀ (r : List Rat) (b : Rat) (o : Option D), Sz n b → (∀ y ∈ r, Sz n y) →
    ∃ o', forL P' (fun x ρ1 S2 => R.calm (evT (cf P (k + 1)) (.nm 2) x ρ1 S2) fun ρ2 S3 => evSs (cf P (k + 1)) (.cons (.ite (.cmp .gt (.call 5 (.cons (.var 2) (.cons (.var 1) .nil))) (.cst (.int (0)))) (.cons (.asg (.nm 1) (.var 2)) .nil) .nil) .nil) ρ2 S3) (r.map fr) [a, some (fr b), o] S =
      .nx [a, some (fr (r.foldl (fun b i => if b < i then i else b) b)), o'] S
  | [], b, o, _, _ => ⟨o, by simp [forL, hP]⟩
  | i :: r, b, o, hb, hr => by
    have hi := hr i (by simp)
    have hc := s5 (k := k) (S := S) hi hb (by omega)
    obtain ⟨o', e⟩ := great_loop (k := k) hP hn a r (if b < i then i else b) (some (fr i)) (by split <;> assumption) (fun y hy => hr y (by simp [hy]))
    refine ⟨o', ?_⟩
    by_cases l : b < i
    · have l2 : ¬ i < b := by grind
      simp only [if_pos l] at e
      simp [forL, hP, hc, cmpR, l, l2]
      simpa using e
    · simp only [if_neg l] at e
      by_cases l2 : i < b
      · simp [forL, hP, hc, cmpR, l, l2]
        simpa using e
      · simp [forL, hP, hc, cmpR, l, l2]
        simpa using e
theorem s7 {n k : Nat} {S : Sto} {x : Rat} {r : List Rat} (hn : n + n < 9000) (h : ∀ y ∈ x :: r, Sz n y) : evF P (k + 2) 7 [.tup ((x :: r).map fr)] S = .ok (fr (highR x r)) S := by
  obtain ⟨o', e⟩ := great_loop (k := k) (S := S) (P' := fun _ => True) trivial hn (some (.tup ((x :: r).map fr))) r x none (h x (by simp)) (fun y hy => h y (by simp [hy]))
  rw [evF_succ (F := F7) rfl rfl (by decide)]
  simp at e
  simp [F7, sl_from1, valI, e, highR]

theorem s19 {m n k : Nat} {S : Sto} {v w : Rat × Rat} (hv : Vz m v) (hw : Vz n w) (h : m + n < 9000) : evF P (k + 3) 19 [vc v, vc w] S = .ok (vc (v.1 + w.1, v.2 + w.2)) S := by
  rw [evF_succ (F := F19) rfl rfl (by decide)]
  simp [F19, s1 (k := k) (S := S) hv.x hw.x h, s1 (k := k) (S := S) hv.y hw.y h, tup_vc]

theorem s30 {k : Nat} {S : Sto} {b : Box} : evF P (k + 1) 30 [bx b] S = if b.2.1 ≤ 0 ∨ b.2.2 ≤ 0 then .err 3 S else .ok .non S := by
  rw [evF_succ (F := F30) rfl rfl (by decide)]
  by_cases h1 : b.2.1 ≤ 0
  · simp [F30, num_le0, h1]
  · by_cases h2 : b.2.2 ≤ 0 <;> simp [F30, num_le0, h1, h2]

theorem s31 {k : Nat} {S : Sto} {i : Int} (h : Axi i) : evF P (k + 1) 31 [.int i] S = .ok .non S := by
  rw [evF_succ (F := F31) rfl rfl (by decide)]
  rcases h with rfl | rfl <;> simp [F31]
theorem s31e {k : Nat} {S : Sto} {i : Int} (h : ¬ Axi i) : evF P (k + 1) 31 [.int i] S = .err 2 S := by
  have h0 : ¬ i = 0 := fun e => h (.inl e)
  have h1 : ¬ i = 1 := fun e => h (.inr e)
  rw [evF_succ (F := F31) rfl rfl (by decide)]
  simp [F31, h0, h1]

theorem s32 {n k : Nat} {S : Sto} {b : Box} {i : Int} (hb : Xz n b) (hi : Axi i) (hn : n < 4000) : evF P (k + 3) 32 [bx b, .int i] S = .ok (fr (hiR b i)) S := by
  rw [evF_succ (F := F32) rfl rfl (by decide)]
  simp [F32, ix_va hi, s1 (k := k) (S := S) (hb.p.ax i) (hb.s.ax i) (by omega), hiR]

theorem s33 {n k : Nat} {S : Sto} {a b : Box} {i : Int} (ha : Xz n a) (hb : Xz n b) (hi : Axi i) (hn : n < 1250) : evF P (k + 4) 33 [bx a, bx b, .int i] S = .ok (fr (gapR a b i)) S := by
  rw [evF_succ (F := F33) rfl rfl (by decide)]
  have h1 := s32 (k := k) (S := S) ha hi (by omega)
  have h2 := s32 (k := k) (S := S) hb hi (by omega)
  have h3 := s2 (k := k + 1) (S := S) (hb.p.ax i) (ha.hi i) (by omega)
  have h4 := s2 (k := k + 1) (S := S) (ha.p.ax i) (hb.hi i) (by omega)
  have h5 := s5 (k := k + 2) (S := S) ((hb.p.ax i).sub (ha.hi i)) ((ha.p.ax i).sub (hb.hi i)) (by omega)
  by_cases c : ax a.1 i - hiR b i ≤ ax b.1 i - hiR a i
  · simp [F33, ix_va hi, h1, h2, h3, h4, h5, cmpR_ge, c, gapR]
  · simp [F33, ix_va hi, h1, h2, h3, h4, h5, cmpR_ge, c, gapR]

theorem s34 {n k : Nat} {S : Sto} {a b : Box} {i : Int} (ha : Xz n a) (hb : Xz n b) (hi : Axi i) (hn : n < 1250) (a1 : 0 < a.2.1) (a2 : 0 < a.2.2) (b1 : 0 < b.2.1) (b2 : 0 < b.2.2) : evF P (k + 5) 34 [bx a, bx b, .int i] S = .ok (fr (gapR a b i)) S := by
  have hc1 := s30 (k := k + 3) (S := S) (b := a)
  rw [if_neg (by grind)] at hc1
  have hc2 := s30 (k := k + 3) (S := S) (b := b)
  rw [if_neg (by grind)] at hc2
  rw [evF_succ (F := F34) rfl rfl (by decide)]
  simp [F34, hc1, hc2, s31 (k := k + 3) (S := S) hi, s33 (k := k) (S := S) ha hb hi hn]

theorem s35 {n k : Nat} {S : Sto} {a b : Box} (ha : Xz n a) (hb : Xz n b) (hn : n < 1250) : evF P (k + 5) 35 [bx a, bx b] S = .ok (.bl (decide (gapR a b 0 < 0 ∧ gapR a b 1 < 0))) S := by
  rw [evF_succ (F := F35) rfl rfl (by decide)]
  by_cases c : gapR a b 0 < 0 <;> simp [F35, s33 (k := k) (S := S) ha hb (.inl rfl) hn, s33 (k := k) (S := S) ha hb (.inr rfl) hn, num_lt0, c]

theorem s36 {n k : Nat} {S : Sto} {a b : Box} (ha : Xz n a) (hb : Xz n b) (hn : n < 1250) (a1 : 0 < a.2.1) (a2 : 0 < a.2.2) (b1 : 0 < b.2.1) (b2 : 0 < b.2.2) : evF P (k + 6) 36 [bx a, bx b] S = .ok (.bl (decide (gapR a b 0 < 0 ∧ gapR a b 1 < 0))) S := by
  have hc1 := s30 (k := k + 4) (S := S) (b := a)
  rw [if_neg (by grind)] at hc1
  have hc2 := s30 (k := k + 4) (S := S) (b := b)
  rw [if_neg (by grind)] at hc2
  rw [evF_succ (F := F36) rfl rfl (by decide)]
  simp [F36, hc1, hc2, s35 (k := k) (S := S) ha hb hn]

theorem s37 {n k : Nat} {S : Sto} {a b : Box} (ha : Xz n a) (hb : Xz n b) (hn : n < 1250) : evF P (k + 5) 37 [bx a, bx b] S = .ok (.bl (decide (gapR a b 0 ≤ 0 ∧ gapR a b 1 ≤ 0))) S := by
  have e0 := s33 (k := k) (S := S) ha hb (.inl rfl) hn
  have e1 := s33 (k := k) (S := S) ha hb (.inr rfl) hn
  rw [evF_succ (F := F37) rfl rfl (by decide)]
  simp [F37, e0, e1, num_le0, ite_and]

theorem s38 {n k : Nat} {S : Sto} {a b : Box} (ha : Xz n a) (hb : Xz n b) (hn : n < 1250) (a1 : 0 < a.2.1) (a2 : 0 < a.2.2) (b1 : 0 < b.2.1) (b2 : 0 < b.2.2) : evF P (k + 6) 38 [bx a, bx b] S = .ok (.bl (decide (gapR a b 0 ≤ 0 ∧ gapR a b 1 ≤ 0))) S := by
  have hc1 := s30 (k := k + 4) (S := S) (b := a)
  rw [if_neg (by grind)] at hc1
  have hc2 := s30 (k := k + 4) (S := S) (b := b)
  rw [if_neg (by grind)] at hc2
  rw [evF_succ (F := F38) rfl rfl (by decide)]
  simp [F38, hc1, hc2, s37 (k := k) (S := S) ha hb hn]

def strR (a b : Box) (i : Int) : Option (Rat × Rat) := if gapR a b i ≠ 0 ∨ 0 < gapR a b (1 - i) then none else some (maxR (ax a.1 (1 - i)) (ax b.1 (1 - i)), minR (hiR a (1 - i)) (hiR b (1 - i)))
def strD : Option (Rat × Rat) → D | none => .non | some p => .tup [fr p.1, fr p.2]
def conE (a b : Body) (i : Int) : List D := match strR a.box b.box i with
  | none => []
  | some p => if 0 < a.mass ∨ 0 < b.mass then [.tup [.int a.name, .int b.name, .int i, fr p.1, fr p.2]] else []
def conP (bs : List Body) (i j : Nat) : List D := match bs[i]?, bs[j]? with
  | some a, some b => conE a b 0 ++ conE a b 1
  | _, _ => []
/-- what a pair gives, over all pairs before (i, j) of n -/
def gtJ (g : Nat → Nat → List D) (i j : Nat) : List D := (List.range (j - (i + 1))).flatMap fun d => g i (i + 1 + d)
def gtI (g : Nat → Nat → List D) (n i : Nat) : List D := (List.range i).flatMap fun i' => gtJ g i' n
def gtA (g : Nat → Nat → List D) (n i j : Nat) : List D := gtI g n i ++ gtJ g i j
theorem gtA_step {g : Nat → Nat → List D} {n i j : Nat} (h : i < j) : gtA g n i (j + 1) = gtA g n i j ++ g i j := by
  unfold gtA gtJ
  rw [show j + 1 - (i + 1) = (j - (i + 1)) + 1 by omega, List.range_succ, List.flatMap_append, List.append_assoc]
  congr 2
  simp [show i + 1 + (j - (i + 1)) = j by omega]
theorem gtA_enter {g : Nat → Nat → List D} {n i : Nat} : gtA g n i (i + 1) = gtI g n i := by unfold gtA gtJ; simp
theorem gtA_leave {g : Nat → Nat → List D} {n i : Nat} : gtA g n i n = gtI g n (i + 1) := by
  unfold gtA gtI
  rw [List.range_succ, List.flatMap_append]; simp
theorem conE_len {a b : Body} {i : Int} : (conE a b i).length ≤ 1 := by
  unfold conE; split
  · simp
  · split <;> simp
theorem conP_some {bs : List Body} {i j : Nat} (hi : i < bs.length) (hj : j < bs.length) : conP bs i j = conE bs[i] bs[j] 0 ++ conE bs[i] bs[j] 1 := by
  unfold conP
  rw [List.getElem?_eq_getElem hi, List.getElem?_eq_getElem hj]
theorem axi_other {i : Int} (h : Axi i) : Axi (1 - i) := by
  rcases h with rfl | rfl
  · exact .inr rfl
  · exact .inl rfl
/-- sums over the bodies -/
def mR (b : Body) : Rat := Rat.divInt b.mass 1
theorem mR_fr {b : Body} : D.tup [.int b.mass, .int 1] = fr (mR b) := by
  unfold mR
  rw [fr_pos (by decide : (0 : Int) < 1)]; simp
theorem mR_sz {b : Body} (h : 0 ≤ b.mass ∧ b.mass ≤ 1000) : Sz 10 (mR b) := divInt_sz (Bz.of 10 (k := 1000) (by omega) (by decide)) ⟨by decide⟩ (by omega)
def momR (bs : List Body) : Rat × Rat := bs.foldl (fun r b => (r.1 + b.speed.1 * mR b, r.2 + b.speed.2 * mR b)) (0, 0)
def enR (bs : List Body) : Rat := bs.foldl (fun r b => r + mR b * (b.speed.1 * b.speed.1 + b.speed.2 * b.speed.2)) 0
theorem momR_take {bs : List Body} {i : Nat} (h : i < bs.length) : momR (bs.take (i + 1)) = ((momR (bs.take i)).1 + bs[i].speed.1 * mR bs[i], (momR (bs.take i)).2 + bs[i].speed.2 * mR bs[i]) := by
  unfold momR
  rw [List.take_add_one, List.foldl_append, List.getElem?_eq_getElem h]; rfl
theorem enR_take {bs : List Body} {i : Nat} (h : i < bs.length) : enR (bs.take (i + 1)) = enR (bs.take i) + mR bs[i] * (bs[i].speed.1 * bs[i].speed.1 + bs[i].speed.2 * bs[i].speed.2) := by
  unfold enR
  rw [List.take_add_one, List.foldl_append, List.getElem?_eq_getElem h]; rfl
theorem momR_sz {n : Nat} {bs : List Body} (hz : ∀ b ∈ bs, Vz n b.speed) (hm : ∀ b ∈ bs, 0 ≤ b.mass ∧ b.mass ≤ 1000) : ∀ i, i ≤ bs.length → Vz ((n + 11) * i + 1) (momR (bs.take i))
  | 0, _ => by
    have z : Vz 1 ((0 : Rat), (0 : Rat)) := ⟨⟨⟨by decide⟩, ⟨by decide⟩⟩, ⟨⟨by decide⟩, ⟨by decide⟩⟩⟩
    exact z.mono (by omega)
  | i + 1, h => by
    have ih := momR_sz hz hm i (by omega)
    have mb := List.getElem_mem (show i < bs.length by omega)
    have zv := hz _ mb
    have zm := mR_sz (hm _ mb)
    rw [momR_take (by omega)]
    have e : (n + 11) * (i + 1) + 1 = ((n + 11) * i + 1) + (n + 10) + 1 := by rw [Nat.mul_add]; omega
    rw [e]
    exact ⟨ih.x.add (zv.x.mul zm), ih.y.add (zv.y.mul zm)⟩
theorem enR_sz {n : Nat} {bs : List Body} (hz : ∀ b ∈ bs, Vz n b.speed) (hm : ∀ b ∈ bs, 0 ≤ b.mass ∧ b.mass ≤ 1000) : ∀ i, i ≤ bs.length → Sz ((4 * n + 12) * i + 1) (enR (bs.take i))
  | 0, _ => by
    have z : Sz 1 (0 : Rat) := ⟨⟨by decide⟩, ⟨by decide⟩⟩
    exact z.mono (by omega)
  | i + 1, h => by
    have ih := enR_sz hz hm i (by omega)
    have mb := List.getElem_mem (show i < bs.length by omega)
    have zv := hz _ mb
    have zm := mR_sz (hm _ mb)
    rw [enR_take (by omega)]
    have e : (4 * n + 12) * (i + 1) + 1 = ((4 * n + 12) * i + 1) + (10 + ((n + n) + (n + n) + 1)) + 1 := by rw [Nat.mul_add]; omega
    rw [e]
    exact ih.add (zm.mul ((zv.x.mul zv.x).add (zv.y.mul zv.y)))

abbrev Q39_0 : SB.St := .asg (.nm 3) (.bin .sub (.cst (.int (1))) (.var 2))
abbrev Q39_1 : SB.St := .ite (.or (.cmp .ne (.call 33 (.cons (.var 0) (.cons (.var 1) (.cons (.var 2) .nil)))) (.cst (.tup [(.int (0)), (.int (1))]))) (.cmp .gt (.ix (.call 33 (.cons (.var 0) (.cons (.var 1) (.cons (.var 3) .nil)))) (.cst (.int (0)))) (.cst (.int (0))))) (.cons (.ret (.cst .non)) .nil) .nil
abbrev Q39_2 : SB.St := .asg (.nm 4) (.call 7 (.cons (.tup (.cons (.ix (.ix (.var 0) (.cst (.int (0)))) (.var 3)) (.cons (.ix (.ix (.var 1) (.cst (.int (0)))) (.var 3)) .nil))) .nil))
abbrev Q39_3 : SB.St := .ret (.tup (.cons (.var 4) (.cons (.call 6 (.cons (.tup (.cons (.call 32 (.cons (.var 0) (.cons (.var 3) .nil))) (.cons (.call 32 (.cons (.var 1) (.cons (.var 3) .nil))) .nil))) .nil)) .nil)))
theorem body39 : F39.body = (.cons Q39_0 (.cons Q39_1 (.cons Q39_2 (.cons Q39_3 .nil)))) := rfl
--PARTS
--NEED x_con
theorem s39 {k n : Nat} {S : Sto} {a b : Box} {i : Int} (ha : Xz n a) (hb : Xz n b) (hi : Axi i) (hn : n < 1250) : evF P (k + 5) 39 [bx a, bx b, .int i] S = .ok (strD (strR a b i)) S := by
  have h0 := s33 (k := k) (S := S) ha hb hi (by omega)
  have h1 := s33 (k := k) (S := S) ha hb (axi_other hi) (by omega)
  have y0 : D.tup [.int 0, .int 1] = fr 0 := rfl
  have k1 := s6 (k := k + 2) (S := S) (x := hiR a (1 - i)) (r := [hiR b (1 - i)]) (n := n + n + 1) (by omega) (fun z hz => by
    simp at hz
    rcases hz with rfl | rfl
    · exact ha.hi _
    · exact hb.hi _)
  have k2 := s7 (k := k + 2) (S := S) (x := ax a.1 (1 - i)) (r := [ax b.1 (1 - i)]) (n := n) (by omega) (fun z hz => by
    simp at hz
    rcases hz with rfl | rfl
    · exact ha.p.ax _
    · exact hb.p.ax _)
  have k1 : evF P (k + 4) 6 [.tup [fr (hiR a (1 - i)), fr (hiR b (1 - i))]] S = .ok (fr (minR (hiR a (1 - i)) (hiR b (1 - i)))) S := k1
  have k2 : evF P (k + 4) 7 [.tup [fr (ax a.1 (1 - i)), fr (ax b.1 (1 - i))]] S = .ok (fr (maxR (ax a.1 (1 - i)) (ax b.1 (1 - i)))) S := k2
  have e1 := s32 (k := k + 1) (S := S) ha (axi_other hi) (by omega)
  have e2 := s32 (k := k + 1) (S := S) hb (axi_other hi) (by omega)
  rw [evF_succ (F := F39) rfl rfl (by decide)]
  by_cases c1 : gapR a b i = 0
  · by_cases c2 : 0 < gapR a b (1 - i)
    · simp [F39, h0, y0, c1, h1, num_gt0, c2, strR, strD]
    · simp [F39, h0, y0, c1, h1, num_gt0, c2, strR, strD, ix_va (axi_other hi), k1, k2, e1, e2]
  · simp [F39, h0, y0, c1, strR, strD]

theorem s40 {n k : Nat} {S : Sto} {a b : Box} {i : Int} (ha : Xz n a) (hb : Xz n b) (hi : Axi i) (hn : n < 1250) (a1 : 0 < a.2.1) (a2 : 0 < a.2.2) (b1 : 0 < b.2.1) (b2 : 0 < b.2.2) : evF P (k + 6) 40 [bx a, bx b, .int i] S = .ok (strD (strR a b i)) S := by
  have hc1 := s30 (k := k + 4) (S := S) (b := a)
  rw [if_neg (by grind)] at hc1
  have hc2 := s30 (k := k + 4) (S := S) (b := b)
  rw [if_neg (by grind)] at hc2
  rw [evF_succ (F := F40) rfl rfl (by decide)]
  simp [F40, hc1, hc2, s31 (k := k + 4) (S := S) hi, s39 (k := k) (S := S) ha hb hi hn]

theorem s41 {n k : Nat} {S : Sto} {a : Box} {v : Rat × Rat} (ha : Xz n a) (hv : Vz n v) (hn : n < 1250) (a1 : 0 < a.2.1) (a2 : 0 < a.2.2) : evF P (k + 4) 41 [bx a, vc v] S = .ok (bx ((a.1.1 + v.1, a.1.2 + v.2), a.2)) S := by
  have hc1 := s30 (k := k + 2) (S := S) (b := a)
  rw [if_neg (by grind)] at hc1
  rw [evF_succ (F := F41) rfl rfl (by decide)]
  simp [F41, hc1, s19 (k := k) (S := S) ha.p hv (by omega), tup_bx]

def hullR (a b : Box) : Box := ((minR a.1.1 b.1.1, minR a.1.2 b.1.2), (maxR (hiR a 0) (hiR b 0) - minR a.1.1 b.1.1, maxR (hiR a 1) (hiR b 1) - minR a.1.2 b.1.2))
theorem hull_sz {n : Nat} {a b : Box} (ha : Xz n a) (hb : Xz n b) : Xz (3 * n + 2) (hullR a b) :=
  ⟨⟨(min_sz ha.p.x hb.p.x).mono (by omega), (min_sz ha.p.y hb.p.y).mono (by omega)⟩, ⟨((max_sz (ha.hi 0) (hb.hi 0)).sub (min_sz ha.p.x hb.p.x)).mono (by omega), ((max_sz (ha.hi 1) (hb.hi 1)).sub (min_sz ha.p.y hb.p.y)).mono (by omega)⟩⟩
theorem s42 {n k : Nat} {S : Sto} {a b : Box} (ha : Xz n a) (hb : Xz n b) (hn : n < 1250) (a1 : 0 < a.2.1) (a2 : 0 < a.2.2) (b1 : 0 < b.2.1) (b2 : 0 < b.2.2) : evF P (k + 4) 42 [bx a, bx b] S = .ok (bx (hullR a b)) S := by
  have hc1 := s30 (k := k + 2) (S := S) (b := a)
  rw [if_neg (by grind)] at hc1
  have hc2 := s30 (k := k + 2) (S := S) (b := b)
  rw [if_neg (by grind)] at hc2
  have k1 : ∀ m x y, m < 4000 → Sz m x → Sz m y → evF P (k + 3) 6 [.tup [fr x, fr y]] S = .ok (fr (minR x y)) S := fun m x y hm hx hy => s6 (k := k + 1) (S := S) (x := x) (r := [y]) (n := m) (by omega) (fun z hz => by
    simp at hz
    rcases hz with rfl | rfl <;> assumption)
  have k2 : ∀ m x y, m < 4000 → Sz m x → Sz m y → evF P (k + 3) 7 [.tup [fr x, fr y]] S = .ok (fr (maxR x y)) S := fun m x y hm hx hy => s7 (k := k + 1) (S := S) (x := x) (r := [y]) (n := m) (by omega) (fun z hz => by
    simp at hz
    rcases hz with rfl | rfl <;> assumption)
  have e1 := s32 (k := k) (S := S) ha (.inl rfl) (by omega)
  have e2 := s32 (k := k) (S := S) hb (.inl rfl) (by omega)
  have e3 := s32 (k := k) (S := S) ha (.inr rfl) (by omega)
  have e4 := s32 (k := k) (S := S) hb (.inr rfl) (by omega)
  have g1 := k1 n a.1.1 b.1.1 (by omega) ha.p.x hb.p.x
  have g2 := k1 n a.1.2 b.1.2 (by omega) ha.p.y hb.p.y
  have g3 := k2 _ _ _ (by omega) (ha.hi 0) (hb.hi 0)
  have g4 := k2 _ _ _ (by omega) (ha.hi 1) (hb.hi 1)
  have f1 := s2 (k := k + 1) (S := S) (max_sz (ha.hi 0) (hb.hi 0)) (min_sz ha.p.x hb.p.x) (by omega)
  have f2 := s2 (k := k + 1) (S := S) (max_sz (ha.hi 1) (hb.hi 1)) (min_sz ha.p.y hb.p.y) (by omega)
  rw [evF_succ (F := F42) rfl rfl (by decide)]
  simp [F42, hc1, hc2, e1, e2, e3, e4, g1, g2, g3, g4, f1, f2]
  rfl

/-- the drawing list: begin -/
theorem beg_loop {k : Nat} {S : Sto} {c : Cfg} : ∀ (ns : List Int) (seed : Int) (a o : Option D), 0 ≤ seed → seed < 2147483647 → ∃ seed' o', 0 ≤ seed' ∧ seed' < 2147483647 ∧
    forL (fun _ => True) (fun x ρ1 S2 => R.calm (evT c (.nm 2) x ρ1 S2) fun ρ2 S3 => evSs c (.cons (.asg (.nm 1) (.bin .mod (.bin .add (.bin .add (.bin .mul (.var 1) (.cst (.int 69621))) (.bin .mod (.bi .int (.cons (.var 2) .nil)) (.cst (.int 2147483629)))) (.cst (.int 7))) (.cst (.int 2147483647)))) .nil) ρ2 S3)
      (ns.map .int) [a, some (.int seed), o] S = .nx [a, some (.int seed'), o'] S
  | [], seed, a, o, h0, h1 => ⟨seed, o, h0, h1, by simp [forL]⟩
  | i :: ns, seed, a, o, h0, h1 => by
    have m5 : bop .mul (.int seed) (.int 69621) S = .ok (.int (seed * 69621)) S := bop_mul ((Bz.of 40 (k := 2147483647) (by omega) (by decide)).mulOk (n := 20) ⟨by decide⟩ (by decide))
    have m3 : ∀ x, bop .mod (.int x) (.int 2147483647) S = .ok (.int (x % 2147483647)) S := fun x => bop_mod (by decide)
    have m4 : ∀ x, bop .mod (.int x) (.int 2147483629) S = .ok (.int (x % 2147483629)) S := fun x => bop_mod (by decide)
    obtain ⟨s', o', a1, a2, e⟩ := beg_loop (k := k) (S := S) (c := c) ns ((seed * 69621 + i % 2147483629 + 7) % 2147483647) a (some (.int i)) (by omega) (by omega)
    refine ⟨s', o', a1, a2, ?_⟩
    simp [forL, m5, m3, m4]
    simpa using e
theorem s8 {k : Nat} (ns : List Int) : ∃ seed, 0 ≤ seed ∧ seed < 2147483647 ∧ evF P (k + 1) 8 [.fzl (ns.map .int)] [] = .ok (.ref 1) [.lst (ns.map .int), q4 (.ref 0) (.int 0) (.int 0) (.int seed)] := by
  obtain ⟨seed, o', a1, a2, e⟩ := beg_loop (k := k) (S := []) (c := (cf P k)) ns 1 (some (.fzl (ns.map .int))) none (by omega) (by omega)
  refine ⟨seed, a1, a2, ?_⟩
  rw [evF_succ (F := F8) rfl rfl (by decide)]
  simp [F8, valI]
  simp at e
  simp [e, copyD, itemsOf, tidy_ref]

theorem s9 {n k m : Nat} {S : Sto} {many : Int} (hd : Dr S m) (h0 : 0 < many) (hm : Bz n many) (hn : n < 9000) : ∃ v S', evF P (k + 1) 9 [.ref m, .int many] S = .ok (.int v) S' ∧ 0 ≤ v ∧ v < many ∧ Dr S' m ∧ Ex m S S' := by
  obtain ⟨j, cells, pos, num, seed, p0, n0, s0, s1, g1, g2, hj0⟩ := hd.ex
  have hj : j ≠ m := Nat.ne_of_lt hj0
  have hl : m < S.length := (List.getElem?_eq_some_iff.mp g1).1
  have e0 : S = S.set m (q4 (.ref j) (.int pos) (.int num) (.int seed)) := by
    apply List.ext_getElem?; intro i
    by_cases e : i = m
    · rw [e, g1]; simp [hl]
    · rw [List.getElem?_set_ne (Ne.symm e)]
  have fin1 : ∀ (v p q r : Int), 0 ≤ p → 0 ≤ q → 0 ≤ r → r < 2147483647 → 0 ≤ v → v < many → ∃ w S', R.ok (D.int v) (S.set m (q4 (.ref j) (.int p) (.int q) (.int r))) = R.ok (.int w) S' ∧ 0 ≤ w ∧ w < many ∧ Dr S' m ∧ Ex m S S' := fun v p q r a b c d e f =>
    ⟨v, _, rfl, e, f, ⟨j, cells, p, q, r, a, b, c, d, q_get hl, by rw [q_other hj]; exact g2, hj0⟩, .set⟩
  have gj : ∀ a b c d, (S.set m (q4 a b c d))[j]? = some (.lst (cells.map .int)) := fun a b c d => by rw [q_other hj]; exact g2
  have gl : ∀ a b c d, biD .len [.ref j] (S.set m (q4 a b c d)) = .ok (.int (cells.map D.int).length) (S.set m (q4 a b c d)) := fun a b c d => len_ref (gj a b c d)
  have hp : ∀ S, bop .pow (.int 10) (.int 18) S = .ok (.int (10 ^ 18)) S := fun S => bop_pow (by decide)
  have md : ∀ x : Int, 0 ≤ x % many ∧ x % many < many := fun x => ⟨Int.emod_nonneg _ (by omega), Int.emod_lt_of_pos _ h0⟩
  have m1 : ∀ x S, bop .mod (.int x) (.int many) S = .ok (.int (x % many)) S := fun x S => bop_mod h0
  have m2 : ∀ x S, bop .fdiv (.int x) (.int many) S = .ok (.int (x / many)) S := fun x S => bop_div h0 hm hn
  have m3 : ∀ x S, bop .mod (.int x) (.int 2147483647) S = .ok (.int (x % 2147483647)) S := fun x S => bop_mod (by decide)
  have m4 : ∀ x S, bop .fdiv (.int x) (.int 3) S = .ok (.int (x / 3)) S := fun x S => bop_div (by decide) (n := 2) ⟨by decide⟩ (by decide)
  have m5 : ∀ S, bop .mul (.int seed) (.int 48271) S = .ok (.int (seed * 48271)) S := fun S => bop_mul ((Bz.of 40 (k := 2147483647) (by omega) (by decide)).mulOk (n := 20) ⟨by decide⟩ (by decide))
  suffices h : ∃ v p q r, evF P (k + 1) 9 [.ref m, .int many] (S.set m (q4 (.ref j) (.int pos) (.int num) (.int seed))) = .ok (.int v) (S.set m (q4 (.ref j) (.int p) (.int q) (.int r))) ∧ 0 ≤ p ∧ 0 ≤ q ∧ 0 ≤ r ∧ r < 2147483647 ∧ 0 ≤ v ∧ v < many by
    obtain ⟨v, p, q, r, h, a1, a2, a3, a4, a5, a6⟩ := h
    rw [← e0] at h
    exact ⟨v, _, h, a5, a6, ⟨j, cells, p, q, r, a1, a2, a3, a4, q_get hl, gj _ _ _ _, hj0⟩, .set⟩
  rw [evF_succ (F := F9) rfl rfl (by decide)]
  by_cases c1 : num = 0
  · by_cases c2 : pos < cells.length
    · have hat : ∃ c, atI (cells.map D.int) pos = some (.int c) := by
        rw [atI_nn p0]
        have : pos.toNat < cells.length := by omega
        exact ⟨cells[pos.toNat], by simp [this]⟩
      obtain ⟨c, hc⟩ := hat
      have ic : ∀ a b c' d, ixD (.ref j) (.int pos) (S.set m (q4 a b c' d)) = .ok (.int c) (S.set m (q4 a b c' d)) := fun a b c' d => ix_ref (gj a b c' d) hc
      have hab : 0 ≤ (if c < 0 then -c else c) := by split <;> omega
      generalize hcc : (if c < 0 then -c else c) = cc at hab
      by_cases c3 : cc < 1000000000000000000
      · refine ⟨cc % many, pos + 1, 0, seed, ?_, by omega, by omega, s0, s1, md _⟩
        simp [F9, q_i0 hl, q_i1 hl, q_i2 hl, q_i3 hl, q_s1 hl, q_s2 hl, q_s3 hl, gl, ic, hp, m1, c1, c2, hcc, c3, tidy_set2]
      · refine ⟨cc % many, pos + 1, cc / many, seed, ?_, by omega, Int.ediv_nonneg hab (by omega), s0, s1, md _⟩
        have c4 : 0 < cc := by omega
        simp [F9, q_i0 hl, q_i1 hl, q_i2 hl, q_i3 hl, q_s1 hl, q_s2 hl, q_s3 hl, gl, ic, hp, m1, m2, c1, c2, hcc, c3, c4, tidy_set2]
    · refine ⟨((seed * 48271 + 11) % 2147483647) / 3 % many, pos, 0, (seed * 48271 + 11) % 2147483647, ?_, by omega, by omega, by omega, by omega, md _⟩
      simp [F9, q_i0 hl, q_i1 hl, q_i2 hl, q_i3 hl, q_s1 hl, q_s2 hl, q_s3 hl, gl, hp, m1, m3, m4, m5, c1, c2, tidy_set2]
  · have c4 : 0 < num := by omega
    refine ⟨num % many, pos, num / many, seed, ?_, by omega, Int.ediv_nonneg n0 (by omega), s0, s1, md _⟩
    simp [F9, q_i0 hl, q_i1 hl, q_i2 hl, q_i3 hl, q_s1 hl, q_s2 hl, q_s3 hl, gl, hp, m1, m2, c1, c4, tidy_set2]

theorem s10 {n k m : Nat} {S : Sto} {most : Int} (hd : Dr S m) (h0 : 0 ≤ most) (hm : Bz n most) (hn : n < 8900) : ∃ v S', evF P (k + 2) 10 [.ref m, .int most] S = .ok (.int v) S' ∧ -most ≤ v ∧ v ≤ most ∧ Dr S' m ∧ Ex m S S' := by
  have h2 : bop .mul (.int 2) (.int most) S = .ok (.int (2 * most)) S := bop_mul ((Bz.of 2 (i := 2) (k := 2) (by decide) (by decide)).mulOk hm (by omega))
  have hb : Bz (n + 3) (2 * most + 1) := ⟨by
    have := hm.lt
    have e : 2 ^ (n + 3) = 2 ^ n * 8 := by rw [Nat.pow_add]
    rw [e]; omega⟩
  obtain ⟨v, S', e, a1, a2, a3, a4⟩ := s9 (k := k) hd (show 0 < 2 * most + 1 by omega) hb (by omega)
  refine ⟨v - most, S', ?_, by omega, by omega, a3, a4⟩
  rw [evF_succ (F := F10) rfl rfl (by decide)]
  simp [F10, h2, e, tidy_ex a4]

/-- the law's own greatest common divisor -/
theorem gcd_loop {c : Cfg} {S : Sto} : ∀ (n w b a : Nat), b < 2 ^ n → 2 * n < w →
    whileN (fun ρ1 S1 => (evE c (.cmp .ne (.var 1) (.cst (.int 0))) ρ1 S1).bind toB) (fun ρ1 S1 => evSs c (.cons (.par 0 1 (.var 1) (.bin .mod (.bi .int (.cons (.var 0) .nil)) (.var 1))) .nil) ρ1 S1) w [some (.int a), some (.int b)] S
      = .nx [some (.int (Nat.gcd a b : Nat)), some (.int 0)] S
  | 0, w, b, a, hb, hw => by
    obtain rfl : b = 0 := by omega
    obtain ⟨w, rfl⟩ : ∃ v, w = v + 1 := ⟨w - 1, by omega⟩
    simp [whileN]
  | n + 1, w, b, a, hb, hw => by
    obtain ⟨w, rfl⟩ : ∃ v, w = v + 2 := ⟨w - 2, by omega⟩
    by_cases h0 : b = 0
    · subst h0; simp [whileN]
    · have m1 : bop .mod (.int a) (.int b) S = .ok (.int ((a % b : Nat) : Int)) S := by rw [bop_mod (by omega)]; simp
      have gg : ∀ x y : Nat, Nat.gcd y (x % y) = Nat.gcd x y := fun x y => by rw [Nat.gcd_comm, ← Nat.gcd_rec, Nat.gcd_comm]
      by_cases h1 : a % b = 0
      · have e : Nat.gcd a b = b := by rw [← gg a b, h1, Nat.gcd_zero_right]
        rw [h1] at m1
        simp [whileN, h0, m1, e]
      · have hr : a % b < b := Nat.mod_lt _ (by omega)
        have m2 : bop .mod (.int b) (.int ((a % b : Nat) : Int)) S = .ok (.int ((b % (a % b) : Nat) : Int)) S := by rw [bop_mod (by omega)]; simp
        have hb2 : b % (a % b) < 2 ^ n := by
          have l1 : b % (a % b) < a % b := Nat.mod_lt _ (by omega)
          have l2 := Nat.div_add_mod b (a % b)
          have l3 : 1 ≤ b / (a % b) := Nat.div_pos (by omega) (by omega)
          have l4 : a % b ≤ a % b * (b / (a % b)) := Nat.le_mul_of_pos_right _ l3
          rw [Nat.pow_succ] at hb
          omega
        have ih := gcd_loop (c := c) (S := S) n w (b % (a % b)) (a % b) hb2 (by omega)
        rw [gg b (a % b), gg a b] at ih
        generalize hr2 : a % b = r at *
        rw [← ih, whileN_t (S1 := S) (ρ' := [some (.int b), some (.int r)]) (S' := S) (by simp [h0]) (by simp [m1]),
          whileN_t (S1 := S) (ρ' := [some (.int r), some (.int ((b % r : Nat) : Int))]) (S' := S) (by simp [h1]) (by simp [m2])]
theorem s12 {n k : Nat} {S : Sto} {a b : Nat} (hb : Bz n (b : Int)) (hn : n < 9000) : evF P (k + 1) 12 [.int a, .int b] S = .ok (.int (Nat.gcd a b : Nat)) S := by
  have h := gcd_loop (c := (cf P k)) (S := S) n P.w b a (by simpa using hb.lt) (Nat.lt_of_lt_of_le (show 2 * n < 1000000 by omega) (by decide))
  rw [evF_succ (F := F12) rfl rfl (by decide)]
  simp at h
  have hz : ¬ ((a.gcd b : Nat) : Int) < 0 := by omega
  simp [F12, h, hz]

theorem s23 {n k : Nat} {S : Sto} {p q : Int} (hq : Bz n q) (h0 : q ≠ 0) (hn : n < 9000) : evF P (k + 2) 23 [.int p, .int q] S = .ok (fr (Rat.divInt p q)) S := by
  rw [evF_succ (F := F23) rfl rfl (by decide)]
  have core : ∀ (a b : Int), Bz n b → 0 < b → ∃ g : Int, 0 < g ∧ Bz n g ∧ g = (Nat.gcd a.natAbs b.natAbs : Nat) := fun a b hb h => by
    have h1 : 0 < Nat.gcd a.natAbs b.natAbs := Nat.gcd_pos_of_pos_right _ (by omega)
    exact ⟨_, by omega, hb.le (by
      have := Nat.gcd_le_right a.natAbs (show 0 < b.natAbs by omega)
      simpa using this), rfl⟩
  have ab : ∀ a : Int, (if a < 0 then -a else a) = (a.natAbs : Int) := fun a => by split <;> omega
  by_cases h1 : q < 0
  · obtain ⟨g, g1, g2, e⟩ := core (-p) (-q) hq.neg (by omega)
    have e3 : Rat.divInt p q = Rat.divInt (-p) (-q) := (Rat.neg_divInt_neg p q).symm
    have hc := s12 (k := k) (S := S) (a := (-p).natAbs) (b := (-q).natAbs) (n := n) ⟨by simpa using hq.lt⟩ hn
    rw [← e] at hc
    have e5 : ((-q).natAbs : Int) = -q := by omega
    rw [e5] at hc
    rw [e3, fr_pos (show 0 < -q by omega), ← e]
    have e4 : ∀ x : Int, 0 - x = -x := fun x => by omega
    simp only [Int.natAbs_neg] at hc
    have ab2 : (if 0 < p then p else -p) = (p.natAbs : Int) := by split <;> omega
    simp [F23, h1, ab, ab2, e4, hc, bop_div g1 g2 hn]
  · obtain ⟨g, g1, g2, e⟩ := core p q hq (by omega)
    have hc := s12 (k := k) (S := S) (a := p.natAbs) (b := q.natAbs) (n := n) ⟨by simpa using hq.lt⟩ hn
    have e5 : (q.natAbs : Int) = q := by omega
    rw [← e, e5] at hc
    rw [fr_pos (show 0 < q by omega), ← e]
    simp [F23, h1, ab, hc, bop_div g1 g2 hn]

theorem s24 {m n k : Nat} {S : Sto} {x y : Rat} (hx : Sz m x) (hy : Sz n y) (h : m + n < 9000) : evF P (k + 3) 24 [fr x, fr y] S = .ok (fr (x + y)) S := by
  rw [evF_succ (F := F24) rfl rfl (by decide)]
  have h1 := bop_mul (S := S) (hx.num.mulOk hy.den (by omega))
  have h2 := bop_mul (S := S) (hy.num.mulOk hx.den (by omega))
  have h3 := bop_mul (S := S) (hx.den.mulOk hy.den (by omega))
  have hc := s23 (k := k) (S := S) (p := x.num * y.den + y.num * x.den) (hx.den.mul hy.den) (Int.mul_ne_zero den_ne den_ne) h
  rw [← add_divInt] at hc
  simp [F24, h1, h2, h3, hc]

theorem s25 {m n k : Nat} {S : Sto} {x y : Rat} (hx : Sz m x) (hy : Sz n y) (h : m + n < 9000) : evF P (k + 3) 25 [fr x, fr y] S = .ok (fr (x - y)) S := by
  rw [evF_succ (F := F25) rfl rfl (by decide)]
  have h1 := bop_mul (S := S) (hx.num.mulOk hy.den (by omega))
  have h2 := bop_mul (S := S) (hy.num.mulOk hx.den (by omega))
  have h3 := bop_mul (S := S) (hx.den.mulOk hy.den (by omega))
  have hc := s23 (k := k) (S := S) (p := x.num * y.den - y.num * x.den) (hx.den.mul hy.den) (Int.mul_ne_zero den_ne den_ne) h
  rw [← sub_divInt] at hc
  simp [F25, h1, h2, h3, hc]

theorem s13 {m n k : Nat} {S : Sto} {x y : Rat} (hx : Sz m x) (hy : Sz n y) (h : m + n < 900000) : evF P (k + 1) 13 [fr x, fr y] S = .ok (.bl (decide (x < y))) S := by
  rw [evF_succ (F := F13) rfl rfl (by decide)]
  have h1 := bop_mul (S := S) (hx.num.mulOk hy.den (by omega))
  have h2 := bop_mul (S := S) (hy.num.mulOk hx.den (by omega))
  simp [F13, h1, h2, Rat.lt_iff]

theorem s43 {m n k : Nat} {S : Sto} {x y : Rat} (hx : Sz m x) (hy : Sz n y) (h : m + n < 9000) : evF P (k + 2) 43 [fr x, fr y] S = .ok (fr (minR x y)) S := by
  have e := s13 (k := k) (S := S) hy hx (by omega)
  rw [evF_succ (F := F43) rfl rfl (by decide)]
  by_cases c : y < x
  · simp [F43, e, c, minR]
  · simp [F43, e, c, minR]

theorem s44 {m n k : Nat} {S : Sto} {x y : Rat} (hx : Sz m x) (hy : Sz n y) (h : m + n < 9000) : evF P (k + 2) 44 [fr x, fr y] S = .ok (fr (if x < y then y else x)) S := by
  rw [evF_succ (F := F44) rfl rfl (by decide)]
  by_cases c : x < y <;> simp [F44, s13 (k := k) (S := S) hx hy (by omega), c]

theorem s27 {n k m : Nat} {S : Sto} {most : Int} (hd : Dr S m) (h0 : 0 ≤ most) (hm : Bz n most) (hn : n < 8000) : ∃ x S', evF P (k + 3) 27 [.ref m, .int most] S = .ok (fr x) S' ∧ Sz (n + 2) x ∧ Dr S' m ∧ Ex m S S' := by
  have b2 : Bz (n + 2) (most * 2) := hm.mul (j := 2) (n := 2) ⟨by decide⟩
  obtain ⟨p, S1, e1, a1, a2, d1, x1⟩ := s10 (k := k) hd (show 0 ≤ most * 2 by omega) b2 (by omega)
  obtain ⟨q, S2, e2, c1, c2, d2, x2⟩ := s9 (k := k + 1) d1 (show (0 : Int) < 3 by omega) (n := 2) ⟨by decide⟩ (by omega)
  have bp : Bz (n + 2) p := b2.le (by omega)
  have bq : Bz (n + 2) (1 + q) := Bz.mono (m := 2) (Bz.of 2 (k := 3) (by omega) (by decide)) (by omega)
  have hc := s23 (k := k) (S := S2) (p := p) bq (by omega) (by omega)
  refine ⟨Rat.divInt p (1 + q), S2, ?_, divInt_sz bp bq (by omega), d2, x1.trans x2⟩
  rw [evF_succ (F := F27) rfl rfl (by decide)]
  have h2 := bop_mul (S := S) (hm.mulOk (j := 2) (n := 2) ⟨by decide⟩ (by omega))
  simp [F27, h2, e1, e2, hc, tidy_ex (x1.trans x2)]
theorem s27g {n k m : Nat} {S : Sto} {most : Int} (hd : Dr S m) (h0 : 0 ≤ most) (hm : Bz n most) (hn : n < 8000) : ∃ x S', evF P (k + 3) 27 [.ref m, .int most] S = .ok (fr x) S' ∧ Gd (12 * most) x ∧ Dr S' m ∧ Ex m S S' := by
  have b2 : Bz (n + 2) (most * 2) := hm.mul (j := 2) (n := 2) ⟨by decide⟩
  obtain ⟨p, S1, e1, a1, a2, d1, x1⟩ := s10 (k := k) hd (show 0 ≤ most * 2 by omega) b2 (by omega)
  obtain ⟨q, S2, e2, c1, c2, d2, x2⟩ := s9 (k := k + 1) d1 (show (0 : Int) < 3 by omega) (n := 2) ⟨by decide⟩ (by omega)
  have bp : Bz (n + 2) p := b2.le (by omega)
  have bq : Bz (n + 2) (1 + q) := Bz.mono (m := 2) (Bz.of 2 (k := 3) (by omega) (by decide)) (by omega)
  have hc := s23 (k := k) (S := S2) (p := p) bq (by omega) (by omega)
  refine ⟨Rat.divInt p (1 + q), S2, ?_, (gd_div (a := most * 2) (by omega) (by omega) (by omega)).mono (by omega), d2, x1.trans x2⟩
  rw [evF_succ (F := F27) rfl rfl (by decide)]
  have h2 := bop_mul (S := S) (hm.mulOk (j := 2) (n := 2) ⟨by decide⟩ (by omega))
  simp [F27, h2, e1, e2, hc, tidy_ex (x1.trans x2)]

theorem s28 {n k m : Nat} {S : Sto} {most : Int} (hd : Dr S m) (h0 : 0 ≤ most) (hm : Bz n most) (hn : n < 8000) : ∃ v S', evF P (k + 4) 28 [.ref m, .int most] S = .ok (vc v) S' ∧ Vz (n + 2) v ∧ Dr S' m ∧ Ex m S S' := by
  obtain ⟨x, S1, e1, z1, d1, x1⟩ := s27 (k := k) hd h0 hm hn
  obtain ⟨y, S2, e2, z2, d2, x2⟩ := s27 (k := k) d1 h0 hm hn
  refine ⟨(x, y), S2, ?_, ⟨z1, z2⟩, d2, x1.trans x2⟩
  rw [evF_succ (F := F28) rfl rfl (by decide)]
  simp [F28, e1, e2, tidy_ex (x1.trans x2), tup_vc]
theorem s28g {n k m : Nat} {S : Sto} {most : Int} (hd : Dr S m) (h0 : 0 ≤ most) (hm : Bz n most) (hn : n < 8000) : ∃ v S', evF P (k + 4) 28 [.ref m, .int most] S = .ok (vc v) S' ∧ Gv (12 * most) v ∧ Dr S' m ∧ Ex m S S' := by
  obtain ⟨x, S1, e1, z1, d1, x1⟩ := s27g (k := k) hd h0 hm hn
  obtain ⟨y, S2, e2, z2, d2, x2⟩ := s27g (k := k) d1 h0 hm hn
  refine ⟨(x, y), S2, ?_, ⟨z1, z2⟩, d2, x1.trans x2⟩
  rw [evF_succ (F := F28) rfl rfl (by decide)]
  simp [F28, e1, e2, tidy_ex (x1.trans x2), tup_vc]

theorem s45 {n k : Nat} {S : Sto} {b : Box} {i : Int} (hb : Xz n b) (hi : Axi i) (hn : n < 4000) : evF P (k + 4) 45 [bx b, .int i] S = .ok (fr (hiR b i)) S := by
  rw [evF_succ (F := F45) rfl rfl (by decide)]
  simp [F45, ix_va hi, s24 (k := k) (S := S) (hb.p.ax i) (hb.s.ax i) (by omega), hiR]

theorem s46 {n k : Nat} {S : Sto} {a b : Box} {i : Int} (ha : Xz n a) (hb : Xz n b) (hi : Axi i) (hn : n < 1250) : evF P (k + 5) 46 [bx a, bx b, .int i] S = .ok (fr (gapR a b i)) S := by
  rw [evF_succ (F := F46) rfl rfl (by decide)]
  have h1 := s45 (k := k) (S := S) ha hi (by omega)
  have h2 := s45 (k := k) (S := S) hb hi (by omega)
  have h3 := s25 (k := k + 1) (S := S) (hb.p.ax i) (ha.hi i) (by omega)
  have h4 := s25 (k := k + 1) (S := S) (ha.p.ax i) (hb.hi i) (by omega)
  have h5 := s44 (k := k + 2) (S := S) ((hb.p.ax i).sub (ha.hi i)) ((ha.p.ax i).sub (hb.hi i)) (by omega)
  have e : (if ax b.1 i - hiR a i < ax a.1 i - hiR b i then ax a.1 i - hiR b i else ax b.1 i - hiR a i) = gapR a b i := by
    unfold gapR
    by_cases c : ax a.1 i - hiR b i ≤ ax b.1 i - hiR a i
    · rw [if_pos c, if_neg (by grind)]
    · rw [if_neg c, if_pos (by grind)]
  rw [e] at h5
  simp [F46, ix_va hi, h1, h2, h3, h4, h5]

theorem s47 {n k : Nat} {S : Sto} {a b : Box} (ha : Xz n a) (hb : Xz n b) (hn : n < 1250) : evF P (k + 6) 47 [bx a, bx b] S = .ok (.bl (decide (gapR a b 0 < 0 ∧ gapR a b 1 < 0))) S := by
  rw [evF_succ (F := F47) rfl rfl (by decide)]
  by_cases c : gapR a b 0 < 0 <;> simp [F47, s46 (k := k) (S := S) ha hb (.inl rfl) hn, s46 (k := k) (S := S) ha hb (.inr rfl) hn, num_lt0, c]

theorem s48 {n k : Nat} {S : Sto} {a b : Box} (ha : Xz n a) (hb : Xz n b) (hn : n < 1250) : evF P (k + 6) 48 [bx a, bx b] S = .ok (.bl (decide (gapR a b 0 ≤ 0 ∧ gapR a b 1 ≤ 0))) S := by
  have e0 := s46 (k := k) (S := S) ha hb (.inl rfl) hn
  have e1 := s46 (k := k) (S := S) ha hb (.inr rfl) hn
  rw [evF_succ (F := F48) rfl rfl (by decide)]
  simp [F48, e0, e1, num_le0, ite_and]

theorem s49 {k m : Nat} {S : Sto} (hd : Dr S m) : ∃ v S', evF P (k + 3) 49 [.ref m] S = .ok (vc v) S' ∧ Vz 4 v ∧ 0 < v.1 ∧ 0 < v.2 ∧ Dr S' m ∧ Ex m S S' := by
  have one : ∀ S, Dr S m → ∃ x S1 S' p q, evF P (k + 2) 9 [.ref m, .int 6] S = .ok (.int p) S1 ∧ evF P (k + 2) 9 [.ref m, .int 2] S1 = .ok (.int q) S' ∧ evF P (k + 2) 23 [.int (1 + p), .int (1 + q)] S' = .ok (fr x) S' ∧ Sz 4 x ∧ 0 < x ∧ Dr S' m ∧ Ex m S S' := by
    intro S hd
    obtain ⟨p, S1, e1, a1, a2, d1, x1⟩ := s9 (k := k + 1) hd (show (0 : Int) < 6 by omega) (n := 3) ⟨by decide⟩ (by omega)
    obtain ⟨q, S2, e2, c1, c2, d2, x2⟩ := s9 (k := k + 1) d1 (show (0 : Int) < 2 by omega) (n := 2) ⟨by decide⟩ (by omega)
    have bq : Bz 4 (1 + q) := Bz.of 4 (k := 3) (by omega) (by decide)
    have bp : Bz 4 (1 + p) := Bz.of 4 (k := 7) (by omega) (by decide)
    refine ⟨Rat.divInt (1 + p) (1 + q), S1, S2, p, q, e1, e2, s23 (k := k) bq (by omega) (by omega), divInt_sz bp bq (by omega), ?_, d2, x1.trans x2⟩
    rw [← num_gt0, Rat.num_divInt, Int.sign_eq_one_of_pos (by omega)]
    have g1 : (0 : Int) < ((1 + q).gcd (1 + p) : Int) := by
      have := Int.gcd_pos_of_ne_zero_left (1 + p) (show (1 + q) ≠ 0 by omega)
      omega
    have g2 : (((1 + q).gcd (1 + p) : Nat) : Int) ∣ 1 * (1 + p) := by rw [Int.one_mul]; exact Int.gcd_dvd_right _ _
    exact Int.ediv_pos_of_pos_of_dvd (by omega) (by omega) g2
  obtain ⟨x, S1, S2, p, q, e1, e2, e3, z1, g1, d1, x1⟩ := one S hd
  obtain ⟨y, S3, S4, p', q', e4, e5, e6, z2, g2, d2, x2⟩ := one S2 d1
  refine ⟨(x, y), S4, ?_, ⟨z1, z2⟩, g1, g2, d2, x1.trans x2⟩
  rw [evF_succ (F := F49) rfl rfl (by decide)]
  simp [F49, e1, e2, e3, e4, e5, e6, tidy_ex (x1.trans x2), tup_vc]
theorem s49g {k m : Nat} {S : Sto} (hd : Dr S m) : ∃ v S', evF P (k + 3) 49 [.ref m] S = .ok (vc v) S' ∧ Gv 36 v ∧ 0 < v.1 ∧ 0 < v.2 ∧ Dr S' m ∧ Ex m S S' := by
  have one : ∀ S, Dr S m → ∃ x S1 S' p q, evF P (k + 2) 9 [.ref m, .int 6] S = .ok (.int p) S1 ∧ evF P (k + 2) 9 [.ref m, .int 2] S1 = .ok (.int q) S' ∧ evF P (k + 2) 23 [.int (1 + p), .int (1 + q)] S' = .ok (fr x) S' ∧ Gd 36 x ∧ 0 < x ∧ Dr S' m ∧ Ex m S S' := by
    intro S hd
    obtain ⟨p, S1, e1, a1, a2, d1, x1⟩ := s9 (k := k + 1) hd (show (0 : Int) < 6 by omega) (n := 3) ⟨by decide⟩ (by omega)
    obtain ⟨q, S2, e2, c1, c2, d2, x2⟩ := s9 (k := k + 1) d1 (show (0 : Int) < 2 by omega) (n := 2) ⟨by decide⟩ (by omega)
    have bq : Bz 4 (1 + q) := Bz.of 4 (k := 3) (by omega) (by decide)
    refine ⟨Rat.divInt (1 + p) (1 + q), S1, S2, p, q, e1, e2, s23 (k := k) bq (by omega) (by omega), (gd_div (a := 6) (by omega) (by omega) (by omega)).mono (by omega), ?_, d2, x1.trans x2⟩
    rw [← num_gt0, Rat.num_divInt, Int.sign_eq_one_of_pos (by omega)]
    have g1 : (0 : Int) < ((1 + q).gcd (1 + p) : Int) := by
      have := Int.gcd_pos_of_ne_zero_left (1 + p) (show (1 + q) ≠ 0 by omega)
      omega
    have g2 : (((1 + q).gcd (1 + p) : Nat) : Int) ∣ 1 * (1 + p) := by rw [Int.one_mul]; exact Int.gcd_dvd_right _ _
    exact Int.ediv_pos_of_pos_of_dvd (by omega) (by omega) g2
  obtain ⟨x, S1, S2, p, q, e1, e2, e3, z1, g1, d1, x1⟩ := one S hd
  obtain ⟨y, S3, S4, p', q', e4, e5, e6, z2, g2, d2, x2⟩ := one S2 d1
  refine ⟨(x, y), S4, ?_, ⟨z1, z2⟩, g1, g2, d2, x1.trans x2⟩
  rw [evF_succ (F := F49) rfl rfl (by decide)]
  simp [F49, e1, e2, e3, e4, e5, e6, tidy_ex (x1.trans x2), tup_vc]

/-- one box's size above 0 -/
theorem s50 {n k m : Nat} {S : Sto} {b : Box} {s : Rat × Rat} (hd : Dr S m) (hb : Xz n b) (hs : Vz 4 s) (hn : n < 1000) : ∃ v S', evF P (k + 6) 50 [.ref m, bx b, vc s] S = .ok (vc v) S' ∧ Vz (n + n + 5) v ∧ Dr S' m ∧ Gr m S S' := by
  obtain ⟨a, S1, e1, a0, a1, d1, x1⟩ := s9 (k := k + 4) hd (show (0 : Int) < 2 by omega) (n := 2) ⟨by decide⟩ (by omega)
  have ha : Axi a := by unfold Axi; omega
  have ha' : Axi (1 - a) := by unfold Axi; omega
  obtain ⟨p, S2, e2, z2, d2, x2⟩ := s27 (k := k + 2) d1 (most := 2) (by omega) (n := 2) ⟨by decide⟩ (by omega)
  obtain ⟨q, S3, e3, z3, d3, x3⟩ := s27 (k := k + 2) d2 (most := 2) (by omega) (n := 2) ⟨by decide⟩ (by omega)
  have f2 := s24 (k := k + 2) (S := S2) hb.p.x z2 (by omega)
  have f3 := s24 (k := k + 2) (S := S3) hb.p.y z3 (by omega)
  have d3' := d3.push (o := .lst [fr (b.1.1 + p), fr (b.1.2 + q)])
  obtain ⟨c, S4, e4, c0, c1, d4, x4⟩ := s9 (k := k + 4) d3' (show (0 : Int) < 2 by omega) (n := 2) ⟨by decide⟩ (by omega)
  have hl3 : S3.length = S.length := ((x1.trans x2).trans x3).len
  have hm : m < S.length := hd.lt
  have g4 : S4[S3.length]? = some (.lst [fr (b.1.1 + p), fr (b.1.2 + q)]) := by rw [x4.at_ _ (by omega)]; simp
  have f4 := s45 (k := k + 1) (S := S4) (i := a) hb ha (by omega)
  have f5 := s25 (k := k + 2) (S := S4) (hb.p.ax a) (hs.ax a) (by omega)
  have hG : Gr m S S4 := ((x1.trans x2).trans x3).gr.trans (Gr.push.trans x4.gr)
  -- the place's two cells, after the first store
  have st : ∀ (T : Sto) (u v w : D) (i : Int) (ρ : En), Axi i → T[S3.length]? = some (.lst [u, v]) → ∃ u' v', setD (.ref S3.length) (.int i) w ρ T = .ok ρ (T.set S3.length (.lst [u', v'])) ∧ (u' = u ∨ u' = w) ∧ (v' = v ∨ v' = w) := by
    intro T u v w i ρ hi g
    rcases hi with rfl | rfl
    · exact ⟨w, v, by rw [set_ref g (j := 0) (show ixN 2 0 = some 0 by decide)]; rfl, .inr rfl, .inl rfl⟩
    · exact ⟨u, w, by rw [set_ref g (j := 1) (show ixN 2 1 = some 1 by decide)]; rfl, .inl rfl, .inr rfl⟩
  have hlen4 : S3.length < S4.length := (List.getElem?_eq_some_iff.mp g4).1
  have zz : ∀ x : Rat, x = b.1.1 + p ∨ x = b.1.2 + q ∨ x = hiR b a ∨ x = ax b.1 a - ax s a ∨ x = ax b.1 (1 - a) → Sz (n + n + 5) x := by
    rintro x (rfl | rfl | rfl | rfl | rfl)
    · exact (hb.p.x.add z2).mono (by omega)
    · exact (hb.p.y.add z3).mono (by omega)
    · exact (hb.hi a).mono (by omega)
    · exact ((hb.p.ax a).sub (hs.ax a)).mono (by omega)
    · exact (hb.p.ax (1 - a)).mono (by omega)
  obtain ⟨y, hy, ey⟩ : ∃ y, (y = hiR b a ∨ y = ax b.1 a - ax s a) ∧ (if c = 1 then R.ok (fr (hiR b a)) S4 else R.ok (fr (ax b.1 a - ax s a)) S4) = .ok (fr y) S4 := by
    by_cases h : c = 1
    · exact ⟨_, .inl rfl, if_pos h⟩
    · exact ⟨_, .inr rfl, if_neg h⟩
  obtain ⟨u1, v1, e5, hu1, hv1⟩ := st S4 _ _ (fr y) a [some (.ref m), some (bx b), some (vc s), some (.int a), some (.ref S3.length)] ha g4
  obtain ⟨x, e6⟩ : ∃ x, u1 = fr x ∧ (x = b.1.1 + p ∨ x = y) := by
    rcases hu1 with h | h
    · exact ⟨_, h, .inl rfl⟩
    · exact ⟨_, h, .inr rfl⟩
  obtain ⟨x', e7⟩ : ∃ x, v1 = fr x ∧ (x = b.1.2 + q ∨ x = y) := by
    rcases hv1 with h | h
    · exact ⟨_, h, .inl rfl⟩
    · exact ⟨_, h, .inr rfl⟩
  have d5 : Dr (S4.set S3.length (.lst [u1, v1])) m := d4.set (by omega)
  have g5 : (S4.set S3.length (.lst [u1, v1]))[S3.length]? = some (.lst [u1, v1]) := by simp [hlen4]
  have hG5 : Gr m S (S4.set S3.length (.lst [u1, v1])) := hG.set (by omega)
  obtain ⟨t, S6, e8, t0, t1, d6, x6⟩ := s9 (k := k + 4) d5 (show (0 : Int) < 4 by omega) (n := 3) ⟨by decide⟩ (by omega)
  have g6 : S6[S3.length]? = some (.lst [u1, v1]) := by rw [x6.at_ _ (by omega)]; exact g5
  have hG6 : Gr m S S6 := hG5.trans x6.gr
  have hlen6 : S3.length < S6.length := (List.getElem?_eq_some_iff.mp g6).1
  obtain ⟨u2, v2, e9, hu2, hv2⟩ := st S6 _ _ (fr (ax b.1 (1 - a))) (1 - a) [some (.ref m), some (bx b), some (vc s), some (.int a), some (.ref S3.length)] ha' g6
  have hy' : y = b.1.1 + p ∨ y = b.1.2 + q ∨ y = hiR b a ∨ y = ax b.1 a - ax s a ∨ y = ax b.1 (1 - a) := by
    rcases hy with h | h <;> simp [h]
  have fin : ∀ (T : Sto) (u v : D), T[S3.length]? = some (.lst [u, v]) → Dr T m → Gr m S T → (∃ x, u = fr x ∧ Sz (n + n + 5) x) → (∃ x, v = fr x ∧ Sz (n + n + 5) x) →
      ∃ w, ixD (.ref S3.length) (.int 0) T = .ok (fr w.1) T ∧ ixD (.ref S3.length) (.int 1) T = .ok (fr w.2) T ∧ Vz (n + n + 5) w ∧ Dr (tidy S.length (vc w) T) m ∧ Gr m S (tidy S.length (vc w) T) := by
    rintro T u v g d hg ⟨x, rfl, zx⟩ ⟨x', rfl, zx'⟩
    obtain ⟨h1, h2⟩ := tidy_gr (d := vc (x, x')) d hm hg
    exact ⟨(x, x'), ix_ref g (by rw [atI_nn (by omega)]; rfl), ix_ref g (by rw [atI_nn (by omega)]; rfl), ⟨zx, zx'⟩, h1, h2⟩
  have su1 : ∃ z, u1 = fr z ∧ Sz (n + n + 5) z := ⟨x, e6.1, e6.2.elim (fun h => zz x (.inl h)) fun h => zz x (by rw [h]; exact hy')⟩
  have sv1 : ∃ z, v1 = fr z ∧ Sz (n + n + 5) z := ⟨x', e7.1, e7.2.elim (fun h => zz x' (.inr (.inl h))) fun h => zz x' (by rw [h]; exact hy')⟩
  have sw : ∃ z, fr (ax b.1 (1 - a)) = fr z ∧ Sz (n + n + 5) z := ⟨_, rfl, zz _ (by simp)⟩
  rw [evF_succ (F := F50) rfl rfl (by decide)]
  by_cases h4 : t = 1
  · obtain ⟨w, i0, i1, r1, r2, r3⟩ := fin (S6.set S3.length (.lst [u2, v2])) u2 v2 (by simp [hlen6]) (d6.set (by omega)) (hG6.set (by omega)) (by rcases hu2 with h | h <;> rw [h] <;> assumption) (by rcases hv2 with h | h <;> rw [h] <;> assumption)
    exact ⟨w, _, by simp [F50, e1, e2, e3, f2, f3, e4, f4, f5, ix_va ha, ix_va ha', ey, e5, e8, h4, e9, i0, i1, tup_vc], r1, r2, r3⟩
  · obtain ⟨w, i0, i1, r1, r2, r3⟩ := fin S6 u1 v1 g6 d6 hG6 su1 sv1
    exact ⟨w, _, by simp [F50, e1, e2, e3, f2, f3, e4, f4, f5, ix_va ha, ix_va ha', ey, e5, e8, h4, i0, i1, tup_vc], r1, r2, r3⟩
theorem s50g {cc : Int} {n k m : Nat} {S : Sto} {b : Box} {s : Rat × Rat} (hd : Dr S m) (gb : Gb cc b) (gs : Gv 36 s) (hc0 : cc < 2 ^ n) (h6 : 6 ≤ n) (hn : n < 1000) : ∃ v S', evF P (k + 6) 50 [.ref m, bx b, vc s] S = .ok (vc v) S' ∧ Gv (cc + 36) v ∧ Dr S' m ∧ Gr m S S' := by
  have hb : Xz n b := gb.xz hc0 h6
  have hs : Vz 6 s := gs.vz (by decide) (by decide)
  obtain ⟨a, S1, e1, a0, a1, d1, x1⟩ := s9 (k := k + 4) hd (show (0 : Int) < 2 by omega) (n := 2) ⟨by decide⟩ (by omega)
  have ha : Axi a := by unfold Axi; omega
  have ha' : Axi (1 - a) := by unfold Axi; omega
  obtain ⟨p, S2, e2, y2, d2, x2⟩ := s27g (k := k + 2) d1 (most := 2) (by omega) (n := 2) ⟨by decide⟩ (by omega)
  obtain ⟨q, S3, e3, y3, d3, x3⟩ := s27g (k := k + 2) d2 (most := 2) (by omega) (n := 2) ⟨by decide⟩ (by omega)
  have z2 : Sz 5 p := y2.sz (by decide) (by decide)
  have z3 : Sz 5 q := y3.sz (by decide) (by decide)
  have f2 := s24 (k := k + 2) (S := S2) hb.p.x z2 (by omega)
  have f3 := s24 (k := k + 2) (S := S3) hb.p.y z3 (by omega)
  have d3' := d3.push (o := .lst [fr (b.1.1 + p), fr (b.1.2 + q)])
  obtain ⟨c, S4, e4, c0, c1, d4, x4⟩ := s9 (k := k + 4) d3' (show (0 : Int) < 2 by omega) (n := 2) ⟨by decide⟩ (by omega)
  have hl3 : S3.length = S.length := ((x1.trans x2).trans x3).len
  have hm : m < S.length := hd.lt
  have g4 : S4[S3.length]? = some (.lst [fr (b.1.1 + p), fr (b.1.2 + q)]) := by rw [x4.at_ _ (by omega)]; simp
  have f4 := s45 (k := k + 1) (S := S4) (i := a) hb ha (by omega)
  have f5 := s25 (k := k + 2) (S := S4) (hb.p.ax a) (hs.ax a) (by omega)
  have hG : Gr m S S4 := ((x1.trans x2).trans x3).gr.trans (Gr.push.trans x4.gr)
  -- the place's two cells, after the first store
  have st : ∀ (T : Sto) (u v w : D) (i : Int) (ρ : En), Axi i → T[S3.length]? = some (.lst [u, v]) → ∃ u' v', setD (.ref S3.length) (.int i) w ρ T = .ok ρ (T.set S3.length (.lst [u', v'])) ∧ (u' = u ∨ u' = w) ∧ (v' = v ∨ v' = w) := by
    intro T u v w i ρ hi g
    rcases hi with rfl | rfl
    · exact ⟨w, v, by rw [set_ref g (j := 0) (show ixN 2 0 = some 0 by decide)]; rfl, .inr rfl, .inl rfl⟩
    · exact ⟨u, w, by rw [set_ref g (j := 1) (show ixN 2 1 = some 1 by decide)]; rfl, .inl rfl, .inr rfl⟩
  have hlen4 : S3.length < S4.length := (List.getElem?_eq_some_iff.mp g4).1
  have zz : ∀ x : Rat, x = b.1.1 + p ∨ x = b.1.2 + q ∨ x = hiR b a ∨ x = ax b.1 a - ax s a ∨ x = ax b.1 (1 - a) → Gd (cc + 36) x := by
    rintro x (rfl | rfl | rfl | rfl | rfl)
    · exact (gb.p.1.add y2).mono (by omega)
    · exact (gb.p.2.add y3).mono (by omega)
    · exact (gb.hi a).mono (by omega)
    · exact ((gb.p.ax a).sub (gs.ax a)).mono (by omega)
    · exact (gb.p.ax (1 - a)).mono (by omega)
  obtain ⟨y, hy, ey⟩ : ∃ y, (y = hiR b a ∨ y = ax b.1 a - ax s a) ∧ (if c = 1 then R.ok (fr (hiR b a)) S4 else R.ok (fr (ax b.1 a - ax s a)) S4) = .ok (fr y) S4 := by
    by_cases h : c = 1
    · exact ⟨_, .inl rfl, if_pos h⟩
    · exact ⟨_, .inr rfl, if_neg h⟩
  obtain ⟨u1, v1, e5, hu1, hv1⟩ := st S4 _ _ (fr y) a [some (.ref m), some (bx b), some (vc s), some (.int a), some (.ref S3.length)] ha g4
  obtain ⟨x, e6⟩ : ∃ x, u1 = fr x ∧ (x = b.1.1 + p ∨ x = y) := by
    rcases hu1 with h | h
    · exact ⟨_, h, .inl rfl⟩
    · exact ⟨_, h, .inr rfl⟩
  obtain ⟨x', e7⟩ : ∃ x, v1 = fr x ∧ (x = b.1.2 + q ∨ x = y) := by
    rcases hv1 with h | h
    · exact ⟨_, h, .inl rfl⟩
    · exact ⟨_, h, .inr rfl⟩
  have d5 : Dr (S4.set S3.length (.lst [u1, v1])) m := d4.set (by omega)
  have g5 : (S4.set S3.length (.lst [u1, v1]))[S3.length]? = some (.lst [u1, v1]) := by simp [hlen4]
  have hG5 : Gr m S (S4.set S3.length (.lst [u1, v1])) := hG.set (by omega)
  obtain ⟨t, S6, e8, t0, t1, d6, x6⟩ := s9 (k := k + 4) d5 (show (0 : Int) < 4 by omega) (n := 3) ⟨by decide⟩ (by omega)
  have g6 : S6[S3.length]? = some (.lst [u1, v1]) := by rw [x6.at_ _ (by omega)]; exact g5
  have hG6 : Gr m S S6 := hG5.trans x6.gr
  have hlen6 : S3.length < S6.length := (List.getElem?_eq_some_iff.mp g6).1
  obtain ⟨u2, v2, e9, hu2, hv2⟩ := st S6 _ _ (fr (ax b.1 (1 - a))) (1 - a) [some (.ref m), some (bx b), some (vc s), some (.int a), some (.ref S3.length)] ha' g6
  have hy' : y = b.1.1 + p ∨ y = b.1.2 + q ∨ y = hiR b a ∨ y = ax b.1 a - ax s a ∨ y = ax b.1 (1 - a) := by
    rcases hy with h | h <;> simp [h]
  have fin : ∀ (T : Sto) (u v : D), T[S3.length]? = some (.lst [u, v]) → Dr T m → Gr m S T → (∃ x, u = fr x ∧ Gd (cc + 36) x) → (∃ x, v = fr x ∧ Gd (cc + 36) x) →
      ∃ w, ixD (.ref S3.length) (.int 0) T = .ok (fr w.1) T ∧ ixD (.ref S3.length) (.int 1) T = .ok (fr w.2) T ∧ Gv (cc + 36) w ∧ Dr (tidy S.length (vc w) T) m ∧ Gr m S (tidy S.length (vc w) T) := by
    rintro T u v g d hg ⟨x, rfl, zx⟩ ⟨x', rfl, zx'⟩
    obtain ⟨h1, h2⟩ := tidy_gr (d := vc (x, x')) d hm hg
    exact ⟨(x, x'), ix_ref g (by rw [atI_nn (by omega)]; rfl), ix_ref g (by rw [atI_nn (by omega)]; rfl), ⟨zx, zx'⟩, h1, h2⟩
  have su1 : ∃ z, u1 = fr z ∧ Gd (cc + 36) z := ⟨x, e6.1, e6.2.elim (fun h => zz x (.inl h)) fun h => zz x (by rw [h]; exact hy')⟩
  have sv1 : ∃ z, v1 = fr z ∧ Gd (cc + 36) z := ⟨x', e7.1, e7.2.elim (fun h => zz x' (.inr (.inl h))) fun h => zz x' (by rw [h]; exact hy')⟩
  have sw : ∃ z, fr (ax b.1 (1 - a)) = fr z ∧ Gd (cc + 36) z := ⟨_, rfl, zz _ (by simp)⟩
  rw [evF_succ (F := F50) rfl rfl (by decide)]
  by_cases h4 : t = 1
  · obtain ⟨w, i0, i1, r1, r2, r3⟩ := fin (S6.set S3.length (.lst [u2, v2])) u2 v2 (by simp [hlen6]) (d6.set (by omega)) (hG6.set (by omega)) (by rcases hu2 with h | h <;> rw [h] <;> assumption) (by rcases hv2 with h | h <;> rw [h] <;> assumption)
    exact ⟨w, _, by simp [F50, e1, e2, e3, f2, f3, e4, f4, f5, ix_va ha, ix_va ha', ey, e5, e8, h4, e9, i0, i1, tup_vc], r1, r2, r3⟩
  · obtain ⟨w, i0, i1, r1, r2, r3⟩ := fin S6 u1 v1 g6 d6 hG6 su1 sv1
    exact ⟨w, _, by simp [F50, e1, e2, e3, f2, f3, e4, f4, f5, ix_va ha, ix_va ha', ey, e5, e8, h4, i0, i1, tup_vc], r1, r2, r3⟩

theorem s51 {n k m r : Nat} {S : Sto} {bs : List Box} (hd : Dr S m) (hr : r ≠ m) (g : S[r]? = some (.lst (bs.map bx))) (hb : ∀ b ∈ bs, Xz n b) (h5 : 5 ≤ n) (hn : n < 1000) (hl : bs.length < 1000) :
    ∃ b S', evF P (k + 7) 51 [.ref m, .ref r] S = .ok (bx b) S' ∧ Xz (n + n + 5) b ∧ 0 < b.2.1 ∧ 0 < b.2.2 ∧ Dr S' m ∧ Gr m S S' := by
  have hm : m < S.length := hd.lt
  obtain ⟨s, S1, e1, z1, p1, p2, d1, x1⟩ := s49 (k := k + 3) hd
  have g1 : S1[r]? = some (.lst (bs.map bx)) := by rw [x1.at_ r hr]; exact g
  have l1 := len_ref g1
  rw [List.length_map] at l1
  rw [evF_succ (F := F51) rfl rfl (by decide)]
  by_cases c0 : bs.length = 0
  · obtain ⟨v, S2, e2, z2, d2, x2⟩ := s28 (k := k + 2) d1 (most := 5) (by omega) (n := 3) ⟨by decide⟩ (by omega)
    have l1' : biD .len [.ref r] S1 = .ok (.int 0) S1 := by rw [l1, c0]; rfl
    exact ⟨(v, s), S2, by simp [F51, e1, l1', e2, tidy_ex (x1.trans x2), tup_bx], ⟨z2.mono (by omega), z1.mono (by omega)⟩, p1, p2, d2, (x1.trans x2).gr⟩
  · have c0' : (0 : Int) < bs.length := by omega
    obtain ⟨t, S2, e2, t0, t1, d2, x2⟩ := s9 (k := k + 5) d1 (show (0 : Int) < 3 by omega) (n := 2) ⟨by decide⟩ (by omega)
    have g2 : S2[r]? = some (.lst (bs.map bx)) := by rw [x2.at_ r hr]; exact g1
    have c0'' : 0 < bs.length := by omega
    by_cases c1 : 0 < t
    · have l2 := len_ref g2
      rw [List.length_map] at l2
      obtain ⟨i, S3, e3, i0, i1, d3, x3⟩ := s9 (k := k + 5) d2 c0' (n := 10) (Bz.of 10 (k := 999) (by omega) (by decide)) (by omega)
      have g3 : S3[r]? = some (.lst (bs.map bx)) := by rw [x3.at_ r hr]; exact g2
      have hi : i.toNat < bs.length := by omega
      have i3 : ixD (.ref r) (.int i) S3 = .ok (bx bs[i.toNat]) S3 := ix_ref g3 (by rw [atI_nn i0]; simp [hi])
      obtain ⟨v, S4, e4, z4, d4, x4⟩ := s50 (k := k) d3 (hb bs[i.toNat] (List.getElem_mem hi)) z1 hn
      obtain ⟨h1, h2⟩ := tidy_gr (d := bx (v, s)) d4 hm (((x1.trans x2).trans x3).gr.trans x4)
      exact ⟨(v, s), _, by simp [F51, e1, l1, c0'', e2, c1, l2, e3, i3, e4, tup_bx], ⟨z4, z1.mono (by omega)⟩, p1, p2, h1, h2⟩
    · obtain ⟨v, S3, e3, z3, d3, x3⟩ := s28 (k := k + 2) d2 (most := 5) (by omega) (n := 3) ⟨by decide⟩ (by omega)
      exact ⟨(v, s), S3, by simp [F51, e1, l1, c0'', e2, c1, e3, tidy_ex ((x1.trans x2).trans x3), tup_bx], ⟨z3.mono (by omega), z1.mono (by omega)⟩, p1, p2, d3, ((x1.trans x2).trans x3).gr⟩
theorem s51g {c0' : Int} {n k m r : Nat} {S : Sto} {bs : List Box} (hd : Dr S m) (hr : r ≠ m) (g : S[r]? = some (.lst (bs.map bx))) (gb : ∀ b ∈ bs, Gb c0' b) (h60 : 60 ≤ c0') (hc0 : c0' < 2 ^ n) (h6 : 6 ≤ n) (hn : n < 1000) (hl : bs.length < 1000) :
    ∃ b S', evF P (k + 7) 51 [.ref m, .ref r] S = .ok (bx b) S' ∧ Gb (c0' + 36) b ∧ Dr S' m ∧ Gr m S S' := by
  have hm : m < S.length := hd.lt
  obtain ⟨s, S1, e1, z1, p1, p2, d1, x1⟩ := s49g (k := k + 3) hd
  have g1 : S1[r]? = some (.lst (bs.map bx)) := by rw [x1.at_ r hr]; exact g
  have l1 := len_ref g1
  rw [List.length_map] at l1
  rw [evF_succ (F := F51) rfl rfl (by decide)]
  by_cases c0 : bs.length = 0
  · obtain ⟨v, S2, e2, z2, d2, x2⟩ := s28g (k := k + 2) d1 (most := 5) (by omega) (n := 3) ⟨by decide⟩ (by omega)
    have l1' : biD .len [.ref r] S1 = .ok (.int 0) S1 := by rw [l1, c0]; rfl
    exact ⟨(v, s), S2, by simp [F51, e1, l1', e2, tidy_ex (x1.trans x2), tup_bx], ⟨z2.mono (by omega), z1, p1, p2⟩, d2, (x1.trans x2).gr⟩
  · have c0' : (0 : Int) < bs.length := by omega
    obtain ⟨t, S2, e2, t0, t1, d2, x2⟩ := s9 (k := k + 5) d1 (show (0 : Int) < 3 by omega) (n := 2) ⟨by decide⟩ (by omega)
    have g2 : S2[r]? = some (.lst (bs.map bx)) := by rw [x2.at_ r hr]; exact g1
    have c0'' : 0 < bs.length := by omega
    by_cases c1 : 0 < t
    · have l2 := len_ref g2
      rw [List.length_map] at l2
      obtain ⟨i, S3, e3, i0, i1, d3, x3⟩ := s9 (k := k + 5) d2 c0' (n := 10) (Bz.of 10 (k := 999) (by omega) (by decide)) (by omega)
      have g3 : S3[r]? = some (.lst (bs.map bx)) := by rw [x3.at_ r hr]; exact g2
      have hi : i.toNat < bs.length := by omega
      have i3 : ixD (.ref r) (.int i) S3 = .ok (bx bs[i.toNat]) S3 := ix_ref g3 (by rw [atI_nn i0]; simp [hi])
      obtain ⟨v, S4, e4, z4, d4, x4⟩ := s50g (k := k) d3 (gb bs[i.toNat] (List.getElem_mem hi)) z1 hc0 h6 hn
      obtain ⟨h1, h2⟩ := tidy_gr (d := bx (v, s)) d4 hm (((x1.trans x2).trans x3).gr.trans x4)
      exact ⟨(v, s), _, by simp [F51, e1, l1, c0'', e2, c1, l2, e3, i3, e4, tup_bx], ⟨z4, z1, p1, p2⟩, h1, h2⟩
    · obtain ⟨v, S3, e3, z3, d3, x3⟩ := s28g (k := k + 2) d2 (most := 5) (by omega) (n := 3) ⟨by decide⟩ (by omega)
      exact ⟨(v, s), S3, by simp [F51, e1, l1, c0'', e2, c1, e3, tidy_ex ((x1.trans x2).trans x3), tup_bx], ⟨z3.mono (by omega), z1, p1, p2⟩, d3, ((x1.trans x2).trans x3).gr⟩

def clsS (c : Nat) : Str := if c = 3 then "box" else "axis"
theorem hot3 : evH P.sub H52 (.exc 3) = some (.str (clsS 3)) := by kernel_rfl
theorem hot2 : evH P.sub H52 (.exc 2) = some (.str (clsS 2)) := by kernel_rfl
/-- what the menu calls -/
noncomputable def cal53 (k : Nat) (w : Int) (X Y Y0 I : D) (S : Sto) : R D := if w = 0 then evF P k 34 [X, Y, I] S else if w = 1 then evF P k 40 [X, Y, I] S else if w = 2 then evF P k 36 [X, Y] S else if w = 3 then evF P k 38 [X, Y] S else if w = 4 then evF P k 42 [X, Y] S else evF P k 41 [X, Y0] S
theorem hotD_ok {c : Cfg} {f j : Nat} {e : E} {z : Str} {S : Sto} (h : c.hot f = some e) (h2 : evH c.sub e (.exc j) = some (.str z)) : hotD c f (.exc j) S = .ok (.str z) S := by
  unfold hotD
  rw [h]
  dsimp only
  rw [h2]
theorem s53 {k : Nat} {w : Int} {X Y Y0 I d : D} {S : Sto} (hy : ixD Y (.int 0) S = .ok Y0 S) (h : cal53 k w X Y Y0 I S = .ok d S) : evF P (k + 1) 53 [.int w, X, Y, I] S = .ok d S := by
  unfold cal53 at h
  rw [evF_succ (F := F53) rfl rfl (by decide)]
  by_cases c0 : w = 0
  · rw [if_pos c0] at h; simp [F53, c0, h, tryF]
  rw [if_neg c0] at h
  by_cases c1 : w = 1
  · rw [if_pos c1] at h; simp [F53, c1, h, tryF]
  rw [if_neg c1] at h
  by_cases c2 : w = 2
  · rw [if_pos c2] at h; simp [F53, c2, h, tryF]
  rw [if_neg c2] at h
  by_cases c3 : w = 3
  · rw [if_pos c3] at h; simp [F53, c3, h, tryF]
  rw [if_neg c3] at h
  by_cases c4 : w = 4
  · rw [if_pos c4] at h; simp [F53, c4, h, tryF]
  rw [if_neg c4] at h
  simp [F53, c0, c1, c2, c3, c4, h, hy, tryF]
theorem s53e {k : Nat} {w : Int} {X Y Y0 I : D} {c : Nat} {S : Sto} (hy : ixD Y (.int 0) S = .ok Y0 S) (hc : c = 3 ∨ c = 2) (h : cal53 k w X Y Y0 I S = .err c S) : evF P (k + 1) 53 [.int w, X, Y, I] S = .ok (.str (clsS c)) S := by
  have sb : P.sub c 0 = some true := by rcases hc with rfl | rfl <;> rfl
  have hd : ∀ S, hotD (cf P k) 52 (.exc c) S = .ok (.str (clsS c)) S := fun S => by
    rcases hc with rfl | rfl
    · exact hotD_ok (e := H52) rfl hot3
    · exact hotD_ok (e := H52) rfl hot2
  unfold cal53 at h
  rw [evF_succ (F := F53) rfl rfl (by decide)]
  by_cases c0 : w = 0
  · rw [if_pos c0] at h; simp [F53, c0, h, tryF, sb, rtOnly, hd, D.noE]
  rw [if_neg c0] at h
  by_cases c1 : w = 1
  · rw [if_pos c1] at h; simp [F53, c1, h, tryF, sb, rtOnly, hd, D.noE]
  rw [if_neg c1] at h
  by_cases c2 : w = 2
  · rw [if_pos c2] at h; simp [F53, c2, h, tryF, sb, rtOnly, hd, D.noE]
  rw [if_neg c2] at h
  by_cases c3 : w = 3
  · rw [if_pos c3] at h; simp [F53, c3, h, tryF, sb, rtOnly, hd, D.noE]
  rw [if_neg c3] at h
  by_cases c4 : w = 4
  · rw [if_pos c4] at h; simp [F53, c4, h, tryF, sb, rtOnly, hd, D.noE]
  rw [if_neg c4] at h
  simp [F53, c0, c1, c2, c3, c4, h, hy, tryF, sb, rtOnly, hd, D.noE]
/-- flat boxes -/
theorem flat53 {k : Nat} {w : Int} {a b : Box} {I : D} {S : Sto} (h : (a.2.1 ≤ 0 ∨ a.2.2 ≤ 0) ∨ (w ≠ 5 ∧ 0 < a.2.1 ∧ 0 < a.2.2 ∧ (b.2.1 ≤ 0 ∨ b.2.2 ≤ 0))) (hw : 0 ≤ w ∧ w ≤ 5) : cal53 (k + 2) w (bx a) (bx b) (vc b.1) I S = .err 3 S := by
  have k30 := fun b : Box => s30 (k := k) (S := S) (b := b)
  have hc1 := k30 a
  have hc2 := k30 b
  unfold cal53
  rcases h with h | ⟨h5, a1, a2, h⟩
  · rw [if_pos h] at hc1
    split
    · rw [evF_succ (F := F34) rfl rfl (by decide)]; simp [F34, hc1]
    split
    · rw [evF_succ (F := F40) rfl rfl (by decide)]; simp [F40, hc1]
    split
    · rw [evF_succ (F := F36) rfl rfl (by decide)]; simp [F36, hc1]
    split
    · rw [evF_succ (F := F38) rfl rfl (by decide)]; simp [F38, hc1]
    split
    · rw [evF_succ (F := F42) rfl rfl (by decide)]; simp [F42, hc1]
    · rw [evF_succ (F := F41) rfl rfl (by decide)]; simp [F41, hc1]
  · rw [if_neg (by grind)] at hc1
    rw [if_pos h] at hc2
    split
    · rw [evF_succ (F := F34) rfl rfl (by decide)]; simp [F34, hc1, hc2]
    split
    · rw [evF_succ (F := F40) rfl rfl (by decide)]; simp [F40, hc1, hc2]
    split
    · rw [evF_succ (F := F36) rfl rfl (by decide)]; simp [F36, hc1, hc2]
    split
    · rw [evF_succ (F := F38) rfl rfl (by decide)]; simp [F38, hc1, hc2]
    split
    · rw [evF_succ (F := F42) rfl rfl (by decide)]; simp [F42, hc1, hc2]
    · omega
theorem axis53 {k : Nat} {w i : Int} {a b : Box} {S : Sto} (hw : w = 0 ∨ w = 1) (a1 : 0 < a.2.1) (a2 : 0 < a.2.2) (b1 : 0 < b.2.1) (b2 : 0 < b.2.2) (hi : ¬ Axi i) : cal53 (k + 2) w (bx a) (bx b) (vc b.1) (.int i) S = .err 2 S := by
  have hc1 := s30 (k := k) (S := S) (b := a)
  rw [if_neg (by grind)] at hc1
  have hc2 := s30 (k := k) (S := S) (b := b)
  rw [if_neg (by grind)] at hc2
  have hc3 := s31e (k := k) (S := S) hi
  unfold cal53
  rcases hw with rfl | rfl
  · rw [if_pos rfl, evF_succ (F := F34) rfl rfl (by decide)]; simp [F34, hc1, hc2, hc3]
  · rw [if_neg (by decide), if_pos rfl, evF_succ (F := F40) rfl rfl (by decide)]; simp [F40, hc1, hc2, hc3]

theorem s54 {n k : Nat} {S : Sto} {a b : Box} {i : Int} (ha : Xz n a) (hb : Xz n b) (hi : Axi i) (hn : n < 1250) : evF P (k + 6) 54 [bx a, bx b, .int i] S = .ok (strD (strR a b i)) S := by
  have ho := axi_other hi
  have h0 := s46 (k := k) (S := S) ha hb hi hn
  have h1 := s46 (k := k) (S := S) ha hb ho hn
  have k1 := s44 (k := k + 3) (S := S) (ha.p.ax (1 - i)) (hb.p.ax (1 - i)) (by omega)
  have e1 := s45 (k := k + 1) (S := S) ha ho (by omega)
  have e2 := s45 (k := k + 1) (S := S) hb ho (by omega)
  have k2 := s43 (k := k + 3) (S := S) (ha.hi (1 - i)) (hb.hi (1 - i)) (by omega)
  rw [evF_succ (F := F54) rfl rfl (by decide)]
  by_cases c1 : gapR a b i = 0
  · by_cases c2 : 0 < gapR a b (1 - i)
    · simp [F54, h0, c1, h1, num_gt0, num_eq0, c2, strR, strD]
    · simp [F54, h0, c1, h1, num_gt0, num_eq0, c2, strR, strD, ix_va ho, k1, k2, e1, e2]
      rfl
  · simp [F54, h0, c1, num_eq0, strR, strD]

end LW

namespace LW
open PySem PySem.Spec PyProof.Rows L2 SB
open Classical
abbrev Q55_0 : SB.St := .asg (.nm 1) (.call 8 (.cons (.var 0) .nil))
abbrev Q55_1 : SB.St := .asg (.nm 2) (.call 51 (.cons (.var 1) (.cons (.new (.disp .nil)) .nil)))
abbrev Q55_2 : SB.St := .asg (.nm 3) (.ite (.cmp .gt (.call 9 (.cons (.var 1) (.cons (.cst (.int (6))) .nil))) (.cst (.int (0)))) (.call 51 (.cons (.var 1) (.cons (.new (.disp (.cons (.var 2) .nil))) .nil))) (.tup (.cons (.ix (.var 2) (.cst (.int (0)))) (.cons (.call 49 (.cons (.var 1) .nil)) .nil))))
abbrev Q55_3_0 : SB.St := .ite (.or (.cmp .ne (.call 53 (.cons (.cst (.int (0))) (.cons (.var 2) (.cons (.var 3) (.cons (.var 4) .nil))))) (.call 46 (.cons (.var 2) (.cons (.var 3) (.cons (.var 4) .nil))))) (.cmp .ne (.call 53 (.cons (.cst (.int (1))) (.cons (.var 2) (.cons (.var 3) (.cons (.var 4) .nil))))) (.call 54 (.cons (.var 2) (.cons (.var 3) (.cons (.var 4) .nil)))))) (.cons (.ret (.cst (.bl false))) .nil) .nil
abbrev B55_3 : Ss := .cons Q55_3_0 .nil
abbrev Q55_3 : SB.St := .forr (.nm 4) (.val (.tup (.cons (.cst (.int (0))) (.cons (.cst (.int (1))) .nil)))) B55_3
abbrev Q55_4 : SB.St := .asg (.nm 5) (.call 53 (.cons (.cst (.int (2))) (.cons (.var 2) (.cons (.var 3) (.cons (.cst (.int (0))) .nil)))))
abbrev Q55_5 : SB.St := .asg (.nm 6) (.call 53 (.cons (.cst (.int (3))) (.cons (.var 2) (.cons (.var 3) (.cons (.cst (.int (0))) .nil)))))
abbrev Q55_6 : SB.St := .ite (.or (.no (.bi .isBool (.cons (.var 5) .nil))) (.or (.cmp .ne (.var 5) (.call 47 (.cons (.var 2) (.cons (.var 3) .nil)))) (.or (.no (.bi .isBool (.cons (.var 6) .nil))) (.cmp .ne (.var 6) (.call 48 (.cons (.var 2) (.cons (.var 3) .nil))))))) (.cons (.ret (.cst (.bl false))) .nil) .nil
abbrev Q55_7 : SB.St := .asg (.nm 7) (.tup (.cons (.call 43 (.cons (.ix (.ix (.var 2) (.cst (.int (0)))) (.cst (.int (0)))) (.cons (.ix (.ix (.var 3) (.cst (.int (0)))) (.cst (.int (0)))) .nil))) (.cons (.call 43 (.cons (.ix (.ix (.var 2) (.cst (.int (0)))) (.cst (.int (1)))) (.cons (.ix (.ix (.var 3) (.cst (.int (0)))) (.cst (.int (1)))) .nil))) .nil)))
abbrev Q55_8 : SB.St := .asg (.nm 8) (.new (.comp (.call 44 (.cons (.call 45 (.cons (.var 2) (.cons (.var 4) .nil))) (.cons (.call 45 (.cons (.var 3) (.cons (.var 4) .nil))) .nil))) (.nm 4) (.val (.tup (.cons (.cst (.int (0))) (.cons (.cst (.int (1))) .nil)))) .none [4]))
abbrev Q55_9 : SB.St := .ite (.cmp .ne (.call 53 (.cons (.cst (.int (4))) (.cons (.var 2) (.cons (.var 3) (.cons (.cst (.int (0))) .nil))))) (.tup (.cons (.var 7) (.cons (.tup (.cons (.call 25 (.cons (.ix (.var 8) (.cst (.int (0)))) (.cons (.ix (.var 7) (.cst (.int (0)))) .nil))) (.cons (.call 25 (.cons (.ix (.var 8) (.cst (.int (1)))) (.cons (.ix (.var 7) (.cst (.int (1)))) .nil))) .nil))) .nil)))) (.cons (.ret (.cst (.bl false))) .nil) .nil
abbrev Q55_10 : SB.St := .ite (.cmp .ne (.call 53 (.cons (.cst (.int (5))) (.cons (.var 2) (.cons (.var 3) (.cons (.cst (.int (0))) .nil))))) (.tup (.cons (.tup (.cons (.call 24 (.cons (.ix (.ix (.var 2) (.cst (.int (0)))) (.cst (.int (0)))) (.cons (.ix (.ix (.var 3) (.cst (.int (0)))) (.cst (.int (0)))) .nil))) (.cons (.call 24 (.cons (.ix (.ix (.var 2) (.cst (.int (0)))) (.cst (.int (1)))) (.cons (.ix (.ix (.var 3) (.cst (.int (0)))) (.cst (.int (1)))) .nil))) .nil))) (.cons (.ix (.var 2) (.cst (.int (1)))) .nil)))) (.cons (.ret (.cst (.bl false))) .nil) .nil
abbrev Q55_11 : SB.St := .asg (.nm 9) (.tup (.cons (.ix (.var 2) (.cst (.int (0)))) (.cons (.ite (.cmp .eq (.call 9 (.cons (.var 1) (.cons (.cst (.int (2))) .nil))) (.cst (.int (1)))) (.tup (.cons (.tup (.cons (.bin .sub (.cst (.int (0))) (.call 9 (.cons (.var 1) (.cons (.cst (.int (2))) .nil)))) (.cons (.cst (.int (1))) .nil))) (.cons (.tup (.cons (.cst (.int (1))) (.cons (.cst (.int (1))) .nil))) .nil))) (.tup (.cons (.tup (.cons (.cst (.int (1))) (.cons (.cst (.int (1))) .nil))) (.cons (.tup (.cons (.bin .sub (.cst (.int (0))) (.call 9 (.cons (.var 1) (.cons (.cst (.int (2))) .nil)))) (.cons (.cst (.int (1))) .nil))) .nil)))) .nil)))
abbrev Q55_12_0 : SB.St := .ite (.or (.cmp .ne (.call 53 (.cons (.var 10) (.cons (.var 9) (.cons (.var 3) (.cons (.cst (.int (2))) .nil))))) (.cst (.str "box"))) (.and (.cmp .lt (.var 10) (.cst (.int (5)))) (.cmp .ne (.call 53 (.cons (.var 10) (.cons (.var 2) (.cons (.var 9) (.cons (.cst (.int (2))) .nil))))) (.cst (.str "box"))))) (.cons (.ret (.cst (.bl false))) .nil) .nil
abbrev B55_12 : Ss := .cons Q55_12_0 .nil
abbrev Q55_12 : SB.St := .forr (.nm 10) (.rg1 (.cst (.int (6)))) B55_12
abbrev Q55_13 : SB.St := .ret (.and (.cmp .eq (.call 53 (.cons (.cst (.int (0))) (.cons (.var 2) (.cons (.var 3) (.cons (.bin .sub (.cst (.int (0))) (.cst (.int (1)))) .nil))))) (.cst (.str "axis"))) (.cmp .eq (.call 53 (.cons (.cst (.int (1))) (.cons (.var 2) (.cons (.var 3) (.cons (.cst (.int (2))) .nil))))) (.cst (.str "axis"))))
theorem body55 : F55.body = (.cons Q55_0 (.cons Q55_1 (.cons Q55_2 (.cons Q55_3 (.cons Q55_4 (.cons Q55_5 (.cons Q55_6 (.cons Q55_7 (.cons Q55_8 (.cons Q55_9 (.cons Q55_10 (.cons Q55_11 (.cons Q55_12 (.cons Q55_13 .nil)))))))))))))) := rfl
theorem ne_self04 {x : D} {S : Sto} (h : pu 60 x) : cmpD .ne x x S = .ok (.bl false) S := by rw [cmp_ne h h]; simp
theorem eq_self04 {x : D} {S : Sto} (h : pu 60 x) : cmpD .eq x x S = .ok (.bl true) S := by rw [cmp_eq h h]; simp
theorem ne_bl04 {a : Bool} {S : Sto} : cmpD .ne (.bl a) (.bl a) S = .ok (.bl false) S := by cases a <;> rfl
theorem pu_str04 {o : Option (Rat × Rat)} : pu 60 (strD o) := by
  cases o with
  | none => unfold strD; simp
  | some p => unfold strD; simp
theorem pu_cls {c : Nat} : pu 60 (.str (clsS c)) := by
  have k1 : PyData.strOk ("box" : Str) = true := by decide +kernel
  have k2 : PyData.strOk ("axis" : Str) = true := by decide +kernel
  unfold pu clsS
  split
  · exact k1
  · exact k2
abbrev E55 (sc A B : D) (o4 o5 o6 o7 o8 o9 o10 : Option D) : En := [some sc, some (.ref 1), some A, some B, o4, o5, o6, o7, o8, o9, o10]
theorem law_true (ns : List Int) (hns : ns.length ≤ 63) : ∃ S', evF P 200 55 [.fzl (ns.map .int)] [] = .ok (.bl true) S' := by
  obtain ⟨sc, hsc⟩ : ∃ sc : D, sc = .fzl (ns.map D.int) := ⟨_, rfl⟩
  obtain ⟨seed, z0, z1, e8⟩ := s8 (k := 198) ns
  have d0 := dr_begin (ns := ns) z0 z1
  generalize hS0 : ([.lst (ns.map .int), q4 (.ref 0) (.int 0) (.int 0) (.int seed)] : Sto) = S0 at e8 d0
  rw [← hsc] at e8 ⊢
  have hm0 := d0.lt
  obtain ⟨a, S1, e1, ga, d1, w1⟩ := s51g (k := 192) (S := S0 ++ [.lst []]) (m := 1) (r := S0.length) (bs := []) (c0' := 60) (n := 10) d0.push (by omega) (by simp) (fun _ h => by cases h) (by omega) (by omega) (by omega) (by omega) (by simp)
  obtain ⟨t, S2, e2, t0, t1, d2, x2⟩ := s9 (k := 198) d1 (show (0 : Int) < 6 by omega) (n := 3) ⟨by decide⟩ (by omega)
  have hm2 := d2.lt
  simp only [Nat.reduceAdd] at e1 e2 e8
  obtain ⟨A, hA⟩ : ∃ A, A = bx a := ⟨_, rfl⟩
  have ia0 : ∀ S, ixD A (.int 0) S = .ok (vc a.1) S := fun S => by rw [hA]; exact ix_t0
  have ia1 : ∀ S, ixD A (.int 1) S = .ok (vc a.2) S := fun S => by rw [hA]; exact ix_t1
  rw [← hA] at e1
  have h0 : evS (cf P 199) Q55_0 [some sc, none, none, none, none, none, none, none, none, none, none] [] = .nx [some sc, some (.ref 1), none, none, none, none, none, none, none, none, none] S0 := by simp [e8]
  have h1 : evS (cf P 199) Q55_1 [some sc, some (.ref 1), none, none, none, none, none, none, none, none, none] S0 = .nx [some sc, some (.ref 1), some A, none, none, none, none, none, none, none, none] S1 := by simp [e1]
  obtain ⟨b, S3, h2, gb, d3⟩ : ∃ b S3, evS (cf P 199) Q55_2 [some sc, some (.ref 1), some A, none, none, none, none, none, none, none, none] S1 = .nx (E55 sc A (bx b) none none none none none none none) S3 ∧ Gb 132 b ∧ Dr S3 1 := by
    by_cases c : 0 < t
    · obtain ⟨b, S3, e3, gb, d3, w3⟩ := s51g (k := 192) (S := S2 ++ [.lst [bx a]]) (m := 1) (r := S2.length) (bs := [a]) (c0' := 96) (n := 10) d2.push (by omega) (by simp) (fun b h => by rw [List.mem_singleton.mp h]; exact ga) (by omega) (by omega) (by omega) (by omega) (by simp)
      simp only [Nat.reduceAdd] at e3
      rw [← hA] at e3
      exact ⟨b, S3, by simp [E55, e2, c, e3], gb.mono (by omega), d3⟩
    · obtain ⟨v, S3, e3, gv, v1, v2, d3, x3⟩ := s49g (k := 196) d2
      simp only [Nat.reduceAdd] at e3
      have eb : D.tup [vc a.1, vc v] = bx (a.1, v) := rfl
      exact ⟨(a.1, v), S3, by simp [E55, e2, c, e3, ia0, eb], ⟨ga.p.mono (by omega), gv, v1, v2⟩, d3⟩
  have xa : Xz 10 a := ga.xz (by omega) (by omega)
  have xb : Xz 10 b := gb.xz (by omega) (by omega)
  have a1 := ga.s1
  have a2 := ga.s2
  have b1 := gb.s1
  have b2 := gb.s2
  have y0 : ∀ (b : Box) S, ixD (bx b) (.int 0) S = .ok (vc b.1) S := fun b S => ix_t0
  obtain ⟨B, hB⟩ : ∃ B, B = bx b := ⟨_, rfl⟩
  have ib0 : ∀ S, ixD B (.int 0) S = .ok (vc b.1) S := fun S => by rw [hB]; exact ix_t0
  rw [← hB] at h2
  -- what is told
  have told0 : ∀ i S, Axi i → evF P 199 53 [.int 0, A, B, .int i] S = .ok (fr (gapR a b i)) S := fun i S hi => s53 (k := 198) (Y0 := vc b.1) (ib0 S) (by rw [hA, hB]; unfold cal53; rw [if_pos rfl]; exact s34 (k := 193) xa xb hi (by omega) a1 a2 b1 b2)
  have told1 : ∀ i S, Axi i → evF P 199 53 [.int 1, A, B, .int i] S = .ok (strD (strR a b i)) S := fun i S hi => s53 (k := 198) (Y0 := vc b.1) (ib0 S) (by rw [hA, hB]; unfold cal53; rw [if_neg (by decide), if_pos rfl]; exact s40 (k := 192) xa xb hi (by omega) a1 a2 b1 b2)
  have told2 : ∀ I S, evF P 199 53 [.int 2, A, B, I] S = .ok (.bl (decide (gapR a b 0 < 0 ∧ gapR a b 1 < 0))) S := fun I S => s53 (k := 198) (Y0 := vc b.1) (ib0 S) (by rw [hA, hB]; unfold cal53; rw [if_neg (by decide), if_neg (by decide), if_pos rfl]; exact s36 (k := 192) xa xb (by omega) a1 a2 b1 b2)
  have told3 : ∀ I S, evF P 199 53 [.int 3, A, B, I] S = .ok (.bl (decide (gapR a b 0 ≤ 0 ∧ gapR a b 1 ≤ 0))) S := fun I S => s53 (k := 198) (Y0 := vc b.1) (ib0 S) (by rw [hA, hB]; unfold cal53; rw [if_neg (by decide), if_neg (by decide), if_neg (by decide), if_pos rfl]; exact s38 (k := 192) xa xb (by omega) a1 a2 b1 b2)
  have told4 : ∀ I S, evF P 199 53 [.int 4, A, B, I] S = .ok (bx (hullR a b)) S := fun I S => s53 (k := 198) (Y0 := vc b.1) (ib0 S) (by rw [hA, hB]; unfold cal53; rw [if_neg (by decide), if_neg (by decide), if_neg (by decide), if_neg (by decide), if_pos rfl]; exact s42 (k := 194) xa xb (by omega) a1 a2 b1 b2)
  have told5 : ∀ I S, evF P 199 53 [.int 5, A, B, I] S = .ok (bx ((a.1.1 + b.1.1, a.1.2 + b.1.2), a.2)) S := fun I S => s53 (k := 198) (Y0 := vc b.1) (ib0 S) (by rw [hA]; unfold cal53; rw [if_neg (by decide), if_neg (by decide), if_neg (by decide), if_neg (by decide), if_neg (by decide)]; exact s41 (k := 194) xa xb.p (by omega) a1 a2)
  have l46 := fun i S (hi : Axi i) => s46 (k := 194) (S := S) xa xb hi (by omega)
  have l54 := fun i S (hi : Axi i) => s54 (k := 193) (S := S) xa xb hi (by omega)
  have l47 := fun S => s47 (k := 193) (S := S) xa xb (by omega)
  have l48 := fun S => s48 (k := 193) (S := S) xa xb (by omega)
  have l43 := fun S => s43 (k := 197) (S := S) xa.p.x xb.p.x (by omega)
  have l43' := fun S => s43 (k := 197) (S := S) xa.p.y xb.p.y (by omega)
  have l45 := fun i S (hi : Axi i) => s45 (k := 195) (S := S) xa hi (by omega)
  have l45' := fun i S (hi : Axi i) => s45 (k := 195) (S := S) xb hi (by omega)
  have l44 := fun i S => s44 (k := 197) (S := S) (xa.hi i) (xb.hi i) (by omega)
  have l25 := fun S => s25 (k := 196) (S := S) (max_sz (xa.hi 0) (xb.hi 0)) (min_sz xa.p.x xb.p.x) (by omega)
  have l25' := fun S => s25 (k := 196) (S := S) (max_sz (xa.hi 1) (xb.hi 1)) (min_sz xa.p.y xb.p.y) (by omega)
  have l24 := fun S => s24 (k := 196) (S := S) xa.p.x xb.p.x (by omega)
  have l24' := fun S => s24 (k := 196) (S := S) xa.p.y xb.p.y (by omega)
  simp only [Nat.reduceAdd] at l46 l54 l47 l48 l43 l43' l45 l45' l44 l25 l25' l24 l24'
  rw [← hA, ← hB] at l46 l54 l47 l48
  rw [← hA] at l45
  rw [← hB] at l45'
  have nfr : ∀ (x : Rat) S, cmpD .ne (fr x) (fr x) S = .ok (.bl false) S := fun x S => ne_self04 (by simp)
  have nst : ∀ (o : Option (Rat × Rat)) S, cmpD .ne (strD o) (strD o) S = .ok (.bl false) S := fun o S => ne_self04 pu_str04
  have nbx : ∀ (b : Box) S, cmpD .ne (bx b) (bx b) S = .ok (.bl false) S := fun o S => ne_self04 (by simp)
  have nbl : ∀ (b : Bool) S, cmpD .ne (.bl b) (.bl b) S = .ok (.bl false) S := fun b S => ne_bl04
  have ibl : ∀ (x : Bool) S, biD .isBool [.bl x] S = .ok (.bl true) S := fun x S => rfl
  obtain ⟨ρ3, S3', h3, ⟨o4, rfl⟩, rfl⟩ := for_inv (c := cf P 199) (t := .nm 4) (it := .val (.tup (.cons (.cst (.int (0))) (.cons (.cst (.int (1))) .nil)))) (b := B55_3) (ρ := E55 sc A B none none none none none none none) (S := S3) (S1 := S3) (xs := [.int 0, .int 1]) (ok := fun _ => True)
    (fun i ρ T => (∃ o4, ρ = E55 sc A B o4 none none none none none none) ∧ T = S3) (by simp) (fun _ _ _ _ => trivial) (fun i hi ρ T ⟨⟨o4, e⟩, eT⟩ => by
      subst e eT
      obtain ⟨j, hj, ej⟩ : ∃ j : Int, Axi j ∧ ([D.int 0, .int 1])[i] = .int j := by
        have : i = 0 ∨ i = 1 := by have : i < 2 := hi; omega
        rcases this with rfl | rfl
        · exact ⟨0, .inl rfl, rfl⟩
        · exact ⟨1, .inr rfl, rfl⟩
      rw [ej]
      have t0 := fun S => told0 j S hj
      have t1 := fun S => told1 j S hj
      have u0 := fun S => l46 j S hj
      have u1 := fun S => l54 j S hj
      exact ⟨E55 sc A B (some (.int j)) none none none none none none, T, E55 sc A B (some (.int j)) none none none none none none, T, by simp, ss_nx (s := Q55_3_0) (if_f (S1 := T) (by simp [t0, t1, u0, u1, nfr, nst]) ss_end) ss_end, ⟨_, rfl⟩, rfl⟩) ⟨⟨_, rfl⟩, rfl⟩
  obtain ⟨ov, hov⟩ : ∃ ov, ov = decide (gapR a b 0 < 0 ∧ gapR a b 1 < 0) := ⟨_, rfl⟩
  obtain ⟨tc, htc⟩ : ∃ tc, tc = decide (gapR a b 0 ≤ 0 ∧ gapR a b 1 ≤ 0) := ⟨_, rfl⟩
  rw [← hov] at told2 l47
  rw [← htc] at told3 l48
  have h4 : evS (cf P 199) Q55_4 (E55 sc A B o4 none none none none none none) S3' = .nx (E55 sc A B o4 (some (.bl ov)) none none none none none) S3' := by simp [told2]
  have h5 : evS (cf P 199) Q55_5 (E55 sc A B o4 (some (.bl ov)) none none none none none) S3' = .nx (E55 sc A B o4 (some (.bl ov)) (some (.bl tc)) none none none none) S3' := by simp [told3]
  have h6 : evS (cf P 199) Q55_6 (E55 sc A B o4 (some (.bl ov)) (some (.bl tc)) none none none none) S3' = .nx (E55 sc A B o4 (some (.bl ov)) (some (.bl tc)) none none none none) S3' := if_f (S1 := S3') (by simp [ibl, l47, l48, nbl]) ss_end
  have lowE : D.tup [fr (minR a.1.1 b.1.1), fr (minR a.1.2 b.1.2)] = vc (minR a.1.1 b.1.1, minR a.1.2 b.1.2) := rfl
  have h7 : evS (cf P 199) Q55_7 (E55 sc A B o4 (some (.bl ov)) (some (.bl tc)) none none none none) S3' = .nx (E55 sc A B o4 (some (.bl ov)) (some (.bl tc)) (some (vc (minR a.1.1 b.1.1, minR a.1.2 b.1.2))) none none none) S3' := by simp [ia0, ib0, l43, l43', lowE]
  have k44 : ∀ i S, evF P 199 44 [fr (hiR a i), fr (hiR b i)] S = .ok (fr (maxR (hiR a i) (hiR b i))) S := fun i S => l44 i S
  obtain ⟨S8, hS8⟩ : ∃ S8, S8 = S3' ++ [O.lst [fr (maxR (hiR a 0) (hiR b 0)), fr (maxR (hiR a 1) (hiR b 1))]] := ⟨_, rfl⟩
  obtain ⟨r8, hr8⟩ : ∃ r, r = S3'.length := ⟨_, rfl⟩
  have g8 : S8[r8]? = some (.lst [fr (maxR (hiR a 0) (hiR b 0)), fr (maxR (hiR a 1) (hiR b 1))]) := by rw [hS8, hr8]; simp
  have d8 : Dr S8 1 := by rw [hS8]; exact d3.push
  have h8 : evS (cf P 199) Q55_8 (E55 sc A B o4 (some (.bl ov)) (some (.bl tc)) (some (vc (minR a.1.1 b.1.1, minR a.1.2 b.1.2))) none none none) S3' = .nx (E55 sc A B o4 (some (.bl ov)) (some (.bl tc)) (some (vc (minR a.1.1 b.1.1, minR a.1.2 b.1.2))) (some (.ref r8)) none none) S8 := by
    have p0 := fun S => l45 0 S (.inl rfl)
    have p1 := fun S => l45 1 S (.inr rfl)
    have p2 := fun S => l45' 0 S (.inl rfl)
    have p3 := fun S => l45' 1 S (.inr rfl)
    simp [compL, wipeE, p0, p1, p2, p3, k44, hr8, hS8]
  have i80 : ∀ T, T = S8 → ixD (.ref r8) (.int 0) T = .ok (fr (maxR (hiR a 0) (hiR b 0))) T := fun T e => by rw [e]; exact ix_ref g8 (by rw [atI_nn (by omega)]; rfl)
  have i81 : ∀ T, T = S8 → ixD (.ref r8) (.int 1) T = .ok (fr (maxR (hiR a 1) (hiR b 1))) T := fun T e => by rw [e]; exact ix_ref g8 (by rw [atI_nn (by omega)]; rfl)
  have i80 := i80 S8 rfl
  have i81 := i81 S8 rfl
  have hullE : D.tup [vc (minR a.1.1 b.1.1, minR a.1.2 b.1.2), .tup [fr (maxR (hiR a 0) (hiR b 0) - minR a.1.1 b.1.1), fr (maxR (hiR a 1) (hiR b 1) - minR a.1.2 b.1.2)]] = bx (hullR a b) := rfl
  have h9 : evS (cf P 199) Q55_9 (E55 sc A B o4 (some (.bl ov)) (some (.bl tc)) (some (vc (minR a.1.1 b.1.1, minR a.1.2 b.1.2))) (some (.ref r8)) none none) S8 = .nx (E55 sc A B o4 (some (.bl ov)) (some (.bl tc)) (some (vc (minR a.1.1 b.1.1, minR a.1.2 b.1.2))) (some (.ref r8)) none none) S8 := if_f (S1 := S8) (by simp [told4, i80, i81, l25, l25', hullE, nbx]) ss_end
  have movE : D.tup [.tup [fr (a.1.1 + b.1.1), fr (a.1.2 + b.1.2)], vc a.2] = bx ((a.1.1 + b.1.1, a.1.2 + b.1.2), a.2) := rfl
  have h10 : evS (cf P 199) Q55_10 (E55 sc A B o4 (some (.bl ov)) (some (.bl tc)) (some (vc (minR a.1.1 b.1.1, minR a.1.2 b.1.2))) (some (.ref r8)) none none) S8 = .nx (E55 sc A B o4 (some (.bl ov)) (some (.bl tc)) (some (vc (minR a.1.1 b.1.1, minR a.1.2 b.1.2))) (some (.ref r8)) none none) S8 := if_f (S1 := S8) (by simp [told5, ia0, ia1, ib0, l24, l24', movE, nbx]) ss_end
  -- the flat box
  obtain ⟨f, S11, h11, hf⟩ : ∃ f S11, evS (cf P 199) Q55_11 (E55 sc A B o4 (some (.bl ov)) (some (.bl tc)) (some (vc (minR a.1.1 b.1.1, minR a.1.2 b.1.2))) (some (.ref r8)) none none) S8 = .nx (E55 sc A B o4 (some (.bl ov)) (some (.bl tc)) (some (vc (minR a.1.1 b.1.1, minR a.1.2 b.1.2))) (some (.ref r8)) (some (bx f)) none) S11 ∧ (f.2.1 ≤ 0 ∨ f.2.2 ≤ 0) := by
    obtain ⟨u, T1, f1, u0, u1, dT1, _⟩ := s9 (k := 198) d8 (show (0 : Int) < 2 by omega) (n := 3) ⟨by decide⟩ (by omega)
    obtain ⟨v, T2, f2, v0, v1, dT2, _⟩ := s9 (k := 198) dT1 (show (0 : Int) < 2 by omega) (n := 3) ⟨by decide⟩ (by omega)
    simp only [Nat.reduceAdd] at f1 f2
    have ev : D.tup [.int (0 - v), .int 1] = fr (((0 - v : Int)) : Rat) := rfl
    have e1 : D.tup [.int 1, .int 1] = fr 1 := rfl
    have ev' : D.tup [.int (-v), .int 1] = fr (((0 - v : Int)) : Rat) := by rw [← ev]; simp
    have le : (((0 - v : Int)) : Rat) ≤ 0 := by
      have : (((0 - v : Int)) : Rat) ≤ ((0 : Int) : Rat) := Rat.intCast_le_intCast.mpr (by omega)
      exact this
    have ey : (((0 - v : Int)) : Rat) = -((v : Int) : Rat) := by simp
    rw [ey] at le ev'
    obtain ⟨y, hy⟩ : ∃ y : Rat, y = -((v : Int) : Rat) := ⟨_, rfl⟩
    rw [← hy] at le ev'
    by_cases c : u = 1
    · have eb : D.tup [vc a.1, .tup [fr y, fr 1]] = bx (a.1, (y, 1)) := rfl
      exact ⟨(a.1, (y, 1)), T2, by simp [f1, c, ia0, f2, ev', e1, eb], .inl le⟩
    · have eb : D.tup [vc a.1, .tup [fr 1, fr y]] = bx (a.1, (1, y)) := rfl
      exact ⟨(a.1, (1, y)), T2, by simp [f1, c, ia0, f2, ev', e1, eb], .inr le⟩
  obtain ⟨F, hF⟩ : ∃ F, F = bx f := ⟨_, rfl⟩
  have if0 : ∀ S, ixD F (.int 0) S = .ok (vc f.1) S := fun S => by rw [hF]; exact ix_t0
  rw [← hF] at h11
  have w1 : ∀ (w : Int) I S, 0 ≤ w → w ≤ 5 → evF P 199 53 [.int w, F, B, I] S = .ok (.str (clsS 3)) S := fun w I S w0 w5 => s53e (k := 198) (Y0 := vc b.1) (ib0 S) (.inl rfl) (by rw [hF, hB]; exact flat53 (k := 196) (.inl hf) ⟨w0, w5⟩)
  have w2 : ∀ (w : Int) I S, 0 ≤ w → w < 5 → evF P 199 53 [.int w, A, F, I] S = .ok (.str (clsS 3)) S := fun w I S w0 w5 => s53e (k := 198) (Y0 := vc f.1) (if0 S) (.inl rfl) (by rw [hF, hA]; exact flat53 (k := 196) (.inr ⟨by omega, a1, a2, hf⟩) ⟨w0, by omega⟩)
  have c3 : (Str.ofString "box") = clsS 3 := rfl
  have c2 : (Str.ofString "axis") = clsS 2 := rfl
  have ncl : ∀ c S, cmpD .ne (.str (clsS c)) (.str (clsS c)) S = .ok (.bl false) S := fun c S => ne_self04 pu_cls
  have ecl : ∀ c S, cmpD .eq (.str (clsS c)) (.str (clsS c)) S = .ok (.bl true) S := fun c S => eq_self04 pu_cls
  let EE (o : Option D) : En := E55 sc A B o4 (some (.bl ov)) (some (.bl tc)) (some (vc (minR a.1.1 b.1.1, minR a.1.2 b.1.2))) (some (.ref r8)) (some F) o
  have rg : evIt (cf P 199) (.rg1 (.cst (.int (6)))) (EE none) S11 = .ok (rangeD 0 6, fun _ => True) S11 := by simp [EE, rgI1_ok (show (6 : Int) < 1000000 by omega) (by omega)]
  have l6 : (rangeD 0 6).length = 6 := by rw [rangeD_len]; rfl
  obtain ⟨ρ12, S12, h12, ⟨o10, rfl⟩, rfl⟩ := for_inv (c := cf P 199) (t := .nm 10) (b := B55_12) (fun i ρ T => (∃ o, ρ = EE o) ∧ T = S11) rg (fun _ _ _ _ => trivial) (fun i hi ρ T ⟨⟨o, e⟩, eT⟩ => by
    subst e eT
    have hi6 : i < 6 := by omega
    rw [rangeD_get]
    obtain ⟨w, hw⟩ : ∃ w : Int, w = 0 + i := ⟨_, rfl⟩
    rw [← hw]
    have z1 := fun S => w1 w (.int 2) S (by omega) (by omega)
    refine ⟨EE (some (.int w)), T, EE (some (.int w)), T, by simp [EE], ss_nx (s := Q55_12_0) (if_f (S1 := T) ?_ ss_end) ss_end, ⟨_, rfl⟩, rfl⟩
    by_cases c5 : w < 5
    · have z2 := fun S => w2 w (.int 2) S (by omega) c5
      simp [EE, z1, z2, c5, c3, ncl 3]
    · simp [EE, z1, c5, c3, ncl 3]) ⟨⟨_, rfl⟩, rfl⟩
  have x0 : ∀ S, evF P 199 53 [.int 0, A, B, .int (-1)] S = .ok (.str (clsS 2)) S := fun S => s53e (k := 198) (Y0 := vc b.1) (ib0 S) (.inr rfl) (by rw [hA, hB]; exact axis53 (k := 196) (.inl rfl) a1 a2 b1 b2 (by unfold Axi; omega))
  have x1 : ∀ S, evF P 199 53 [.int 1, A, B, .int 2] S = .ok (.str (clsS 2)) S := fun S => s53e (k := 198) (Y0 := vc b.1) (ib0 S) (.inr rfl) (by rw [hA, hB]; exact axis53 (k := 196) (.inr rfl) a1 a2 b1 b2 (by unfold Axi; omega))
  have h13 : evS (cf P 199) Q55_13 (EE o10) S12 = .rt (.bl true) S12 := by simp [EE, x0, x1, c2, ecl 2]
  refine ⟨SB.tidy 0 (.bl true) S12, ?_⟩
  rw [evF_of (k := 199) (F := F55) (xs := [sc]) rfl rfl (by decide) (r := .rt (.bl true) S12) (ss_nx h0 (ss_nx h1 (ss_nx h2 (ss_nx (s := Q55_3) h3 (ss_nx h4 (ss_nx h5 (ss_nx h6 (ss_nx h7 (ss_nx h8 (ss_nx h9 (ss_nx h10 (ss_nx h11 (ss_nx (s := Q55_12) h12 (ss_rt h13))))))))))))))]
  rfl

end LW

open PyProof.Rows PySem.Calls PySem.W PySem
theorem PySem.Challenge.cw_steadybodies_k04_gaps_and_stretches_holds : PySem.Challenge.rw_steadybodies_k04_gaps_and_stretches.Holds := by
  w_on; o_law
  refine HandSHeadRun.head_imp (r := OpenLaw.row PySem.Challenge.rw_steadybodies_k04_gaps_and_stretches) (q := view (OpenLaw.row PySem.Challenge.rw_steadybodies_k04_gaps_and_stretches).prog [0, 53]) (H := LW.hk) (ob := LW.ob) (M := 7240) (loose := LW.loose) (d := HandSHeadRun.topDef (OpenLaw.row PySem.Challenge.rw_steadybodies_k04_gaps_and_stretches).prog 53) (kwd := []) LW.ob_eq
    LW.run (by kernel_rfl) (by kernel_rfl) (by kernel_rfl) (by rfl) (by first | assumption | decide +kernel) (by decide +kernel) ⟨rfl, rfl, rfl, rfl, rfl, by decide +kernel⟩ ?hw ?hc
  case hw => w_witness2
  case hc => exact SB.sb_walk (k := 200) (x := "_law_script") (law := "law") (F := LW.F55) (il := 55) rfl (by kernel_rfl) ⟨rfl, by decide, by decide⟩ (fun q hq => List.mem_append_left _ (List.mem_map_of_mem (f := fun q => SB.dD q.1 (LW.stOf q.2)) hq)) LW.ds_ok (fun j k b h => SB.mem_lookup h) ⟨rfl, rfl, rfl⟩ (fun q hq => ⟨List.mem_append_right _ (List.mem_append_right _ (LW.kf_ok q hq).1), fun m hm => List.mem_append_right _ (List.mem_append_right _ ((LW.kf_ok q hq).2 m hm))⟩) LW.ks_ok (fun q hq => List.mem_append_right _ (List.mem_append_left _ (List.mem_map_of_mem (f := fun q => SB.dD q.1 (LW.stOf q.2)) hq))) LW.hs_ok (by kernel_rfl) (by kernel_rfl) LW.d55 LW.law_true
